/- The law. Part of a proof of a given statement: for every input the law returns true and the arguments read as before; no condition beyond the given row. -/
import Derived.Test.YtmiobindnojbaaaGreatDoorLiftF1
namespace Go.Av
noncomputable section
open Go.Proofs
set_option maxRecDepth 100000
set_option maxHeartbeats 4000000
attribute [local irreducible] Wa Yl Q8h Q8m Qj3 Qid Q99
section
def W9 (_N : Nat) (r_0 : Qg) (p : Qw) : Option (Int) :=
 cond (Q0n .neq p.Text [])
 (some 2)
 (cond (Q0n .neq p.Value [])
 (some 2)
 (cond (Qa .lss p.N' r_0.least)
 (some 9)
 (cond (Qa .gtr p.N' r_0.most)
 (some 9)
 (some 0))))
theorem Gw {N} {r_0} {p} {r} (h : W9 N r_0 p = some r) : Xl Tryz.prog G1 79 [.agg (Qg.cells r_0), .agg (Qw.cells p)] (.int .i64 r) := by
 refine Q3 k79 ?_
 unfold W9 at h
 rw [cX, cY] at h
 apply iU h <;> intro h
 ·cases h; exact (.p _)
 ·apply iU h <;> intro h
  ·cases h; exact (.p _)
  ·apply iU h <;> intro h
   ·cases h; exact (.p _)
   ·apply iU h <;> intro h
    ·cases h; exact (.p _)
    ·cases h; exact (.p _)
def V2 (N : Nat) (r_0 : Qg) (kind : Int) (p : Qw) : Option (Int) :=
 (Vd N r_0 kind).bind fun v1 =>
 cond (!v1)
 (some 9)
 (cond (Qa .leq r_0.shape 4)
 ((W9 N r_0 p).bind fun v5 =>
 some v5)
 (cond (Qa .neq p.N' 0)
 (some 2)
 (cond (Q0n .neq p.Value [])
 (cond (Qa .neq r_0.shape 7)
 (some 2)
 (cond (Qa .eql r_0.shape 6)
 (cond (Qa .gtr (p.Text.length : Int) 65535)
 (some 2)
 (some 0))
 ((Z6 N p.Text).bind fun v12 =>
 cond (!v12)
 (some 6)
 ((Z6 N p.Value).bind fun v15 =>
 cond (!v15)
 (some 6)
 (cond (Qa .eql p.ID 8)
 ((X1 N p.Text).bind fun v19 =>
 cond (!v19)
 (some 9)
 (some 0))
 (some 0))))))
 (cond (Qa .eql r_0.shape 6)
 (cond (Qa .gtr (p.Text.length : Int) 65535)
 (some 2)
 (some 0))
 ((Z6 N p.Text).bind fun v24 =>
 cond (!v24)
 (some 6)
 ((Z6 N p.Value).bind fun v27 =>
 cond (!v27)
 (some 6)
 (cond (Qa .eql p.ID 8)
 ((X1 N p.Text).bind fun v31 =>
 cond (!v31)
 (some 9)
 (some 0))
 (some 0))))))))
theorem Gs {N} {r_0} {kind} {p} {r} (h : V2 N r_0 kind p = some r) : Xl Tryz.prog G1 55 [.agg (Qg.cells r_0), .int .i64 kind, .agg (Qw.cells p)] (.int .i64 r) := by
 refine Q3 k55 ?_
 unfold V2 at h
 rw [cX, cY] at h
 refine cP h Q1q (.cons q4 p1) fun v1 h => ?_
 apply iU h <;> intro h
 ·cases h; exact (.p _)
 ·apply iU h <;> intro h
  ·refine cP h Gw (.cons q4 (.cons q4 .nil)) fun v5 h => ?_
   cases h; exact (.p _)
  ·apply iU h <;> intro h
   ·cases h; exact (.p _)
   ·apply iU h <;> intro h
    ·apply iU h <;> intro h
     ·cases h; exact (.p _)
     ·apply iU h <;> intro h
      ·apply iU h <;> intro h
       ·cases h; exact (.p _)
       ·cases h; exact (.p _)
      ·refine cP h Xa p1 fun v12 h => ?_
       apply iU h <;> intro h
       ·cases h; exact (.p _)
       ·refine cP h Xa p1 fun v15 h => ?_
        apply iU h <;> intro h
        ·cases h; exact (.p _)
        ·apply iU h <;> intro h
         ·refine cP h Vc p1 fun v19 h => ?_
          apply iU h <;> intro h
          ·cases h; exact (.p _)
          ·cases h; exact (.p _)
         ·cases h; exact (.p _)
    ·apply iU h <;> intro h
     ·apply iU h <;> intro h
      ·cases h; exact (.p _)
      ·cases h; exact (.p _)
     ·refine cP h Xa p1 fun v24 h => ?_
      apply iU h <;> intro h
      ·cases h; exact (.p _)
      ·refine cP h Xa p1 fun v27 h => ?_
       apply iU h <;> intro h
       ·cases h; exact (.p _)
       ·apply iU h <;> intro h
        ·refine cP h Vc p1 fun v31 h => ?_
         apply iU h <;> intro h
         ·cases h; exact (.p _)
         ·cases h; exact (.p _)
        ·cases h; exact (.p _)
def U0 (_N : Nat) (kind : Int) (id : Int) : Option (Bool) :=
 cond (Qa .eql id 38)
 (some true)
 (cond (Qa .eql id 11)
 (some (Qa .eql kind 3))
 (some false))
theorem Gt {N} {kind} {id} {r} (h : U0 N kind id = some r) : Xl Tryz.prog G1 80 [.int .i64 kind, .int .i64 id] (.bool r) := by
 refine Q3 k80 ?_
 unfold U0 at h
 rw [cX] at h
 apply iU h <;> intro h
 ·cases h; exact (.p _)
 ·apply iU h <;> intro h
  ·cases h; exact (.p _)
  ·cases h; exact (.p _)
def Wt (N : Nat) (s_0 : List UInt8) : Option (List UInt8) :=
 (Xg N (IntKind.wrap .u64 (s_0.length : Int)) 2).bind fun v1 =>
 cond (Nat.ble (v1.length + s_0.length) 4611686018427387904) (some (v1 ++ s_0)) none
theorem Q0y {N} {s_0} {r} (h : Wt N s_0 = some r) : Xl Tryz.prog G1 97 [.str s_0] (.str r) := by
 refine Q3 k97 ?_
 unfold Wt at h
 refine cP h Xh p2 fun v1 h => ?_
 refine kU h fun h => ?_
 cases h; exact (.p _)
def W0 (N : Nat) (s_0 : List UInt8) : Option ((List UInt8) × Int) :=
 cond (Qa .gtr (s_0.length : Int) 65535)
 (some ([], 2))
 ((Wt N s_0).bind fun v2 =>
 some (v2, 0))
theorem Uy {N} {s_0} {r} (h : W0 N s_0 = some r) : Xl Tryz.prog G1 82 [.str s_0] (.tuple [.str r.1, .int .i64 r.2]) := by
 refine Q3 k82 ?_
 unfold W0 at h
 rw [cX] at h
 apply iU h <;> intro h
 ·obtain rfl := Uc h; exact u2
 ·refine cP h Q0y p1 fun v2 h => ?_
  obtain rfl := Uc h; exact u2
def Vy (_N : Nat) (n_0 : Int) : Option (Bool) :=
 cond (Qa .geq n_0 0)
 (some (Qa .leq n_0 268435455))
 (some false)
theorem Q4b {N} {n_0} {r} (h : Vy N n_0 = some r) : Xl Tryz.prog G1 83 [.int .i64 n_0] (.bool r) := by
 refine Q3 k83 ?_
 unfold Vy at h
 rw [cX] at h
 apply iU h <;> intro h
 ·cases h; exact (.p _)
 ·cases h; exact (.p _)
def Yi (N : Nat) : Nat → Int → (List Int) → Option ((List UInt8) × Int)
 | 0, _, _ => none
 | n + 1, n9, l10 =>
  cond (Qa .geq n9 128)
  (cond (Nat.ble ((l10.length + 1 + 4096) * 1) 17592186044416) (Yi N n (IntKind.wrap .i64 ((n9 : Int).tdiv 128)) (l10 ++ [(orI .u8 (IntKind.wrap .u8 ((n9 : Int).tmod 128)) 128)])) none)
  (cond (Nat.ble ((l10.length + 1 + 4096) * 1) 17592186044416) (some (((l10 ++ [(IntKind.wrap .u8 n9)]).map fun n => UInt8.ofNat n.toNat), 0)) none)
def Xk (N : Nat) (n_0 : Int) : Option ((List UInt8) × Int) :=
 (Vy N n_0).bind fun v1 =>
 cond (!v1)
 (some ([], 2))
 (Yi N N n_0 [])
theorem Vk {N} {n_0} {r} (h : Xk N n_0 = some r) : Xl Tryz.prog G1 59 [.int .i64 n_0] (.tuple [.str r.1, .int .i64 r.2]) := by
 refine Q3 k59 ?_
 unfold Xk at h
 refine cP h Q4b p1 fun v1 h => ?_
 apply iU h <;> intro h
 ·obtain rfl := Uc h; exact u2
 ·refine lpC (τ := Int × (List Int)) (fun ⟨n9, l10⟩ => (iI n9 :: a2 (.any :: .slice 1 0 0 l10.length :: a16 (a4 ([]))) : List AV)) (fun ⟨_, l10⟩ => (.cells (Ua (cI .u8) l10) :: [] : List AObj)) (fun n0 ⟨n9, l10⟩ => Yi N n0 n9 l10) (n_0, []) h (fun i => i) ⟨(rE rfl <| rW <| rA <| rS <| rX <| rX <| rV <| rN), (hV lb <| hN), rfl, rfl, (roE (Y5 _ _ _) <| roN)⟩ fun n0 ⟨n9, l10⟩ h => ?_
  first | rw [Yi] at h | simp only [Yi] at h
  rw [cX] at h
  apply iU h <;> intro h
  ·obtain ⟨hk12, h⟩ := Qcm h
   refine Q4t (Jg (c := (cI .u8)) (e := 1) (fun _ => rfl) (by first | (simp; done) | (simp [Q7]; done)) hk12) ?_
   refine Q0j (c := (cI .u8)) [(orI .u8 (IntKind.wrap .u8 ((n9 : Int).tmod 128)) 128)] rfl ?_
   show Exists _
   exact ⟨(n0, (IntKind.wrap .i64 ((n9 : Int).tdiv 128)), (l10 ++ [(orI .u8 (IntKind.wrap .u8 ((n9 : Int).tmod 128)) 128)])), h, Nat.lt_succ_self _, (rho [2]), ⟨(rE rfl <| rW <| rA <| rL (by first | (simp; done) | (simp [Q7]; done)) rfl <| rX <| rX <| rV <| rN), (hO rfl <| hN), rfl, rfl, (roE (Y5 _ _ _) <| roN)⟩⟩
  ·obtain ⟨hk13, h⟩ := Qcm h
   refine Q4t (Jg (c := (cI .u8)) (e := 1) (fun _ => rfl) (by first | (simp; done) | (simp [Q7]; done)) hk13) ?_
   refine Q0j (c := (cI .u8)) [(IntKind.wrap .u8 n9)] rfl ?_
   refine Qbh (l := (l10 ++ [(IntKind.wrap .u8 n9)])) (n := (l10.length + 1)) (by first | (simp; done) | (simp [Q7]; done)) ?_
   obtain rfl := Uc h; exact u2
def Xs (N : Nat) (shape : Int) (p : Qw) : Option (List UInt8) :=
 cond (Qa .eql shape 1)
 ((Xg N (IntKind.wrap .u64 p.N') shape).bind fun v2 =>
 some v2)
 (cond (Qa .eql shape 2)
 ((Xg N (IntKind.wrap .u64 p.N') shape).bind fun v5 =>
 some v5)
 (cond (Qa .eql shape 3)
 ((Xg N (IntKind.wrap .u64 p.N') 4).bind fun v8 =>
 some v8)
 (cond (Qa .eql shape 4)
 ((Xk N (IntKind.wrap .i64 p.N')).bind fun v11 =>
 some v11.1)
 ((W0 N p.Text).bind fun v13 =>
 cond (Qa .neq shape 7)
 (some v13.1)
 ((W0 N p.Value).bind fun v16 =>
 cond (Nat.ble (v13.1.length + v16.1.length) 4611686018427387904) (some (v13.1 ++ v16.1)) none)))))
theorem V5 {N} {shape} {p} {r} (h : Xs N shape p = some r) : Xl Tryz.prog G1 57 [.int .i64 shape, .agg (Qw.cells p)] (.str r) := by
 refine Q3 k57 ?_
 unfold Xs at h
 rw [cX] at h
 refine ifO h (fun hc1 h => ?_) (fun hc1 h => ?_)
 ·refine ifT hc1 ?_
  refine cP h Xh p2 fun v2 h => ?_
  cases h; exact (.p _)
 ·apply iU h <;> intro h
  ·refine cP h Xh p2 fun v5 h => ?_
   cases h; exact (.p _)
  ·apply iU h <;> intro h
   ·refine cP h Xh p2 fun v8 h => ?_
    cases h; exact (.p _)
   ·apply iU h <;> intro h
    ·refine cP h Vk p1 fun v11 h => ?_
     cases h; exact (.p _)
    ·refine cP h Uy p1 fun v13 h => ?_
     apply iU h <;> intro h
     ·cases h; exact (.p _)
     ·refine cP h Uy p1 fun v16 h => ?_
      refine kU h fun h => ?_
      cases h; exact (.p _)
def Qr (N : Nat) (kind : Int) (l : List Qw) : Nat → Int → (List Int) → (List Int) → Option ((List UInt8) × Int)
 | 0, _, _, _ => none
 | n + 1, s107, l108, l109 =>
  cond (Qa .lss s107 ((Q7 Qw.cells l).length : Int))
  ((idx l s107).bind fun y111 =>
  optC (Ji F_prop_rules_tab y111.ID) (fun m113 =>
  (V2 N m113 kind y111).bind fun v115 =>
  cond (Qa .neq v115 0)
  (some ([], v115))
  (cond (decide (0 ≤ y111.ID) && decide (y111.ID < ((64 : Nat) : Int))) ((idx (l108 : List Int) y111.ID).bind fun y118 =>
  (idx (l108 : List Int) y111.ID).bind fun y121 =>
  (idx (((l108 : List Int).set (Int.toNat y111.ID) (IntKind.wrap .i64 (y118 + 1))) : List Int) y111.ID).bind fun y123 =>
  cond (Qa .gtr y123 1)
  ((U0 N kind y111.ID).bind fun v126 =>
  cond (!v126)
  (some ([], 9))
  (cond (Nat.ble ((l109.length + 1 + 4096) * 1) 17592186044416) ((Xs N m113.shape y111).bind fun v130 =>
  cond (Nat.beq v130.length 0)
  (Qr N kind l n (IntKind.wrap .i64 (s107 + 1)) ((l108 : List Int).set (Int.toNat y111.ID) (IntKind.wrap .i64 (y118 + 1))) (l109 ++ [(IntKind.wrap .u8 y111.ID)]))
  (cond (Nat.ble (((l109.length + 1) + v130.length + 4096) * 1) 17592186044416) (Qr N kind l n (IntKind.wrap .i64 (s107 + 1)) ((l108 : List Int).set (Int.toNat y111.ID) (IntKind.wrap .i64 (y118 + 1))) ((l109 ++ [(IntKind.wrap .u8 y111.ID)]) ++ (v130.map fun b => (b.toNat : Int)))) none)) none))
  (cond (Nat.ble ((l109.length + 1 + 4096) * 1) 17592186044416) ((Xs N m113.shape y111).bind fun v135 =>
  cond (Nat.beq v135.length 0)
  (Qr N kind l n (IntKind.wrap .i64 (s107 + 1)) ((l108 : List Int).set (Int.toNat y111.ID) (IntKind.wrap .i64 (y118 + 1))) (l109 ++ [(IntKind.wrap .u8 y111.ID)]))
  (cond (Nat.ble (((l109.length + 1) + v135.length + 4096) * 1) 17592186044416) (Qr N kind l n (IntKind.wrap .i64 (s107 + 1)) ((l108 : List Int).set (Int.toNat y111.ID) (IntKind.wrap .i64 (y118 + 1))) ((l109 ++ [(IntKind.wrap .u8 y111.ID)]) ++ (v135.map fun b => (b.toNat : Int)))) none)) none)) none))
  ((V2 N (⟨0, 0, 0, 0⟩ : Qg) kind y111).bind fun v139 =>
  cond (Qa .neq v139 0)
  (some ([], v139))
  (cond (decide (0 ≤ y111.ID) && decide (y111.ID < ((64 : Nat) : Int))) ((idx (l108 : List Int) y111.ID).bind fun y142 =>
  (idx (l108 : List Int) y111.ID).bind fun y145 =>
  (idx (((l108 : List Int).set (Int.toNat y111.ID) (IntKind.wrap .i64 (y142 + 1))) : List Int) y111.ID).bind fun y147 =>
  cond (Qa .gtr y147 1)
  ((U0 N kind y111.ID).bind fun v150 =>
  cond (!v150)
  (some ([], 9))
  (cond (Nat.ble ((l109.length + 1 + 4096) * 1) 17592186044416) ((Xs N 0 y111).bind fun v154 =>
  cond (Nat.beq v154.length 0)
  (Qr N kind l n (IntKind.wrap .i64 (s107 + 1)) ((l108 : List Int).set (Int.toNat y111.ID) (IntKind.wrap .i64 (y142 + 1))) (l109 ++ [(IntKind.wrap .u8 y111.ID)]))
  (cond (Nat.ble (((l109.length + 1) + v154.length + 4096) * 1) 17592186044416) (Qr N kind l n (IntKind.wrap .i64 (s107 + 1)) ((l108 : List Int).set (Int.toNat y111.ID) (IntKind.wrap .i64 (y142 + 1))) ((l109 ++ [(IntKind.wrap .u8 y111.ID)]) ++ (v154.map fun b => (b.toNat : Int)))) none)) none))
  (cond (Nat.ble ((l109.length + 1 + 4096) * 1) 17592186044416) ((Xs N 0 y111).bind fun v159 =>
  cond (Nat.beq v159.length 0)
  (Qr N kind l n (IntKind.wrap .i64 (s107 + 1)) ((l108 : List Int).set (Int.toNat y111.ID) (IntKind.wrap .i64 (y142 + 1))) (l109 ++ [(IntKind.wrap .u8 y111.ID)]))
  (cond (Nat.ble (((l109.length + 1) + v159.length + 4096) * 1) 17592186044416) (Qr N kind l n (IntKind.wrap .i64 (s107 + 1)) ((l108 : List Int).set (Int.toNat y111.ID) (IntKind.wrap .i64 (y142 + 1))) ((l109 ++ [(IntKind.wrap .u8 y111.ID)]) ++ (v159.map fun b => (b.toNat : Int)))) none)) none)) none)))
  ((idx (l108 : List Int) 22).bind fun y163 =>
  cond (Qa .gtr y163 0)
  ((idx (l108 : List Int) 21).bind fun y166 =>
  cond (Qa .eql y166 0)
  (some ([], 9))
  ((Xk N (l109.length : Int)).bind fun v169 =>
  cond (Qa .neq v169.2 0)
  (some ([], 4))
  (cond (Nat.ble (v169.1.length + (l109.map fun n => UInt8.ofNat n.toNat).length) 4611686018427387904) (some ((v169.1 ++ (l109.map fun n => UInt8.ofNat n.toNat)), 0)) none)))
  ((Xk N (l109.length : Int)).bind fun v173 =>
  cond (Qa .neq v173.2 0)
  (some ([], 4))
  (cond (Nat.ble (v173.1.length + (l109.map fun n => UInt8.ofNat n.toNat).length) 4611686018427387904) (some ((v173.1 ++ (l109.map fun n => UInt8.ofNat n.toNat)), 0)) none)))
def Gj (N : Nat) (kind : Int) (l : List Qw) : Option ((List UInt8) × Int) :=
 cond (Qa .gtr ((Q7 Qw.cells l).length : Int) 1000)
 (some ([], 4))
 (Qr N kind l N 0 [0, 0, 0, 0, 0, 0, 0, 0, 0, 0, 0, 0, 0, 0, 0, 0, 0, 0, 0, 0, 0, 0, 0, 0, 0, 0, 0, 0, 0, 0, 0, 0, 0, 0, 0, 0, 0, 0, 0, 0, 0, 0, 0, 0, 0, 0, 0, 0, 0, 0, 0, 0, 0, 0, 0, 0, 0, 0, 0, 0, 0, 0, 0, 0] [])
theorem Q4l {N} {kind} {l} {r} (h : Gj N kind l = some r) : Xl Tryz.prog G1 41 [.int .i64 kind, .slice 4 (Q7 Qw.cells l)] (.tuple [.str r.1, .int .i64 r.2]) := by
 refine Q3 k41 ?_
 unfold Gj at h
 rw [cX] at h
 apply iU h <;> intro h
 ·obtain rfl := Uc h; exact u2
 ·refine Wd Q4g .nil ?_
  refine lpC (τ := Int × (List Int) × (List Int)) (fun ⟨s107, _, l109⟩ => (iI kind :: a4 (.any :: .p (.pmap (Qjs (fun v => .agg (Qg.cells v)) F_prop_rules_tab)) :: .ptr 0 0 :: .slice 1 1 0 l109.length :: a8 (a2 (.p (.slice 4 (Q7 Qw.cells l)) :: iI ((Q7 Qw.cells l).length : Int) :: iI s107 :: a16 (a16 (a8 (a2 (.any :: []))))))) : List AV)) (fun ⟨_, l108, l109⟩ => (.cells (Ua (cI .i64) l108) :: .cells (Ua (cI .u8) l109) :: [] : List AObj)) (fun n0 ⟨s107, l108, l109⟩ => Qr N kind l n0 s107 l108 l109) (0, [0, 0, 0, 0, 0, 0, 0, 0, 0, 0, 0, 0, 0, 0, 0, 0, 0, 0, 0, 0, 0, 0, 0, 0, 0, 0, 0, 0, 0, 0, 0, 0, 0, 0, 0, 0, 0, 0, 0, 0, 0, 0, 0, 0, 0, 0, 0, 0, 0, 0, 0, 0, 0, 0, 0, 0, 0, 0, 0, 0, 0, 0, 0, 0], []) h (fun i => i) ⟨(rE rfl <| rV <| rA <| rE rfl <| rE rfl <| rS <| rX <| rW <| rE rfl <| rE rfl <| rE rfl <| rX <| rX <| rX <| rX <| rX <| rW <| rA <| rN), (hO rfl <| hV lb <| hN), rfl, rfl, (roE (Y5 _ _ _) <| roE (Y5 _ _ _) <| roN)⟩ fun n0 ⟨s107, l108, l109⟩ h => ?_
  first | rw [Qr] at h | simp only [Qr] at h
  rw [cX] at h
  apply iU h <;> intro h
  ·refine xR h fun y111 h => ?_
   refine Qdr h (fun m113 hm114 h => ?_) (fun hm114 h => ?_)
   ·refine cP h Gs (.cons q4 (.cons (.p _) (.cons q4 .nil))) fun v115 h => ?_
    apply iU h <;> intro h
    ·obtain rfl := Uc h; exact u2
    ·refine Q2 k56 ?_
     refine Ql ?_
     obtain ⟨hk120, h⟩ := Qcm h
     refine Q4t hk120 ?_
     obtain ⟨y118, hy119, h⟩ := Jh h
     refine Gx (c := (cI .i64)) (e := 1) (fun _ => rfl) hy119 (off := 0) (by decide) (by first | omega | (simp only [Qf0, orI, Qf7, G6, Qc5, Q19]; omega)) ?_
     refine Q4t hk120 ?_
     obtain ⟨y121, hy122, h⟩ := Jh h
     refine Q4t (Q44 (c := (cI .i64)) (e := 1) (fun _ => rfl) hy122 (off := 0) (by omega) rfl (by decide)) ?_
     refine Q4r (c := (cI .i64)) (e := 1) (fun _ => rfl) hy122 (IntKind.wrap .i64 (y118 + 1)) (off := 0) (by first | omega | (simp only [Qf0, orI, Qf7, G6, Qc5, Q19]; omega)) rfl (by simp) ?_
     refine Q4t hk120 ?_
     obtain ⟨y123, hy124, h⟩ := Jh h
     refine Gx (c := (cI .i64)) (e := 1) (fun _ => rfl) hy124 (off := 0) (by decide) (by first | omega | (simp only [Qf0, orI, Qf7, G6, Qc5, Q19]; omega)) ?_
     apply iU h <;> intro h
     ·refine cP h Gt p2 fun v126 h => ?_
      apply iU h <;> intro h
      ·obtain rfl := Uc h; exact u2
      ·refine Ql ?_
       obtain ⟨hk129, h⟩ := Qcm h
       refine Q4t (Jg (c := (cI .u8)) (e := 1) (fun _ => rfl) (by first | (simp; done) | (simp [Q7]; done)) hk129) ?_
       refine Q0j (c := (cI .u8)) [(IntKind.wrap .u8 y111.ID)] rfl ?_
       refine cD h V5 (.cons (.p _) (.cons q4 .nil)) fun v130 h => ?_
       refine Qb1 (b := v130) ?_
       apply iU h <;> intro h
       ·show Exists _
        exact ⟨(n0, (IntKind.wrap .i64 (s107 + 1)), ((l108 : List Int).set (Int.toNat y111.ID) (IntKind.wrap .i64 (y118 + 1))), (l109 ++ [(IntKind.wrap .u8 y111.ID)])), h, Nat.lt_succ_self _, (rho [0, 5]), ⟨(rE rfl <| rV <| rA <| rE rfl <| rE rfl <| rL (by first | (simp; done) | (simp [Q7]; done)) rfl <| rX <| rW <| rE rfl <| rE rfl <| rE rfl <| rX <| rX <| rX <| rX <| rX <| rW <| rA <| rN), (hO rfl <| hO rfl <| hN), rfl, rfl, (roE (Y5 _ _ _) <| roE (Y5 _ _ _) <| roN)⟩⟩
       ·obtain ⟨hk133, h⟩ := Qcm h
        refine Q4t (Jg (c := (cI .u8)) (e := 1) (l := (l109 ++ [(IntKind.wrap .u8 y111.ID)])) (fun _ => rfl) (by first | (simp; done) | (simp [Q7]; done)) hk133) ?_
        refine Q0j (c := (cI .u8)) (l := (l109 ++ [(IntKind.wrap .u8 y111.ID)])) (v130.map fun b => (b.toNat : Int)) rfl ?_
        show Exists _
        exact ⟨(n0, (IntKind.wrap .i64 (s107 + 1)), ((l108 : List Int).set (Int.toNat y111.ID) (IntKind.wrap .i64 (y118 + 1))), ((l109 ++ [(IntKind.wrap .u8 y111.ID)]) ++ (v130.map fun b => (b.toNat : Int)))), h, Nat.lt_succ_self _, (rho [0, 6]), ⟨(rE rfl <| rV <| rA <| rE rfl <| rE rfl <| rL (by simp <;> omega) rfl <| rX <| rW <| rE rfl <| rE rfl <| rE rfl <| rX <| rX <| rX <| rX <| rX <| rW <| rA <| rN), (hO rfl <| hO rfl <| hN), rfl, rfl, (roE (Y5 _ _ _) <| roE (Y5 _ _ _) <| roN)⟩⟩
     ·refine Ql ?_
      obtain ⟨hk134, h⟩ := Qcm h
      refine Q4t (Jg (c := (cI .u8)) (e := 1) (fun _ => rfl) (by first | (simp; done) | (simp [Q7]; done)) hk134) ?_
      refine Q0j (c := (cI .u8)) [(IntKind.wrap .u8 y111.ID)] rfl ?_
      refine cD h V5 (.cons (.p _) (.cons q4 .nil)) fun v135 h => ?_
      refine Qb1 (b := v135) ?_
      apply iU h <;> intro h
      ·show Exists _
       exact ⟨(n0, (IntKind.wrap .i64 (s107 + 1)), ((l108 : List Int).set (Int.toNat y111.ID) (IntKind.wrap .i64 (y118 + 1))), (l109 ++ [(IntKind.wrap .u8 y111.ID)])), h, Nat.lt_succ_self _, (rho [0, 5]), ⟨(rE rfl <| rV <| rA <| rE rfl <| rE rfl <| rL (by first | (simp; done) | (simp [Q7]; done)) rfl <| rX <| rW <| rE rfl <| rE rfl <| rE rfl <| rX <| rX <| rX <| rX <| rX <| rW <| rA <| rN), (hO rfl <| hO rfl <| hN), rfl, rfl, (roE (Y5 _ _ _) <| roE (Y5 _ _ _) <| roN)⟩⟩
      ·obtain ⟨hk138, h⟩ := Qcm h
       refine Q4t (Jg (c := (cI .u8)) (e := 1) (l := (l109 ++ [(IntKind.wrap .u8 y111.ID)])) (fun _ => rfl) (by first | (simp; done) | (simp [Q7]; done)) hk138) ?_
       refine Q0j (c := (cI .u8)) (l := (l109 ++ [(IntKind.wrap .u8 y111.ID)])) (v135.map fun b => (b.toNat : Int)) rfl ?_
       show Exists _
       exact ⟨(n0, (IntKind.wrap .i64 (s107 + 1)), ((l108 : List Int).set (Int.toNat y111.ID) (IntKind.wrap .i64 (y118 + 1))), ((l109 ++ [(IntKind.wrap .u8 y111.ID)]) ++ (v135.map fun b => (b.toNat : Int)))), h, Nat.lt_succ_self _, (rho [0, 6]), ⟨(rE rfl <| rV <| rA <| rE rfl <| rE rfl <| rL (by simp <;> omega) rfl <| rX <| rW <| rE rfl <| rE rfl <| rE rfl <| rX <| rX <| rX <| rX <| rX <| rW <| rA <| rN), (hO rfl <| hO rfl <| hN), rfl, rfl, (roE (Y5 _ _ _) <| roE (Y5 _ _ _) <| roN)⟩⟩
   ·refine cP h Gs (.cons q4 (.cons (.p _) (.cons q4 .nil))) fun v139 h => ?_
    apply iU h <;> intro h
    ·obtain rfl := Uc h; exact u2
    ·refine Q2 k56 ?_
     refine Ql ?_
     obtain ⟨hk144, h⟩ := Qcm h
     refine Q4t hk144 ?_
     obtain ⟨y142, hy143, h⟩ := Jh h
     refine Gx (c := (cI .i64)) (e := 1) (fun _ => rfl) hy143 (off := 0) (by decide) (by first | omega | (simp only [Qf0, orI, Qf7, G6, Qc5, Q19]; omega)) ?_
     refine Q4t hk144 ?_
     obtain ⟨y145, hy146, h⟩ := Jh h
     refine Q4t (Q44 (c := (cI .i64)) (e := 1) (fun _ => rfl) hy146 (off := 0) (by omega) rfl (by decide)) ?_
     refine Q4r (c := (cI .i64)) (e := 1) (fun _ => rfl) hy146 (IntKind.wrap .i64 (y142 + 1)) (off := 0) (by first | omega | (simp only [Qf0, orI, Qf7, G6, Qc5, Q19]; omega)) rfl (by simp) ?_
     refine Q4t hk144 ?_
     obtain ⟨y147, hy148, h⟩ := Jh h
     refine Gx (c := (cI .i64)) (e := 1) (fun _ => rfl) hy148 (off := 0) (by decide) (by first | omega | (simp only [Qf0, orI, Qf7, G6, Qc5, Q19]; omega)) ?_
     apply iU h <;> intro h
     ·refine cP h Gt p2 fun v150 h => ?_
      apply iU h <;> intro h
      ·obtain rfl := Uc h; exact u2
      ·refine Ql ?_
       obtain ⟨hk153, h⟩ := Qcm h
       refine Q4t (Jg (c := (cI .u8)) (e := 1) (fun _ => rfl) (by first | (simp; done) | (simp [Q7]; done)) hk153) ?_
       refine Q0j (c := (cI .u8)) [(IntKind.wrap .u8 y111.ID)] rfl ?_
       refine cD h V5 (.cons (.p _) (.cons q4 .nil)) fun v154 h => ?_
       refine Qb1 (b := v154) ?_
       apply iU h <;> intro h
       ·show Exists _
        exact ⟨(n0, (IntKind.wrap .i64 (s107 + 1)), ((l108 : List Int).set (Int.toNat y111.ID) (IntKind.wrap .i64 (y142 + 1))), (l109 ++ [(IntKind.wrap .u8 y111.ID)])), h, Nat.lt_succ_self _, (rho [0, 5]), ⟨(rE rfl <| rV <| rA <| rE rfl <| rE rfl <| rL (by first | (simp; done) | (simp [Q7]; done)) rfl <| rX <| rW <| rE rfl <| rE rfl <| rE rfl <| rX <| rX <| rX <| rX <| rX <| rW <| rA <| rN), (hO rfl <| hO rfl <| hN), rfl, rfl, (roE (Y5 _ _ _) <| roE (Y5 _ _ _) <| roN)⟩⟩
       ·obtain ⟨hk157, h⟩ := Qcm h
        refine Q4t (Jg (c := (cI .u8)) (e := 1) (l := (l109 ++ [(IntKind.wrap .u8 y111.ID)])) (fun _ => rfl) (by first | (simp; done) | (simp [Q7]; done)) hk157) ?_
        refine Q0j (c := (cI .u8)) (l := (l109 ++ [(IntKind.wrap .u8 y111.ID)])) (v154.map fun b => (b.toNat : Int)) rfl ?_
        show Exists _
        exact ⟨(n0, (IntKind.wrap .i64 (s107 + 1)), ((l108 : List Int).set (Int.toNat y111.ID) (IntKind.wrap .i64 (y142 + 1))), ((l109 ++ [(IntKind.wrap .u8 y111.ID)]) ++ (v154.map fun b => (b.toNat : Int)))), h, Nat.lt_succ_self _, (rho [0, 6]), ⟨(rE rfl <| rV <| rA <| rE rfl <| rE rfl <| rL (by simp <;> omega) rfl <| rX <| rW <| rE rfl <| rE rfl <| rE rfl <| rX <| rX <| rX <| rX <| rX <| rW <| rA <| rN), (hO rfl <| hO rfl <| hN), rfl, rfl, (roE (Y5 _ _ _) <| roE (Y5 _ _ _) <| roN)⟩⟩
     ·refine Ql ?_
      obtain ⟨hk158, h⟩ := Qcm h
      refine Q4t (Jg (c := (cI .u8)) (e := 1) (fun _ => rfl) (by first | (simp; done) | (simp [Q7]; done)) hk158) ?_
      refine Q0j (c := (cI .u8)) [(IntKind.wrap .u8 y111.ID)] rfl ?_
      refine cD h V5 (.cons (.p _) (.cons q4 .nil)) fun v159 h => ?_
      refine Qb1 (b := v159) ?_
      apply iU h <;> intro h
      ·show Exists _
       exact ⟨(n0, (IntKind.wrap .i64 (s107 + 1)), ((l108 : List Int).set (Int.toNat y111.ID) (IntKind.wrap .i64 (y142 + 1))), (l109 ++ [(IntKind.wrap .u8 y111.ID)])), h, Nat.lt_succ_self _, (rho [0, 5]), ⟨(rE rfl <| rV <| rA <| rE rfl <| rE rfl <| rL (by first | (simp; done) | (simp [Q7]; done)) rfl <| rX <| rW <| rE rfl <| rE rfl <| rE rfl <| rX <| rX <| rX <| rX <| rX <| rW <| rA <| rN), (hO rfl <| hO rfl <| hN), rfl, rfl, (roE (Y5 _ _ _) <| roE (Y5 _ _ _) <| roN)⟩⟩
      ·obtain ⟨hk162, h⟩ := Qcm h
       refine Q4t (Jg (c := (cI .u8)) (e := 1) (l := (l109 ++ [(IntKind.wrap .u8 y111.ID)])) (fun _ => rfl) (by first | (simp; done) | (simp [Q7]; done)) hk162) ?_
       refine Q0j (c := (cI .u8)) (l := (l109 ++ [(IntKind.wrap .u8 y111.ID)])) (v159.map fun b => (b.toNat : Int)) rfl ?_
       show Exists _
       exact ⟨(n0, (IntKind.wrap .i64 (s107 + 1)), ((l108 : List Int).set (Int.toNat y111.ID) (IntKind.wrap .i64 (y142 + 1))), ((l109 ++ [(IntKind.wrap .u8 y111.ID)]) ++ (v159.map fun b => (b.toNat : Int)))), h, Nat.lt_succ_self _, (rho [0, 6]), ⟨(rE rfl <| rV <| rA <| rE rfl <| rE rfl <| rL (by simp <;> omega) rfl <| rX <| rW <| rE rfl <| rE rfl <| rE rfl <| rX <| rX <| rX <| rX <| rX <| rW <| rA <| rN), (hO rfl <| hO rfl <| hN), rfl, rfl, (roE (Y5 _ _ _) <| roE (Y5 _ _ _) <| roN)⟩⟩
  ·refine Q2 k58 ?_
   obtain ⟨y163, hy164, h⟩ := Jh h
   refine Gx (c := (cI .i64)) (e := 1) (n := 1) (j := 22) (fun _ => rfl) hy164 (off := 0) (by decide) rfl ?_
   apply iU h <;> intro h
   ·obtain ⟨y166, hy167, h⟩ := Jh h
    refine Gx (c := (cI .i64)) (e := 1) (n := 1) (j := 21) (fun _ => rfl) hy167 (off := 0) (by decide) rfl ?_
    apply iU h <;> intro h
    ·obtain rfl := Uc h; exact u2
    ·refine cP h Vk p1 fun v169 h => ?_
     apply iU h <;> intro h
     ·obtain rfl := Uc h; exact u2
     ·refine Qbh (l := l109) (n := l109.length) (by first | (simp; done) | (simp [Q7]; done)) ?_
      refine kU h fun h => ?_
      obtain rfl := Uc h; exact u2
   ·refine cP h Vk p1 fun v173 h => ?_
    apply iU h <;> intro h
    ·obtain rfl := Uc h; exact u2
    ·refine Qbh (l := l109) (n := l109.length) (by first | (simp; done) | (simp [Q7]; done)) ?_
     refine kU h fun h => ?_
     obtain rfl := Uc h; exact u2
def Qb (N : Nat) (kind : Int) (l : List Qw) : Option (Int) :=
 (Gj N kind l).bind fun v1 =>
 some v1.2
theorem Q5 {N} {kind} {l} {r} (h : Qb N kind l = some r) : Xl Tryz.prog G1 29 [.int .i64 kind, .slice 4 (Q7 Qw.cells l)] (.int .i64 r) := by
 refine Q3 k29 ?_
 unfold Qb at h
 refine cP h Q4l p2 fun v1 h => ?_
 cases h; exact (.p _)
end
end
end Go.Av
