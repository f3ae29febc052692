/- Part of the proof of EventOwn: for every input the law returns true; no condition. -/
import Derived.Test.YtnbdhlnkhdhohaaGreatDoorLiftF3
namespace Go.Av
noncomputable section
open Go.Proofs
set_option maxRecDepth 100000
set_option maxHeartbeats 4000000
attribute [local irreducible] Vp Xe Q79 Qc9 Qpg Qpp Qgl
section
def Q1f (N : Nat) (s_0 : List UInt8) : Option ((List UInt8) × (List UInt8) × Bool) :=
 (Uk N s_0 [36, 115, 104, 97, 114, 101, 47]).bind fun v1 =>
 cond (Q4o .eql [47] v1.1)
 (cond (Nat.ble 1 v1.1.length && Nat.ble v1.1.length v1.1.length) (cond (!v1.2)
 (some ([], [], false))
 ((Qz N s_0).bind fun v6 =>
 cond (!v6)
 (some ([], [], false))
 ((Z5 N ((v1.1.take 0).drop 0)).bind fun v9 =>
 cond (!v9)
 (some ([], [], false))
 ((Xy N ((v1.1.take v1.1.length).drop 1)).bind fun v12 =>
 cond (!v12)
 (some ([], [], false))
 (some (((v1.1.take 0).drop 0), ((v1.1.take v1.1.length).drop 1), true)))))) none)
 ((Qr N v1.1 47).bind fun v15 =>
 cond (Q3 .geq v15 0)
 (cond (decide (0 ≤ v15)) (cond (Nat.ble 0 v15.toNat && Nat.ble v15.toNat v1.1.length) (cond (decide (0 ≤ (IntKind.wrap .i64 (v15 + 1)))) (cond (Nat.ble (IntKind.wrap .i64 (v15 + 1)).toNat v1.1.length && Nat.ble v1.1.length v1.1.length) (cond (!v1.2)
 (some ([], [], false))
 ((Qz N s_0).bind fun v23 =>
 cond (!v23)
 (some ([], [], false))
 ((Z5 N ((v1.1.take v15.toNat).drop 0)).bind fun v26 =>
 cond (!v26)
 (some ([], [], false))
 ((Xy N ((v1.1.take v1.1.length).drop ((IntKind.wrap .i64 (v15 + 1)).toNat))).bind fun v29 =>
 cond (!v29)
 (some ([], [], false))
 (some (((v1.1.take v15.toNat).drop 0), ((v1.1.take v1.1.length).drop ((IntKind.wrap .i64 (v15 + 1)).toNat)), true)))))) none) none) none) none)
 (cond (!v1.2)
 (some ([], [], false))
 (some ([], [], false))))
theorem Qde {N} {s_0} {r} (h : Q1f N s_0 = some r) : pU 296 [.str s_0] (.tuple [.str r.1, .str r.2.1, .bool r.2.2]) := by
 refine Q2 Z9h ?_;unfold Q1f at h;rw [cX, cY] at h;refine cP h Q7y p2 fun v1 h => ?_;refine Qg Z5n ?_;refine Qg Z59 ?_;refine Qg Z52 ?_;refine dF ?_;apply iU h <;> intro h
 ·refine dT ?_;refine Qc ?_;refine kU h fun h => ?_;apply iU h <;> intro h
  ·obtain rfl := Qb h; exact u3
  refine cP h Zn p1 fun v6 h => ?_;apply iU h <;> intro h
  ·obtain rfl := Qb h; exact u3
  refine cP h Yi p1 fun v9 h => ?_;apply iU h <;> intro h
  ·obtain rfl := Qb h; exact u3
  refine cP h Jq p1 fun v12 h => ?_;apply iU h <;> intro h
  ·obtain rfl := Qb h; exact u3
  obtain rfl := Qb h; exact u3
 refine dT ?_;refine cP h W3 p2 fun v15 h => ?_;apply iU h <;> intro h
 ·refine Qc ?_;refine kU h fun h => ?_;refine kU h fun h => ?_;refine kU h fun h => ?_;refine kU h fun h => ?_;apply iU h <;> intro h
  ·obtain rfl := Qb h; exact u3
  refine cP h Zn p1 fun v23 h => ?_;apply iU h <;> intro h
  ·obtain rfl := Qb h; exact u3
  refine cP h Yi p1 fun v26 h => ?_;apply iU h <;> intro h
  ·obtain rfl := Qb h; exact u3
  refine cP h Jq p1 fun v29 h => ?_;apply iU h <;> intro h
  ·obtain rfl := Qb h; exact u3
  obtain rfl := Qb h; exact u3
 apply iU h <;> intro h
 ·obtain rfl := Qb h; exact u3
 obtain rfl := Qb h; exact u3
def V9 (_N : Nat) (n_0 : Int) : Option (Bool) :=
 cond (Q3 .geq n_0 0)
 (some (Q3 .lss n_0 3))
 (some false)
theorem Q1c {N} {n_0} {r} (h : V9 N n_0 = some r) : pU 295 [.int .i64 n_0] (.bool r) := by
 refine Q2 Zde ?_;unfold V9 at h;rw [cX] at h;exact iB h
def Um (N : Nat) (version : Int) (kind : Int) (f : Qn) : Option (Bool) :=
 cond (Q3 .eql kind 10)
 (cond (((f.Topic : List UInt8) == f.Topic) && (((f.QoS : Int) == f.QoS) && (((f.NoLocal : Bool) == false) && (((f.AsPublished : Bool) == false) && (((f.Handling : Int) == 0) && true)))))
 (some (Q3 .eql f.QoS 0))
 (some false))
 (cond (Q3 .eql version 4)
 (cond (((f.Topic : List UInt8) == f.Topic) && (((f.QoS : Int) == f.QoS) && (((f.NoLocal : Bool) == false) && (((f.AsPublished : Bool) == false) && (((f.Handling : Int) == 0) && true)))))
 ((V9 N f.QoS).bind fun v5 =>
 some v5)
 (some false))
 ((Q1f N f.Topic).bind fun v7 =>
 (V9 N f.QoS).bind fun v9 =>
 cond v9
 ((V9 N f.Handling).bind fun v12 =>
 cond v12
 (cond v7.2.2
 (some (!f.NoLocal))
 (some true))
 (some false))
 (some false)))
theorem Q7x {N} {version} {kind} {f} {r} (h : Um N version kind f = some r) : pU 245 [.int .i64 version, .int .i64 kind, .agg (Qn.cells f)] (.bool r) := by
 refine Q2 Zfk ?_;unfold Um at h;rw [cX] at h;apply iU h <;> intro h
 ·exact iB h
 apply iU h <;> intro h
 ·refine iR h fun h => ?_;refine cP h Q1c p1 fun v5 h => ?_;cases h; exact (.p _)
 refine cP h Qde p1 fun v7 h => ?_;refine cP h Q1c p1 fun v9 h => ?_;refine iR h fun h => ?_;refine cP h Q1c p1 fun v12 h => ?_;refine iR h fun h => ?_;exact iB h
def Q1h (_N : Nat) (code : Int) : Option (Bool) :=
 cond (Q3 .eql code 0)
 (some true)
 (cond (Q3 .eql code 1)
 (some true)
 (cond (Q3 .eql code 2)
 (some true)
 (cond (Q3 .eql code 128)
 (some true)
 (some false))))
theorem Qcz {N} {code} {r} (h : Q1h N code = some r) : pU 297 [.int .i64 code] (.bool r) := by
 refine Q2 Zbc ?_;unfold Q1h at h;rw [cX] at h;refine ifO h (fun hc1 h => ?_) (fun hc1 h => ?_)
 ·refine ifT hc1 ?_;cases h; exact (.p _)
 refine ifO h (fun hc2 h => ?_) (fun hc2 h => ?_)
 ·refine ifT hc2 ?_;cases h; exact (.p _)
 refine ifO h (fun hc3 h => ?_) (fun hc3 h => ?_)
 ·refine ifT hc3 ?_;cases h; exact (.p _)
 exact iB h
def Uj (N : Nat) (version : Int) (kind : Int) (code : Int) : Option (Bool) :=
 cond (Q3 .eql version 4)
 ((Q1h N code).bind fun v2 =>
 some v2)
 ((Ju N kind code).bind fun v4 =>
 some v4)
theorem Q80 {N} {version} {kind} {code} {r} (h : Uj N version kind code = some r) : pU 246 [.int .i64 version, .int .i64 kind, .int .i64 code] (.bool r) := by
 refine Q2 Zc9 ?_;unfold Uj at h;rw [cX] at h;apply iU h <;> intro h
 ·refine cP h Qcz p1 fun v2 h => ?_;cases h; exact (.p _)
 refine cP h Q02 p2 fun v4 h => ?_;cases h; exact (.p _)
def Jk (_N : Nat) (version : Int) (kind : Int) : Option (Bool) :=
 cond (Q3 .eql version 4)
 (cond (Q3 .geq kind 8)
 (some (Q3 .leq kind 11))
 (some false))
 (cond (Q3 .eql version 5)
 (cond (Q3 .geq kind 8)
 (some (Q3 .leq kind 11))
 (some false))
 (some false))
theorem Q9r {N} {version} {kind} {r} (h : Jk N version kind = some r) : pU 207 [.int .i64 version, .int .i64 kind] (.bool r) := by
 refine Q2 Zet ?_;unfold Jk at h;rw [cX] at h;apply iU h <;> intro h
 ·exact iB h
 refine iR h fun h => ?_;exact iB h
def Yo (N : Nat) (version : Int) (p : Qa) : Nat → Int → Option (Int)
 | 0, _ => none
 | n + 1, s52 =>
  cond (Q3 .lss s52 ((Q8 (cI .i64) p.Codes).length : Int))
  ((idx p.Codes s52).bind fun y54 =>
  (Uj N version p.Kind y54).bind fun v56 =>
  cond (!v56)
  (some 2)
  (Yo N version p n (IntKind.wrap .i64 (s52 + 1))))
  (some 0)
def Ym (N : Nat) (version : Int) (p : Qa) : Nat → Int → Option (Int)
 | 0, _ => none
 | n + 1, s29 =>
  cond (Q3 .lss s29 ((Q8 Qn.cells p.Filters).length : Int))
  ((idx p.Filters s29).bind fun y31 =>
  (Xy N y31.Topic).bind fun v33 =>
  cond (!v33)
  (some 10)
  ((Um N version p.Kind y31).bind fun v36 =>
  cond (!v36)
  (some 2)
  (Ym N version p n (IntKind.wrap .i64 (s29 + 1)))))
  (Yo N version p N 0)
def Jp (N : Nat) (version : Int) (p : Qa) : Option (Int) :=
 (Jk N version p.Kind).bind fun v1 =>
 cond (!v1)
 (some 2)
 ((J5 N version p).bind fun v4 =>
 cond (!v4)
 (some 2)
 ((Zl N p.Kind p.Props).bind fun v7 =>
 cond (Q3 .neq v7 0)
 (some v7)
 (Ym N version p N 0)))
theorem Q9o {N} {version} {p} {r} (h : Jp N version p = some r) : pU 204 [.int .i64 version, .agg (Qa.cells p)] (.int .i64 r) := by
 refine Q2 Zgl ?_;unfold Jp at h;rw [cX] at h;refine cP h Q9r p2 fun v1 h => ?_;refine iL h fun h => ?_;refine cP h Q8o (.cons (.p _) (.cons (Frz.agg' (Xt (f2_ (f1_ (.cons (.p _) p5))))) .nil)) fun v4 h => ?_;refine iL h fun h => ?_;refine cP h Yg p2 fun v7 h => ?_;refine iL h fun h => ?_;refine lpH (τ := Int) (fun s29 => (iI version :: .any :: .any :: .ptr 0 0 :: a16 (a8 (a2 (.p (.slice 5 (Q8 Qn.cells p.Filters)) :: iI ((Q8 Qn.cells p.Filters).length : Int) :: iI s29 :: a16 (a8 (a4 ([])))))) : List AV)) (fun n0 s29 => Ym N version p n0 s29) (0) h fun n0 s29 h => ?_
 first | rw [Ym] at h | simp only [Ym] at h
 rw [cX] at h;apply iU h <;> intro h
 ·refine xR h fun y31 h => ?_;refine cP h Jq p1 fun v33 h => ?_;refine iL h fun h => ?_;refine cP h Q7x (f2_ (.cons (Frz.agg' p5) .nil)) fun v36 h => ?_;refine iL h fun h => ?_;show Exists _;exact ⟨(n0, (IntKind.wrap .i64 (s29 + 1))), h, Le _, (fun i => i), Zc⟩
 refine lpH (τ := Int) (fun s52 => (iI version :: .any :: .any :: .ptr 0 0 :: a16 (a16 (a8 (a4 (.p (.slice 1 (Q8 (cI .i64) p.Codes)) :: .p (.int .i64 ((Q8 (cI .i64) p.Codes).length : Int)) :: iI s52 :: a8 (a2 ([])))))) : List AV)) (fun n1 s52 => Yo N version p n1 s52) (0) h fun n1 s52 h => ?_
 first | rw [Yo] at h | simp only [Yo] at h
 rw [cX] at h;refine iR h fun h => ?_;refine xR h fun y54 h => ?_;refine cP h Q80 p3 fun v56 h => ?_;refine iL h fun h => ?_;show Exists _;exact ⟨(n1, (IntKind.wrap .i64 (s52 + 1))), h, Le _, (fun i => i), Zc⟩
def Va (_N : Nat) (f : Qn) : Option (Int) :=
 cond f.NoLocal
 (cond f.AsPublished
 (some (orI .i64 (orI .i64 (orI .i64 (Gi .i64 f.QoS 3) (Q27 .i64 (Gi .i64 f.Handling 3) 4)) 4) 8))
 (some (orI .i64 (orI .i64 (Gi .i64 f.QoS 3) (Q27 .i64 (Gi .i64 f.Handling 3) 4)) 4)))
 (cond f.AsPublished
 (some (orI .i64 (orI .i64 (Gi .i64 f.QoS 3) (Q27 .i64 (Gi .i64 f.Handling 3) 4)) 8))
 (some (orI .i64 (Gi .i64 f.QoS 3) (Q27 .i64 (Gi .i64 f.Handling 3) 4))))
theorem Q3e {N} {f} {r} (h : Va N f = some r) : pU 206 [.agg (Qn.cells f)] (.int .i64 r) := by
 refine Q2 Zdt ?_;unfold Va at h;apply iU h <;> intro h
 ·exact iB h
 exact iB h
def X7 (N : Nat) (p : Qa) : Nat → Int → (List Int) → Option ((List UInt8) × Int)
 | 0, _, _ => none
 | n + 1, s76, l77 =>
  cond (Q3 .lss s76 ((Q8 (cI .i64) p.Codes).length : Int))
  ((idx p.Codes s76).bind fun y79 =>
  cond (Nat.ble ((l77.length + 1 + 4096) * 1) 17592186044416) (X7 N p n (IntKind.wrap .i64 (s76 + 1)) (l77 ++ [(IntKind.wrap .u8 y79)])) none)
  (some ((l77.map fun n => UInt8.ofNat n.toNat), 0))
def Zb (N : Nat) (p : Qa) : Nat → Int → (List Int) → Option ((List UInt8) × Int)
 | 0, _, _ => none
 | n + 1, s49, l50 =>
  cond (Q3 .lss s49 ((Q8 Qn.cells p.Filters).length : Int))
  ((idx p.Filters s49).bind fun y52 =>
  (Gm N y52.Topic).bind fun v54 =>
  cond (Nat.beq v54.1.length 0)
  (cond (Q3 .eql p.Kind 8)
  ((Va N y52).bind fun v58 =>
  cond (Nat.ble ((l50.length + 1 + 4096) * 1) 17592186044416) (Zb N p n (IntKind.wrap .i64 (s49 + 1)) (l50 ++ [(IntKind.wrap .u8 v58)])) none)
  (Zb N p n (IntKind.wrap .i64 (s49 + 1)) l50))
  (cond (Nat.ble ((l50.length + v54.1.length + 4096) * 1) 17592186044416) (cond (Q3 .eql p.Kind 8)
  ((Va N y52).bind fun v63 =>
  cond (Nat.ble (((l50.length + v54.1.length) + 1 + 4096) * 1) 17592186044416) (Zb N p n (IntKind.wrap .i64 (s49 + 1)) ((l50 ++ (v54.1.map fun b => (b.toNat : Int))) ++ [(IntKind.wrap .u8 v63)])) none)
  (Zb N p n (IntKind.wrap .i64 (s49 + 1)) (l50 ++ (v54.1.map fun b => (b.toNat : Int))))) none))
  (X7 N p N 0 l50)
def Uh (N : Nat) (p : Qa) (l11 : List Int) : Option ((List UInt8) × Int) :=
 Zb N p N 0 l11
def Ga (N : Nat) (version : Int) (p : Qa) : Option ((List UInt8) × Int) :=
 (Jp N version p).bind fun v1 =>
 cond (Q3 .neq v1 0)
 (some ([], v1))
 ((Qk N (IntKind.wrap .u64 p.ID) 2).bind fun v4 =>
 cond (Q3 .eql version 5)
 ((Wt N p.Kind p.Props).bind fun v13 =>
 cond (Nat.beq v13.1.length 0)
 (Uh N p (v4.map fun b => (b.toNat : Int)))
 (cond (Nat.ble ((v4.length + v13.1.length + 4096) * 1) 17592186044416) (Uh N p ((v4.map fun b => (b.toNat : Int)) ++ (v13.1.map fun b => (b.toNat : Int)))) none))
 (Uh N p (v4.map fun b => (b.toNat : Int))))
theorem Qaa {N} {version} {p} {r} (h : Ga N version p = some r) : pU 161 [.int .i64 version, .agg (Qa.cells p)] (.tuple [.str r.1, .int .i64 r.2]) := by
 refine Q2 Zag ?_;unfold Ga at h;rw [cX] at h;refine cP h Q9o (.cons (.p _) (.cons (Frz.agg' (Xt (f2_ (f1_ (.cons (.p _) p5))))) .nil)) fun v1 h => ?_;refine iL2 h fun h => ?_;refine cP h Qf p2 fun v4 h => ?_;refine Q48 (b := v4) ?_;refine jrA (r := r) (σ := (List Int)) (fun l11 => (a2 (.any :: .ptr 0 0 :: a2 (.any :: .slice 1 2 0 l11.length :: a16 (a16 (a16 (a16 (a8 (.any :: []))))))) : List AV)) (fun l11 => (.cells (Qfj p ([])) :: .dead :: .cells (Zz (cI .u8) l11) :: [] : List AObj)) (fun l11 => Uh N p l11) ?_ ?_
 ·apply iU h <;> intro h
  ·refine cP h Vl p2 fun v13 h => ?_;refine Q48 (b := v13.1) ?_;apply iU h <;> intro h
   ·show Exists _;exact ⟨((v4.map fun b => (b.toNat : Int))), h, (rho [0, 1, 1]), Zc⟩
   obtain ⟨hk16, h⟩ := Q4v h;refine Q0k (Xk (c := (cI .u8)) (e := 1) (l := (v4.map fun b => (b.toNat : Int))) (fun _ => rfl) sd hk16) ?_;refine Ux (c := (cI .u8)) (l := (v4.map fun b => (b.toNat : Int))) (v13.1.map fun b => (b.toNat : Int)) rfl ?_;show Exists _;exact ⟨(((v4.map fun b => (b.toNat : Int)) ++ (v13.1.map fun b => (b.toNat : Int)))), h, (fun i => i), Zc⟩
  show Exists _;exact ⟨((v4.map fun b => (b.toNat : Int))), h, (rho [0, 1, 1]), Zc⟩
 rintro l11 h
 unfold Uh at h;refine lpC (τ := Int × (List Int)) (fun ⟨s49, l50⟩ => (a2 (.any :: .ptr 0 0 :: a2 (.any :: .slice 1 3 0 l50.length :: a16 (a16 (.any :: .p (.slice 5 (Q8 Qn.cells p.Filters)) :: iI ((Q8 Qn.cells p.Filters).length : Int) :: iI s49 :: a16 (a16 (a4 (.any :: []))))))) : List AV)) (fun ⟨_, l50⟩ => (.cells (Qfj p ([])) :: .dead :: .dead :: .cells (Zz (cI .u8) l50) :: [] : List AObj)) (fun n1 ⟨s49, l50⟩ => Zb N p n1 s49 l50) (0, l11) h (rho [0, 1, 2, 2]) Zc fun n1 ⟨s49, l50⟩ h => ?_
 first | rw [Zb] at h | simp only [Zb] at h
 rw [cX] at h;apply iU h <;> intro h
 ·refine xR h fun y52 h => ?_;refine cP h Q6u p1 fun v54 h => ?_;refine Q48 (b := v54.1) ?_;apply iU h <;> intro h
  ·apply iU h <;> intro h
   ·refine cP h Q3e (.cons (Frz.agg' p5) .nil) fun v58 h => ?_;obtain ⟨hk60, h⟩ := Q4v h;refine Q0k (Xk (c := (cI .u8)) (e := 1) (fun _ => rfl) sd hk60) ?_;refine Ux (c := (cI .u8)) [(IntKind.wrap .u8 v58)] rfl ?_;show Exists _;exact ⟨(n1, (IntKind.wrap .i64 (s49 + 1)), (l50 ++ [(IntKind.wrap .u8 v58)])), h, Le _, (rho [0, 1, 2, 6]), Zc⟩
   show Exists _;exact ⟨(n1, (IntKind.wrap .i64 (s49 + 1)), l50), h, Le _, (fun i => i), Zc⟩
  obtain ⟨hk61, h⟩ := Q4v h;refine Q0k (Xk (c := (cI .u8)) (e := 1) (l := l50) (fun _ => rfl) sd hk61) ?_;refine Ux (c := (cI .u8)) (l := l50) (v54.1.map fun b => (b.toNat : Int)) rfl ?_;apply iU h <;> intro h
  ·refine cP h Q3e (.cons (Frz.agg' p5) .nil) fun v63 h => ?_;obtain ⟨hk65, h⟩ := Q4v h;refine Q0k (Xk (c := (cI .u8)) (e := 1) (fun _ => rfl) sd hk65) ?_;refine Ux (c := (cI .u8)) [(IntKind.wrap .u8 v63)] rfl ?_;show Exists _;exact ⟨(n1, (IntKind.wrap .i64 (s49 + 1)), ((l50 ++ (v54.1.map fun b => (b.toNat : Int))) ++ [(IntKind.wrap .u8 v63)])), h, Le _, (rho [0, 1, 2, 7]), Zc⟩
  show Exists _;exact ⟨(n1, (IntKind.wrap .i64 (s49 + 1)), (l50 ++ (v54.1.map fun b => (b.toNat : Int)))), h, Le _, (rho [0, 1, 2, 5]), Zc⟩
 refine lpC (τ := Int × (List Int)) (fun ⟨s76, l77⟩ => (a4 (a2 (.any :: .slice 1 4 0 l77.length :: a16 (a16 (a16 (a8 (a2 (.any :: .p (.slice 1 (Q8 (cI .i64) p.Codes)) :: .p (.int .i64 ((Q8 (cI .i64) p.Codes).length : Int)) :: iI s76 :: a8 (a2 (.any :: []))))))))) : List AV)) (fun ⟨_, l77⟩ => (.cells (Qfj p ([])) :: .dead :: .dead :: .dead :: .cells (Zz (cI .u8) l77) :: [] : List AObj)) (fun n2 ⟨s76, l77⟩ => X7 N p n2 s76 l77) (0, l50) h (rho [0, 1, 2, 3, 3]) Zc fun n2 ⟨s76, l77⟩ h => ?_
 first | rw [X7] at h | simp only [X7] at h
 rw [cX] at h;apply iU h <;> intro h
 ·refine xR h fun y79 h => ?_;obtain ⟨hk81, h⟩ := Q4v h;refine Q0k (Xk (c := (cI .u8)) (e := 1) (fun _ => rfl) sd hk81) ?_;refine Ux (c := (cI .u8)) [(IntKind.wrap .u8 y79)] rfl ?_;show Exists _;exact ⟨(n2, (IntKind.wrap .i64 (s76 + 1)), (l77 ++ [(IntKind.wrap .u8 y79)])), h, Le _, (rho [0, 1, 2, 3, 6]), Zc⟩
 refine Qhx (l := l77) (n := l77.length) sd ?_;obtain rfl := Qb h; exact u2
def Y6 (N : Nat) (d : Z8) : Option ((List UInt8) × Int) :=
 (Ga N d.version d.p).bind fun v1 =>
 some (v1.1, v1.2)
theorem Vg {N} {d} {r} (h : Y6 N d = some r) : pU 126 [.agg (Z8.cells d)] (.tuple [.str r.1, .int .i64 r.2]) := by
 refine Q2 Zb8 ?_;unfold Y6 at h;refine cP h Qaa (.cons (.p _) (.cons (Frz.agg' (Xt (f2_ (f1_ (.cons (.p _) p5))))) .nil)) fun v1 h => ?_;obtain rfl := Qb h; exact u2
theorem Qc6 : pU 92 [] (.pmap [(.int .i64 1, .agg [.func (.func 122) [] [], .func (.func 123) [] []]), (.int .i64 2, .agg [.func (.func 122) [] [], .func (.func 123) [] []]), (.int .i64 3, .agg [.func (.func 130) [] [], .func (.func 131) [] []]), (.int .i64 4, .agg [.func (.func 124) [] [], .func (.func 125) [] []]), (.int .i64 5, .agg [.func (.func 124) [] [], .func (.func 125) [] []]), (.int .i64 6, .agg [.func (.func 124) [] [], .func (.func 125) [] []]), (.int .i64 7, .agg [.func (.func 124) [] [], .func (.func 125) [] []]), (.int .i64 8, .agg [.func (.func 126) [] [], .func (.func 127) [] []]), (.int .i64 9, .agg [.func (.func 126) [] [], .func (.func 127) [] []]), (.int .i64 10, .agg [.func (.func 126) [] [], .func (.func 127) [] []]), (.int .i64 11, .agg [.func (.func 126) [] [], .func (.func 127) [] []]), (.int .i64 12, .agg [.func (.func 128) [] [], .func (.func 129) [] []]), (.int .i64 13, .agg [.func (.func 128) [] [], .func (.func 129) [] []]), (.int .i64 14, .agg [.func (.func 128) [] [], .func (.func 129) [] []]), (.int .i64 15, .agg [.func (.func 128) [] [], .func (.func 129) [] []])]) := Qe Q6y (N := 2000) (d := 60) (by kernel_rfl)
def Uc (N : Nat) (version : Int) (p : Qa) (s6 : Bool) : Option ((List UInt8) × Int) :=
 cond s6
 (some ([], 2))
 (cond ((p.Kind : Int) == 1)
 ((Wr N (⟨version, p⟩ : Z8)).bind fun v10 =>
 cond (Q3 .neq v10.2 0)
 (some ([], v10.2))
 (cond (Q3 .gtr (v10.1.length : Int) 268435455)
 (some ([], 4))
 (some (v10.1, 0))))
 (cond ((p.Kind : Int) == 2)
 ((Wr N (⟨version, p⟩ : Z8)).bind fun v15 =>
 cond (Q3 .neq v15.2 0)
 (some ([], v15.2))
 (cond (Q3 .gtr (v15.1.length : Int) 268435455)
 (some ([], 4))
 (some (v15.1, 0))))
 (cond ((p.Kind : Int) == 3)
 ((U6 N (⟨version, p⟩ : Z8)).bind fun v20 =>
 cond (Q3 .neq v20.2 0)
 (some ([], v20.2))
 (cond (Q3 .gtr (v20.1.length : Int) 268435455)
 (some ([], 4))
 (some (v20.1, 0))))
 (cond ((p.Kind : Int) == 4)
 ((Wu N (⟨version, p⟩ : Z8)).bind fun v25 =>
 cond (Q3 .neq v25.2 0)
 (some ([], v25.2))
 (cond (Q3 .gtr (v25.1.length : Int) 268435455)
 (some ([], 4))
 (some (v25.1, 0))))
 (cond ((p.Kind : Int) == 5)
 ((Wu N (⟨version, p⟩ : Z8)).bind fun v30 =>
 cond (Q3 .neq v30.2 0)
 (some ([], v30.2))
 (cond (Q3 .gtr (v30.1.length : Int) 268435455)
 (some ([], 4))
 (some (v30.1, 0))))
 (cond ((p.Kind : Int) == 6)
 ((Wu N (⟨version, p⟩ : Z8)).bind fun v35 =>
 cond (Q3 .neq v35.2 0)
 (some ([], v35.2))
 (cond (Q3 .gtr (v35.1.length : Int) 268435455)
 (some ([], 4))
 (some (v35.1, 0))))
 (cond ((p.Kind : Int) == 7)
 ((Wu N (⟨version, p⟩ : Z8)).bind fun v40 =>
 cond (Q3 .neq v40.2 0)
 (some ([], v40.2))
 (cond (Q3 .gtr (v40.1.length : Int) 268435455)
 (some ([], 4))
 (some (v40.1, 0))))
 (cond ((p.Kind : Int) == 8)
 ((Y6 N (⟨version, p⟩ : Z8)).bind fun v45 =>
 cond (Q3 .neq v45.2 0)
 (some ([], v45.2))
 (cond (Q3 .gtr (v45.1.length : Int) 268435455)
 (some ([], 4))
 (some (v45.1, 0))))
 (cond ((p.Kind : Int) == 9)
 ((Y6 N (⟨version, p⟩ : Z8)).bind fun v50 =>
 cond (Q3 .neq v50.2 0)
 (some ([], v50.2))
 (cond (Q3 .gtr (v50.1.length : Int) 268435455)
 (some ([], 4))
 (some (v50.1, 0))))
 (cond ((p.Kind : Int) == 10)
 ((Y6 N (⟨version, p⟩ : Z8)).bind fun v55 =>
 cond (Q3 .neq v55.2 0)
 (some ([], v55.2))
 (cond (Q3 .gtr (v55.1.length : Int) 268435455)
 (some ([], 4))
 (some (v55.1, 0))))
 (cond ((p.Kind : Int) == 11)
 ((Y6 N (⟨version, p⟩ : Z8)).bind fun v60 =>
 cond (Q3 .neq v60.2 0)
 (some ([], v60.2))
 (cond (Q3 .gtr (v60.1.length : Int) 268435455)
 (some ([], 4))
 (some (v60.1, 0))))
 (cond ((p.Kind : Int) == 12)
 ((Yn N (⟨version, p⟩ : Z8)).bind fun v65 =>
 cond (Q3 .neq v65.2 0)
 (some ([], v65.2))
 (cond (Q3 .gtr (v65.1.length : Int) 268435455)
 (some ([], 4))
 (some (v65.1, 0))))
 (cond ((p.Kind : Int) == 13)
 ((Yn N (⟨version, p⟩ : Z8)).bind fun v70 =>
 cond (Q3 .neq v70.2 0)
 (some ([], v70.2))
 (cond (Q3 .gtr (v70.1.length : Int) 268435455)
 (some ([], 4))
 (some (v70.1, 0))))
 (cond ((p.Kind : Int) == 14)
 ((Yn N (⟨version, p⟩ : Z8)).bind fun v75 =>
 cond (Q3 .neq v75.2 0)
 (some ([], v75.2))
 (cond (Q3 .gtr (v75.1.length : Int) 268435455)
 (some ([], 4))
 (some (v75.1, 0))))
 (cond ((p.Kind : Int) == 15)
 (cond (Q3 .eql version 4)
 (some ([], 8))
 ((Yn N (⟨version, p⟩ : Z8)).bind fun v82 =>
 cond (Q3 .neq v82.2 0)
 (some ([], v82.2))
 (cond (Q3 .gtr (v82.1.length : Int) 268435455)
 (some ([], 4))
 (some (v82.1, 0)))))
 (some ([], 8)))))))))))))))))
def Q5p (N : Nat) (version : Int) (p : Qa) : Option ((List UInt8) × Int) :=
 cond (Q3 .neq version 4)
 (Uc N version p (Q3 .neq version 5))
 (Uc N version p false)
theorem Qh2 {N} {version} {p} {r} (h : Q5p N version p = some r) : pU 74 [.int .i64 version, .agg (Qa.cells p)] (.tuple [.str r.1, .int .i64 r.2]) := by
 refine Q2 k74 ?_;unfold Q5p at h;rw [cX] at h;refine Y4 ?_;refine jrH (r := r) (σ := Bool) (fun s6 => (iI version :: .any :: .any :: .ptr 0 0 :: a8 (a2 (.any :: .p (.bool s6) :: a16 (a16 (a2 ([]))))) : List AV)) (fun s6 => Uc N version p s6) ?_ ?_
 ·apply iU h <;> intro h
  ·show Exists _;exact ⟨((Qrx .neq version 5)), h, (fun i => i), Zc⟩
  show Exists _;exact ⟨(false), h, (fun i => i), Zc⟩
 rintro s6 h
 unfold Uc at h;rw [cX] at h;refine iL2 h fun h => ?_;refine Qc ?_;refine Q2e Qc6 .nil ?_;refine Q5f h (fun hc9 h => ?_) (fun hc9 h => ?_)
 ·refine Y4 ?_;refine Y4 ?_;refine ifF (Qn5 hc9 (by decide)) ?_;refine cP h Q2l (.cons (Frz.agg' (Xt (f4_ (.cons (.p _) p5)))) .nil) fun v10 h => ?_;refine iL2 h fun h => ?_;exact iB2 h
 refine Q5f h (fun hc14 h => ?_) (fun hc14 h => ?_)
 ·refine Y4 ?_;refine Y4 ?_;refine ifF (Qn5 hc14 (by decide)) ?_;refine cP h Q2l (.cons (Frz.agg' (Xt (f4_ (.cons (.p _) p5)))) .nil) fun v15 h => ?_;refine iL2 h fun h => ?_;exact iB2 h
 refine Q5f h (fun hc19 h => ?_) (fun hc19 h => ?_)
 ·refine Y4 ?_;refine Y4 ?_;refine ifF (Qn5 hc19 (by decide)) ?_;refine cP h Q77 (.cons (Frz.agg' (Xt (f4_ (.cons (.p _) p5)))) .nil) fun v20 h => ?_;refine iL2 h fun h => ?_;exact iB2 h
 refine Q5f h (fun hc24 h => ?_) (fun hc24 h => ?_)
 ·refine Y4 ?_;refine Y4 ?_;refine ifF (Qn5 hc24 (by decide)) ?_;refine cP h G4 (.cons (Frz.agg' (Xt (f4_ (.cons (.p _) p5)))) .nil) fun v25 h => ?_;refine iL2 h fun h => ?_;exact iB2 h
 refine Q5f h (fun hc29 h => ?_) (fun hc29 h => ?_)
 ·refine Y4 ?_;refine Y4 ?_;refine ifF (Qn5 hc29 (by decide)) ?_;refine cP h G4 (.cons (Frz.agg' (Xt (f4_ (.cons (.p _) p5)))) .nil) fun v30 h => ?_;refine iL2 h fun h => ?_;exact iB2 h
 refine Q5f h (fun hc34 h => ?_) (fun hc34 h => ?_)
 ·refine Y4 ?_;refine Y4 ?_;refine ifF (Qn5 hc34 (by decide)) ?_;refine cP h G4 (.cons (Frz.agg' (Xt (f4_ (.cons (.p _) p5)))) .nil) fun v35 h => ?_;refine iL2 h fun h => ?_;exact iB2 h
 refine Q5f h (fun hc39 h => ?_) (fun hc39 h => ?_)
 ·refine Y4 ?_;refine Y4 ?_;refine ifF (Qn5 hc39 (by decide)) ?_;refine cP h G4 (.cons (Frz.agg' (Xt (f4_ (.cons (.p _) p5)))) .nil) fun v40 h => ?_;refine iL2 h fun h => ?_;exact iB2 h
 refine Q5f h (fun hc44 h => ?_) (fun hc44 h => ?_)
 ·refine Y4 ?_;refine Y4 ?_;refine ifF (Qn5 hc44 (by decide)) ?_;refine cP h Vg (.cons (Frz.agg' (Xt (f4_ (.cons (.p _) p5)))) .nil) fun v45 h => ?_;refine iL2 h fun h => ?_;exact iB2 h
 refine Q5f h (fun hc49 h => ?_) (fun hc49 h => ?_)
 ·refine Y4 ?_;refine Y4 ?_;refine ifF (Qn5 hc49 (by decide)) ?_;refine cP h Vg (.cons (Frz.agg' (Xt (f4_ (.cons (.p _) p5)))) .nil) fun v50 h => ?_;refine iL2 h fun h => ?_;exact iB2 h
 refine Q5f h (fun hc54 h => ?_) (fun hc54 h => ?_)
 ·refine Y4 ?_;refine Y4 ?_;refine ifF (Qn5 hc54 (by decide)) ?_;refine cP h Vg (.cons (Frz.agg' (Xt (f4_ (.cons (.p _) p5)))) .nil) fun v55 h => ?_;refine iL2 h fun h => ?_;exact iB2 h
 refine Q5f h (fun hc59 h => ?_) (fun hc59 h => ?_)
 ·refine Y4 ?_;refine Y4 ?_;refine ifF (Qn5 hc59 (by decide)) ?_;refine cP h Vg (.cons (Frz.agg' (Xt (f4_ (.cons (.p _) p5)))) .nil) fun v60 h => ?_;refine iL2 h fun h => ?_;exact iB2 h
 refine Q5f h (fun hc64 h => ?_) (fun hc64 h => ?_)
 ·refine Y4 ?_;refine Y4 ?_;refine ifF (Qn5 hc64 (by decide)) ?_;refine cP h U9 (.cons (Frz.agg' (Xt (f4_ (.cons (.p _) p5)))) .nil) fun v65 h => ?_;refine iL2 h fun h => ?_;exact iB2 h
 refine Q5f h (fun hc69 h => ?_) (fun hc69 h => ?_)
 ·refine Y4 ?_;refine Y4 ?_;refine ifF (Qn5 hc69 (by decide)) ?_;refine cP h U9 (.cons (Frz.agg' (Xt (f4_ (.cons (.p _) p5)))) .nil) fun v70 h => ?_;refine iL2 h fun h => ?_;exact iB2 h
 refine Q5f h (fun hc74 h => ?_) (fun hc74 h => ?_)
 ·refine Y4 ?_;refine Y4 ?_;refine ifF (Qn5 hc74 (by decide)) ?_;refine cP h U9 (.cons (Frz.agg' (Xt (f4_ (.cons (.p _) p5)))) .nil) fun v75 h => ?_;refine iL2 h fun h => ?_;exact iB2 h
 refine Q5f h (fun hc79 h => ?_) (fun hc79 h => ?_)
 ·refine Y4 ?_;refine Y4 ?_;refine ifT (Qn5 hc79 (by decide)) ?_;refine iL2 h fun h => ?_;refine cP h U9 (.cons (Frz.agg' (Xt (f4_ (.cons (.p _) p5)))) .nil) fun v82 h => ?_;refine iL2 h fun h => ?_;exact iB2 h
 refine Z34 ?_;refine Y4 ?_;refine Y4 ?_;obtain rfl := Qb h; exact u2
def Ua (N : Nat) (version : Int) (p : Qa) : Option (Int) :=
 (Q5p N version p).bind fun v1 =>
 some v1.2
theorem Q8l {N} {version} {p} {r} (h : Ua N version p = some r) : pU 56 [.int .i64 version, .agg (Qa.cells p)] (.int .i64 r) := by
 refine Q2 k56 ?_;unfold Ua at h;refine cP h Qh2 (.cons (.p _) (.cons (Frz.agg' (Xt (f2_ (f1_ (.cons (.p _) p5))))) .nil)) fun v1 h => ?_;cases h; exact (.p _)
def Gg (_N : Nat) (kind : Int) : Option (Int × Bool) :=
 cond (Q3 .eql kind 2)
 (some (1, false))
 (cond (Q3 .eql kind 3)
 (some (8, false))
 (cond (Q3 .eql kind 4)
 (some (16, false))
 (cond (Q3 .eql kind 5)
 (some (32, false))
 (cond (Q3 .eql kind 11)
 (some (32, false))
 (cond (Q3 .eql kind 13)
 (some (32, false))
 (cond (Q3 .eql kind 16)
 (some (32, false))
 (cond (Q3 .eql kind 6)
 (some (64, false))
 (cond (Q3 .eql kind 12)
 (some (64, false))
 (cond (Q3 .eql kind 14)
 (some (64, false))
 (cond (Q3 .eql kind 7)
 (some (8, true))
 (cond (Q3 .eql kind 8)
 (some (16, true))
 (cond (Q3 .eql kind 9)
 (some (32, true))
 (cond (Q3 .eql kind 10)
 (some (64, true))
 (cond (Q3 .eql kind 17)
 (some (64, true))
 (some (0, false))))))))))))))))
theorem Q73 {N} {kind} {r} (h : Gg N kind = some r) : pU 136 [.int .i64 kind] (.tuple [.int .i64 r.1, .bool r.2]) := by
 refine Q2 Z8v ?_;unfold Gg at h;rw [cX] at h;refine iL2 h fun h => ?_;refine iL2 h fun h => ?_;refine iL2 h fun h => ?_;refine ifO h (fun hc4 h => ?_) (fun hc4 h => ?_)
 ·refine ifT hc4 ?_;obtain rfl := Qb h; exact u2
 refine ifO h (fun hc5 h => ?_) (fun hc5 h => ?_)
 ·refine ifT hc5 ?_;obtain rfl := Qb h; exact u2
 refine ifO h (fun hc6 h => ?_) (fun hc6 h => ?_)
 ·refine ifT hc6 ?_;obtain rfl := Qb h; exact u2
 refine iL2 h fun h => ?_;refine ifO h (fun hc8 h => ?_) (fun hc8 h => ?_)
 ·refine ifT hc8 ?_;obtain rfl := Qb h; exact u2
 refine ifO h (fun hc9 h => ?_) (fun hc9 h => ?_)
 ·refine ifT hc9 ?_;obtain rfl := Qb h; exact u2
 refine iL2 h fun h => ?_;refine iL2 h fun h => ?_;refine iL2 h fun h => ?_;refine iL2 h fun h => ?_;refine ifO h (fun hc14 h => ?_) (fun hc14 h => ?_)
 ·refine ifT hc14 ?_;obtain rfl := Qb h; exact u2
 exact iB2 h
def Vx (_N : Nat) (n_0 : Int) (bits : Int) (signed : Bool) : Option (Bool) :=
 cond signed
 (cond (decide (0 ≤ (IntKind.wrap .i64 (bits - 1)))) (cond (Q3 .geq (IntKind.wrap .i64 n_0) (Q27 .i64 (-1) (IntKind.wrap .i64 (bits - 1))))
 (some (Q3 .leq (IntKind.wrap .i64 n_0) (IntKind.wrap .i64 (0 - (IntKind.wrap .i64 ((Q27 .i64 (-1) (IntKind.wrap .i64 (bits - 1))) + 1))))))
 (some false)) none)
 (cond (Q3 .eql bits 64)
 (some true)
 (cond (decide (0 ≤ bits)) (some (Q3 .eql (Q6l .u64 n_0 bits) 0)) none))
theorem Q3z {N} {n_0} {bits} {signed} {r} (h : Vx N n_0 bits signed = some r) : pU 137 [.int .u64 n_0, .int .i64 bits, .bool signed] (.bool r) := by
 refine Q2 Z9e ?_;unfold Vx at h;rw [cX] at h;apply iU h <;> intro h
 ·refine kU h fun h => ?_;exact iB h
 refine iL h fun h => ?_;refine kU h fun h => ?_;cases h; exact (.p _)
def Q3v (N : Nat) (c : Q8g) (v : Q1) : Option (Bool) :=
 cond (Q3 .eql c.Code 65)
 (some (Q3 .eql v.N' 1))
 (cond c.Sized
 (cond (Q3 .eql c.Width 4)
 (some true)
 (some (Q3 .leq (v.Text.length : Int) 255)))
 (cond (Q3 .eql c.Width 0)
 (some (Q3 .eql v.N' 0))
 (cond (Q3 .eql c.Width 1)
 ((Gg N c.Kind).bind fun v6 =>
 (Vx N v.N' 8 v6.2).bind fun v8 =>
 some v8)
 (some true))))
theorem Qcl {N} {c} {v} {r} (h : Q3v N c v = some r) : pU 285 [.agg (Q8g.cells c), .agg (Q1.cells v)] (.bool r) := by
 refine Q2 Zct ?_;unfold Q3v at h;rw [cX] at h;refine iL h fun h => ?_;apply iU h <;> intro h
 ·exact iB h
 refine iL h fun h => ?_;refine iR h fun h => ?_;refine cP h Q73 p1 fun v6 h => ?_;refine cP h Q3z p3 fun v8 h => ?_;cases h; exact (.p _)
def Ui (N : Nat) (n_0 : Int) : Option (Bool) :=
 cond (Q3 .leq n_0 1114111)
 ((Y9 N (IntKind.wrap .i32 n_0)).bind fun v2 =>
 some v2)
 (some false)
theorem Q7w {N} {n_0} {r} (h : Ui N n_0 = some r) : pU 138 [.int .u64 n_0] (.bool r) := by
 refine Q2 Zgh ?_;unfold Ui at h;rw [cX] at h;refine iR h fun h => ?_;refine cP h Q05 p1 fun v2 h => ?_;cases h; exact (.p _)
def Ue (_N : Nat) (kind : Int) : Option (Bool) :=
 cond (Q3 .eql kind 15)
 (some true)
 (cond (Q3 .eql kind 18)
 (some true)
 (cond (Q3 .eql kind 19)
 (some true)
 (cond (Q3 .eql kind 20)
 (some true)
 (cond (Q3 .eql kind 21)
 (some true)
 (some false)))))
theorem Q4n {N} {kind} {r} (h : Ue N kind = some r) : pU 139 [.int .i64 kind] (.bool r) := by
 refine Q2 Zaj ?_;unfold Ue at h;rw [cX] at h;refine ifO h (fun hc1 h => ?_) (fun hc1 h => ?_)
 ·refine ifT hc1 ?_;cases h; exact (.p _)
 refine ifO h (fun hc2 h => ?_) (fun hc2 h => ?_)
 ·refine ifT hc2 ?_;cases h; exact (.p _)
 refine ifO h (fun hc3 h => ?_) (fun hc3 h => ?_)
 ·refine ifT hc3 ?_;cases h; exact (.p _)
 refine ifO h (fun hc4 h => ?_) (fun hc4 h => ?_)
 ·refine ifT hc4 ?_;cases h; exact (.p _)
 exact iB h
def Qo (_N : Nat) (s_0 : List UInt8) : Option (Int) :=
 (idx s_0 0).bind fun b1 =>
 (idx s_0 1).bind fun b3 =>
 (idx s_0 2).bind fun b5 =>
 (idx s_0 3).bind fun b7 =>
 (idx s_0 4).bind fun b9 =>
 (idx s_0 5).bind fun b11 =>
 (idx s_0 6).bind fun b13 =>
 (idx s_0 7).bind fun b15 =>
 some (orI .u64 (orI .u64 (orI .u64 (orI .u64 (orI .u64 (orI .u64 (orI .u64 (IntKind.wrap .u64 (b1.toNat : Int)) (Q27 .u64 (IntKind.wrap .u64 (b3.toNat : Int)) 8)) (Q27 .u64 (IntKind.wrap .u64 (b5.toNat : Int)) 16)) (Q27 .u64 (IntKind.wrap .u64 (b7.toNat : Int)) 24)) (Q27 .u64 (IntKind.wrap .u64 (b9.toNat : Int)) 32)) (Q27 .u64 (IntKind.wrap .u64 (b11.toNat : Int)) 40)) (Q27 .u64 (IntKind.wrap .u64 (b13.toNat : Int)) 48)) (Q27 .u64 (IntKind.wrap .u64 (b15.toNat : Int)) 56))
theorem Zi {N} {s_0} {r} (h : Qo N s_0 = some r) : pU 226 [.str s_0] (.int .u64 r) := by
 refine Q2 Z9b ?_;unfold Qo at h;refine Qc ?_;refine xB h fun b1 h => ?_;refine xB h fun b3 h => ?_;refine xB h fun b5 h => ?_;refine xB h fun b7 h => ?_;refine xB h fun b9 h => ?_;refine xB h fun b11 h => ?_;refine xB h fun b13 h => ?_;refine xB h fun b15 h => ?_;cases h; exact (.p _)
def Zg (N : Nat) (k0 : (List UInt8) → Option (Bool)) : Nat → (List UInt8) → Option (Bool)
 | 0, _ => none
 | n + 1, s272 =>
  cond (Q3 .gtr (s272.length : Int) 32)
  ((Qo N s272).bind fun v274 =>
  cond (Nat.ble 8 s272.length && Nat.ble s272.length s272.length) ((Qo N ((s272.take s272.length).drop 8)).bind fun v277 =>
  cond (Nat.ble 16 s272.length && Nat.ble s272.length s272.length) ((Qo N ((s272.take s272.length).drop 16)).bind fun v280 =>
  cond (Nat.ble 24 s272.length && Nat.ble s272.length s272.length) ((Qo N ((s272.take s272.length).drop 24)).bind fun v283 =>
  cond (Q3 .eql (Gi .u64 (orI .u64 (orI .u64 v274 v277) (orI .u64 v280 v283)) 9259542123273814144) 0)
  (cond (Nat.ble 32 s272.length && Nat.ble s272.length s272.length) (Zg N k0 n ((s272.take s272.length).drop 32)) none)
  (k0 s272)) none) none) none)
  (k0 s272)
def Q7 (N : Nat) : Nat → (List UInt8) → Option (Bool)
 | 0, _ => none
 | n + 1, s224 =>
  cond (Q3 .gtr (s224.length : Int) 0)
  ((idx s224 0).bind fun b226 =>
  cond (Q3 .lss (b226.toNat : Int) 128)
  (cond (Nat.ble 1 s224.length && Nat.ble s224.length s224.length) (cond (Q3 .gtr (((s224.take s224.length).drop 1).length : Int) 8)
  ((Qo N ((s224.take s224.length).drop 1)).bind fun v231 =>
  cond (Q3 .eql (Gi .u64 v231 9259542123273814144) 0)
  (cond (Nat.ble 8 (((s224.take s224.length).drop 1).length) && Nat.ble (((s224.take s224.length).drop 1).length) ((s224.take s224.length).drop 1).length) (cond (Q3 .gtr (((((s224.take s224.length).drop 1).take (((s224.take s224.length).drop 1).length)).drop 8).length : Int) 16)
  ((Qo N ((((s224.take s224.length).drop 1).take (((s224.take s224.length).drop 1).length)).drop 8)).bind fun v236 =>
  cond (Nat.ble 8 (((((s224.take s224.length).drop 1).take (((s224.take s224.length).drop 1).length)).drop 8).length) && Nat.ble (((((s224.take s224.length).drop 1).take (((s224.take s224.length).drop 1).length)).drop 8).length) ((((s224.take s224.length).drop 1).take (((s224.take s224.length).drop 1).length)).drop 8).length) ((Qo N ((((((s224.take s224.length).drop 1).take (((s224.take s224.length).drop 1).length)).drop 8).take (((((s224.take s224.length).drop 1).take (((s224.take s224.length).drop 1).length)).drop 8).length)).drop 8)).bind fun v239 =>
  cond (Q3 .eql (Gi .u64 (orI .u64 v236 v239) 9259542123273814144) 0)
  (cond (Nat.ble 16 (((((s224.take s224.length).drop 1).take (((s224.take s224.length).drop 1).length)).drop 8).length) && Nat.ble (((((s224.take s224.length).drop 1).take (((s224.take s224.length).drop 1).length)).drop 8).length) ((((s224.take s224.length).drop 1).take (((s224.take s224.length).drop 1).length)).drop 8).length) (Zg N (Q7 N n) N ((((((s224.take s224.length).drop 1).take (((s224.take s224.length).drop 1).length)).drop 8).take (((((s224.take s224.length).drop 1).take (((s224.take s224.length).drop 1).length)).drop 8).length)).drop 16)) none)
  (Q7 N n ((((s224.take s224.length).drop 1).take (((s224.take s224.length).drop 1).length)).drop 8))) none)
  (Q7 N n ((((s224.take s224.length).drop 1).take (((s224.take s224.length).drop 1).length)).drop 8))) none)
  (Q7 N n ((s224.take s224.length).drop 1)))
  (Q7 N n ((s224.take s224.length).drop 1))) none)
  ((idx gtab0 (b226.toNat : Int)).bind fun y287 =>
  (idx gtab1 (Q6l .u8 y287 4)).bind fun y289 =>
  cond (Q3 .eql (IntKind.wrap .i64 (Gi .u8 y287 7)) 2)
  (cond (Q3 .lss (s224.length : Int) 2)
  (some false)
  ((idx s224 1).bind fun b293 =>
  cond (Q3 .lss (b293.toNat : Int) y289.1)
  (some false)
  ((idx s224 1).bind fun b296 =>
  cond (Q3 .lss y289.2 (b296.toNat : Int))
  (some false)
  (cond (Nat.ble 2 s224.length && Nat.ble s224.length s224.length) (Q7 N n ((s224.take s224.length).drop 2)) none))))
  (cond (Q3 .eql (IntKind.wrap .i64 (Gi .u8 y287 7)) 3)
  (cond (Q3 .lss (s224.length : Int) 3)
  (some false)
  ((idx s224 1).bind fun b302 =>
  cond (Q3 .lss (b302.toNat : Int) y289.1)
  (some false)
  ((idx s224 1).bind fun b305 =>
  cond (Q3 .lss y289.2 (b305.toNat : Int))
  (some false)
  ((idx s224 2).bind fun b308 =>
  cond (Q3 .lss (b308.toNat : Int) 128)
  (some false)
  ((idx s224 2).bind fun b311 =>
  cond (Q3 .lss 191 (b311.toNat : Int))
  (some false)
  (cond (Nat.ble 3 s224.length && Nat.ble s224.length s224.length) (Q7 N n ((s224.take s224.length).drop 3)) none))))))
  (cond (Q3 .eql (IntKind.wrap .i64 (Gi .u8 y287 7)) 4)
  (cond (Q3 .lss (s224.length : Int) 4)
  (some false)
  ((idx s224 1).bind fun b317 =>
  cond (Q3 .lss (b317.toNat : Int) y289.1)
  (some false)
  ((idx s224 1).bind fun b320 =>
  cond (Q3 .lss y289.2 (b320.toNat : Int))
  (some false)
  ((idx s224 2).bind fun b323 =>
  cond (Q3 .lss (b323.toNat : Int) 128)
  (some false)
  ((idx s224 2).bind fun b326 =>
  cond (Q3 .lss 191 (b326.toNat : Int))
  (some false)
  ((idx s224 3).bind fun b329 =>
  cond (Q3 .lss (b329.toNat : Int) 128)
  (some false)
  ((idx s224 3).bind fun b332 =>
  cond (Q3 .lss 191 (b332.toNat : Int))
  (some false)
  (cond (Nat.ble 4 s224.length && Nat.ble s224.length s224.length) (Q7 N n ((s224.take s224.length).drop 4)) none))))))))
  (some false)))))
  (some true)
def Wy (N : Nat) (s_0 : List UInt8) : Option (Bool) :=
 Q7 N N s_0
theorem Q4e {N} {s_0} {r} (h : Wy N s_0 = some r) : pU 175 [.str s_0] (.bool r) := by
 refine Q2 Zbb ?_;unfold Wy at h;refine lpH (τ := (List UInt8)) (fun s224 => (iS s224 :: a16 (a16 (a16 (a16 (a16 (a16 (a16 (a16 (a16 (a16 (a8 ([]))))))))))) : List AV)) (fun n0 s224 => Q7 N n0 s224) (s_0) h fun n0 s224 h => ?_
 first | rw [Q7] at h | simp only [Q7] at h
 rw [cX] at h;refine iR h fun h => ?_;refine xB h fun b226 h => ?_;apply iU h <;> intro h
 ·refine kU h fun h => ?_;apply iU h <;> intro h
  ·refine cP h Zi p1 fun v231 h => ?_;apply iU h <;> intro h
   ·refine kU h fun h => ?_;refine Qc ?_;apply iU h <;> intro h
    ·refine cD h Zi p1 fun v236 h => ?_;refine kU h fun h => ?_;refine cD h Zi p1 fun v239 h => ?_;apply iU h <;> intro h
     ·refine kU h fun h => ?_;refine lpH (τ := (List UInt8)) (fun s272 => (iS s272 :: a16 (a16 (a16 (a16 (a16 (a16 (a16 (a16 (a16 (a16 (a8 ([]))))))))))) : List AV)) (fun n1 s272 => Zg N (Q7 N n0) n1 s272) (((((((s224.take s224.length).drop 1).take (((s224.take s224.length).drop 1).length)).drop 8).take (((((s224.take s224.length).drop 1).take (((s224.take s224.length).drop 1).length)).drop 8).length)).drop 16)) h fun n1 s272 h => ?_
      first | rw [Zg] at h | simp only [Zg] at h
      rw [cX] at h;refine Qc ?_;apply iU h <;> intro h
      ·refine cD h Zi p1 fun v274 h => ?_;refine kU h fun h => ?_;refine cD h Zi p1 fun v277 h => ?_;refine kU h fun h => ?_;refine cD h Zi p1 fun v280 h => ?_;refine kU h fun h => ?_;refine cD h Zi p1 fun v283 h => ?_;apply iU h <;> intro h
       ·refine kU h fun h => ?_;show Exists _;exact ⟨(n1, ((s272.take s272.length).drop 32)), h, Le _, (fun i => i), Zc⟩
       show Exists _;exact ⟨(n0, s272), h, Le _, (fun i => i), Zc⟩
      show Exists _;exact ⟨(n0, s272), h, Le _, (fun i => i), Zc⟩
     show Exists _;exact ⟨(n0, ((((s224.take s224.length).drop 1).take (((s224.take s224.length).drop 1).length)).drop 8)), h, Le _, (fun i => i), Zc⟩
    show Exists _;exact ⟨(n0, ((((s224.take s224.length).drop 1).take (((s224.take s224.length).drop 1).length)).drop 8)), h, Le _, (fun i => i), Zc⟩
   show Exists _;exact ⟨(n0, ((s224.take s224.length).drop 1)), h, Le _, (fun i => i), Zc⟩
  show Exists _;exact ⟨(n0, ((s224.take s224.length).drop 1)), h, Le _, (fun i => i), Zc⟩
 obtain ⟨y287, hy288, h⟩ := Js h;refine Q0k (Q4k hy288 Qm6) ?_
 refine Qig (c := (cI .u8)) (e := 1) (fun _ => rfl) Qo6 hy288 (off := 0) (by decide) (by first | omega | (simp only [Gi, orI, Qjs, Jr, Q27, Q6l]; omega)) ?_
 obtain ⟨y289, hy290, h⟩ := Js h;refine Q0k (Q4k hy290 Qln) ?_
 refine Qig (c := cUU) (e := 2) (fun _ => rfl) Qpa hy290 (off := 0) (by decide) (by first | omega | (simp only [Gi, orI, Qjs, Jr, Q27, Q6l]; omega)) ?_
 apply iU h <;> intro h
 ·refine Qc ?_;refine iL h fun h => ?_;refine xB h fun b293 h => ?_;refine iL h fun h => ?_;refine xB h fun b296 h => ?_;refine iL h fun h => ?_;refine kU h fun h => ?_;show Exists _;exact ⟨(n0, ((s224.take s224.length).drop 2)), h, Le _, (fun i => i), Zc⟩
 apply iU h <;> intro h
 ·refine Qc ?_;refine iL h fun h => ?_;refine xB h fun b302 h => ?_;refine iL h fun h => ?_;refine xB h fun b305 h => ?_;refine iL h fun h => ?_;refine xB h fun b308 h => ?_;refine iL h fun h => ?_;refine xB h fun b311 h => ?_;refine iL h fun h => ?_;refine kU h fun h => ?_;show Exists _;exact ⟨(n0, ((s224.take s224.length).drop 3)), h, Le _, (fun i => i), Zc⟩
 refine iR h fun h => ?_;refine Qc ?_;refine iL h fun h => ?_;refine xB h fun b317 h => ?_;refine iL h fun h => ?_;refine xB h fun b320 h => ?_;refine iL h fun h => ?_;refine xB h fun b323 h => ?_;refine iL h fun h => ?_;refine xB h fun b326 h => ?_;refine iL h fun h => ?_;refine xB h fun b329 h => ?_;refine iL h fun h => ?_;refine xB h fun b332 h => ?_;refine iL h fun h => ?_;refine kU h fun h => ?_;show Exists _;exact ⟨(n0, ((s224.take s224.length).drop 4)), h, Le _, (fun i => i), Zc⟩
def V5 (N : Nat) (v : Q1) : Nat → Int → Option (Int)
 | 0, _ => none
 | n + 1, s15 =>
  cond (Q3 .lss s15 (v.Text.length : Int))
  ((idx v.Text s15).bind fun b17 =>
  cond (Q3 .geq (b17.toNat : Int) 128)
  (some 6)
  (V5 N v n (IntKind.wrap .i64 (s15 + 1))))
  (some 0)
def Wh (N : Nat) (v : Q1) : Option (Int) :=
 cond (Q3 .eql v.Kind 20)
 ((Wy N v.Text).bind fun v2 =>
 cond (!v2)
 (some 6)
 (some 0))
 (cond (Q3 .eql v.Kind 21)
 (V5 N v N 0)
 (some 0))
theorem Uf {N} {v} {r} (h : Wh N v = some r) : pU 140 [.agg (Q1.cells v)] (.int .i64 r) := by
 refine Q2 Zcr ?_;unfold Wh at h;rw [cX] at h;apply iU h <;> intro h
 ·refine cP h Q4e p1 fun v2 h => ?_;exact iB h
 refine iR h fun h => ?_;refine lpH (τ := Int) (fun s15 => (.any :: .ptr 0 0 :: a8 (a4 (a2 (iI (v.Text.length : Int) :: iI s15 :: a8 ([])))) : List AV)) (fun n0 s15 => V5 N v n0 s15) (0) h fun n0 s15 h => ?_
 first | rw [V5] at h | simp only [V5] at h
 rw [cX] at h;refine iR h fun h => ?_;refine xB h fun b17 h => ?_;refine iL h fun h => ?_;show Exists _;exact ⟨(n0, (IntKind.wrap .i64 (s15 + 1))), h, Le _, (fun i => i), Zc⟩
def Jo (N : Nat) (v : Q1) : Option (Int) :=
 cond (Q3 .lss v.Kind 1)
 (some 8)
 (cond (Q3 .gtr v.Kind 21)
 (some 8)
 ((Gg N v.Kind).bind fun v3 =>
 (Vx N v.N' v3.1 v3.2).bind fun v5 =>
 cond (!v5)
 (some 2)
 (cond (Q3 .eql v.Kind 16)
 ((Ui N v.N').bind fun v9 =>
 cond (!v9)
 (some 2)
 (cond (Q3 .neq ((Q1.rows v.Items).length : Int) 0)
 (some 2)
 ((Ue N v.Kind).bind fun v13 =>
 cond (!v13)
 (cond (Q4o .neq v.Text [])
 (some 2)
 (some 0))
 (cond (Q3 .eql v.Kind 15)
 (cond (Q3 .neq (v.Text.length : Int) 16)
 (some 2)
 (cond (Q3 .gtr (v.Text.length : Int) 1048576)
 (some 4)
 ((Wh N v).bind fun v20 =>
 some v20)))
 (cond (Q3 .eql v.Kind 18)
 (cond (Q3 .neq (v.Text.length : Int) 16)
 (some 2)
 (cond (Q3 .gtr (v.Text.length : Int) 1048576)
 (some 4)
 ((Wh N v).bind fun v25 =>
 some v25)))
 (cond (Q3 .gtr (v.Text.length : Int) 1048576)
 (some 4)
 ((Wh N v).bind fun v28 =>
 some v28)))))))
 (cond (Q3 .neq ((Q1.rows v.Items).length : Int) 0)
 (some 2)
 ((Ue N v.Kind).bind fun v31 =>
 cond (!v31)
 (cond (Q4o .neq v.Text [])
 (some 2)
 (some 0))
 (cond (Q3 .eql v.Kind 15)
 (cond (Q3 .neq (v.Text.length : Int) 16)
 (some 2)
 (cond (Q3 .gtr (v.Text.length : Int) 1048576)
 (some 4)
 ((Wh N v).bind fun v38 =>
 some v38)))
 (cond (Q3 .eql v.Kind 18)
 (cond (Q3 .neq (v.Text.length : Int) 16)
 (some 2)
 (cond (Q3 .gtr (v.Text.length : Int) 1048576)
 (some 4)
 ((Wh N v).bind fun v43 =>
 some v43)))
 (cond (Q3 .gtr (v.Text.length : Int) 1048576)
 (some 4)
 ((Wh N v).bind fun v46 =>
 some v46)))))))))
theorem Q69 {N} {v} {r} (h : Jo N v = some r) : pU 101 [.agg (Q1.cells v)] (.int .i64 r) := by
 refine Q2 Z85 ?_;unfold Jo at h;rw [cX, cY] at h;refine iL h fun h => ?_;refine iL h fun h => ?_;refine cP h Q73 p1 fun v3 h => ?_;refine cP h Q3z p3 fun v5 h => ?_;refine iL h fun h => ?_;apply iU h <;> intro h
 ·refine cP h Q7w p1 fun v9 h => ?_;refine iL h fun h => ?_;refine iL h fun h => ?_;refine cP h Q4n p1 fun v13 h => ?_;apply iU h <;> intro h
  ·exact iB h
  apply iU h <;> intro h
  ·refine iL h fun h => ?_;refine iL h fun h => ?_;refine cP h Uf (.cons q4 .nil) fun v20 h => ?_;cases h; exact (.p _)
  apply iU h <;> intro h
  ·refine iL h fun h => ?_;refine iL h fun h => ?_;refine cP h Uf (.cons q4 .nil) fun v25 h => ?_;cases h; exact (.p _)
  refine iL h fun h => ?_;refine cP h Uf (.cons q4 .nil) fun v28 h => ?_;cases h; exact (.p _)
 refine iL h fun h => ?_;refine cP h Q4n p1 fun v31 h => ?_;apply iU h <;> intro h
 ·exact iB h
 apply iU h <;> intro h
 ·refine iL h fun h => ?_;refine iL h fun h => ?_;refine cP h Uf (.cons q4 .nil) fun v38 h => ?_;cases h; exact (.p _)
 apply iU h <;> intro h
 ·refine iL h fun h => ?_;refine iL h fun h => ?_;refine cP h Uf (.cons q4 .nil) fun v43 h => ?_;cases h; exact (.p _)
 refine iL h fun h => ?_;refine cP h Uf (.cons q4 .nil) fun v46 h => ?_;cases h; exact (.p _)
def Q1m (N : Nat) (code : Int) (v : Q1) : Option (Bool) :=
 (Q3x N code).bind fun v1 =>
 cond v1.2
 (cond (Q3 .eql v1.1.Kind v.Kind)
 ((Jo N v).bind fun v5 =>
 cond (Q3 .eql v5 0)
 ((Q3v N v1.1 v).bind fun v8 =>
 some v8)
 (some false))
 (some false))
 (some false)
theorem Qd1 {N} {code} {v} {r} (h : Q1m N code v = some r) : pU 229 [.int .i64 code, .agg (Q1.cells v)] (.bool r) := by
 refine Q2 Zeb ?_;unfold Q1m at h;rw [cX] at h;refine cP h Q5h p1 fun v1 h => ?_;refine iR h fun h => ?_;refine iR h fun h => ?_;refine cP h Q69 (.cons q4 .nil) fun v5 h => ?_;refine iR h fun h => ?_;refine cP h Qcl (.cons (Frz.agg' p5) (.cons q4 .nil)) fun v8 h => ?_;cases h; exact (.p _)
def U4 (N : Nat) (f : Q0) (code : Int) : Option (Bool) :=
 (Q3x N code).bind fun v1 =>
 cond (!v1.1.Items)
 ((Q1m N code f.v).bind fun v4 =>
 some v4)
 (cond (Q3 .eql v1.1.Kind 25)
 (some true)
 (cond (!v1.1.Sized)
 (some (Q3 .eql ((Q0.rows f.kids).length : Int) 0))
 (cond (Q3 .eql v1.1.Width 4)
 (some true)
 (cond (Q3 .leq (IntKind.wrap .i64 (f.inner + 1)) 255)
 (some (Q3 .leq ((Q0.rows f.kids).length : Int) 255))
 (some false)))))
theorem Q7i {N} {f} {code} {r} (h : U4 N f code = some r) : pU 178 [.agg (Q0.cells f), .int .i64 code] (.bool r) := by
 refine Q2 Z8l ?_;unfold U4 at h;rw [cX] at h;refine cP h Q5h p1 fun v1 h => ?_;apply iU h <;> intro h
 ·refine cP h Qd1 (.cons (.p _) (.cons q4 .nil)) fun v4 h => ?_;cases h; exact (.p _)
 refine iL h fun h => ?_;refine iL h fun h => ?_;refine iL h fun h => ?_;exact iB h
def W1 (N : Nat) (k0 : Int → Option (Int)) (l : List Q0) (s54 : Int) (y56 : Int) : Nat → Bool → Int → Option (Int)
 | 0, _, _ => none
 | n + 1, all71, s72 =>
  cond (Q3 .lss s72 ((Q0.rows l).length : Int))
  ((idx l s72).bind fun y74 =>
  cond all71
  ((U4 N y74 y56).bind fun v77 =>
  W1 N k0 l s54 y56 n v77 (IntKind.wrap .i64 (s72 + 1)))
  (W1 N k0 l s54 y56 n false (IntKind.wrap .i64 (s72 + 1))))
  (cond all71
  (some y56)
  (k0 (IntKind.wrap .i64 (s54 + 1))))
def X9 (N : Nat) (l : List Q0) (v1 : List Int) : Nat → Int → Option (Int)
 | 0, _ => none
 | n + 1, s54 =>
  cond (Q3 .lss s54 ((Q8 (cI .i64) v1).length : Int))
  ((idx v1 s54).bind fun y56 =>
  W1 N (X9 N l v1 n) l s54 y56 N true 0)
  (some 0)
def J2 (N : Nat) (kind : Int) (l : List Q0) : Option (Int) :=
 (Q55 N kind).bind fun v1 =>
 X9 N l v1 N 0
theorem Q51 {N} {kind} {l} {r} (h : J2 N kind l = some r) : pU 144 [.int .i64 kind, .slice 7 (Q0.rows l)] (.int .i64 r) := by
 refine Q2 Zdw ?_;unfold J2 at h;refine cP h Qb7 p1 fun v1 h => ?_;refine lpH (τ := Int) (fun s54 => (.any :: .p (.slice 7 (Q0.rows l)) :: a8 (.any :: .p (.slice 1 (Q8 (cI .i64) v1)) :: .p (.int .i64 ((Q8 (cI .i64) v1).length : Int)) :: iI s54 :: a16 (a2 (.any :: []))) : List AV)) (fun n0 s54 => X9 N l v1 n0 s54) (0) h fun n0 s54 h => ?_
 first | rw [X9] at h | simp only [X9] at h
 rw [cX] at h;refine iR h fun h => ?_;refine xR h fun y56 h => ?_;refine lpH (τ := Bool × Int) (fun ⟨all71, s72⟩ => (.any :: .p (.slice 7 (Q0.rows l)) :: a4 (iI y56 :: .p (.bool all71) :: a2 (.any :: .p (.slice 1 (Q8 (cI .i64) v1)) :: .p (.int .i64 ((Q8 (cI .i64) v1).length : Int)) :: iI s54 :: a2 (.any :: .p (.slice 7 (Q0.rows l)) :: iI ((Q0.rows l).length : Int) :: iI s72 :: a8 (a4 (.any :: []))))) : List AV)) (fun n1 ⟨all71, s72⟩ => W1 N (X9 N l v1 n0) l s54 y56 n1 all71 s72) (true, 0) h fun n1 ⟨all71, s72⟩ h => ?_
 first | rw [W1] at h | simp only [W1] at h
 rw [cX] at h;apply iU h <;> intro h
 ·refine Q0.xR h fun y74 h => ?_;apply iU h <;> intro h
  ·refine cP h Q7i (.cons (Frz.agg' (.cons (.p _) (.cons (.p _) p5))) p1) fun v77 h => ?_;show Exists _;exact ⟨(n1, v77, (IntKind.wrap .i64 (s72 + 1))), h, Le _, (fun i => i), Zc⟩
  show Exists _;exact ⟨(n1, false, (IntKind.wrap .i64 (s72 + 1))), h, Le _, (fun i => i), Zc⟩
 refine iL h fun h => ?_;show Exists _;exact ⟨(n0, (IntKind.wrap .i64 (s54 + 1))), h, Le _, (fun i => i), Zc⟩
def U8 (N : Nat) (f : Q0) : Option (Int) :=
 (J2 N f.v.Kind [f]).bind fun v1 =>
 some v1
theorem Q30 {N} {f} {r} (h : U8 N f = some r) : pU 106 [.agg (Q0.cells f)] (.int .i64 r) := by
 refine Q2 Zf4 ?_;unfold U8 at h;refine cK h Q51 (.cons (.p _) (.cons (Q0.frz_own (l := [f]) rfl trivial sd) .nil)) fun v1 h => ?_;cases h; exact (.p _)
def U5 (rv : Q0 → Int → Option (Int)) (rz1 : Q0 → Option (Int)) (N : Nat) (f : Q0) (code : Int) : Option (Int) :=
 (Q3x N code).bind fun v1 =>
 cond (Q3 .eql v1.1.Kind 25)
 ((rz1 f).bind fun v4 =>
 some v4)
 (cond v1.1.Items
 (cond v1.1.Sized
 (some (IntKind.wrap .i64 ((IntKind.wrap .i64 (2 * v1.1.Width)) + f.inner)))
 (some v1.1.Width))
 (cond v1.1.Sized
 (some (IntKind.wrap .i64 (v1.1.Width + (f.v.Text.length : Int))))
 (some v1.1.Width)))
theorem Q7c {rv : Q0 → Int → Option (Int)} {rz1 : Q0 → Option (Int)} (hx2 : ∀ {f} {code} {r}, rv f code = some r → pU 105 [.agg (Q0.cells f), .int .i64 code] (.int .i64 r)) (hw2 : ∀ {f} {r}, rz1 f = some r → pU 142 [.agg (Q0.cells f)] (.int .i64 r)) {N} {f} {code} {r} (h : U5 rv rz1 N f code = some r) : pU 105 [.agg (Q0.cells f), .int .i64 code] (.int .i64 r) := by
 refine Q2 Zg6 ?_;unfold U5 at h;rw [cX] at h;refine cP h Q5h p1 fun v1 h => ?_;apply iU h <;> intro h
 ·refine cP h hw2 (.cons (Frz.agg' (.cons (.p _) (.cons (.p _) p5))) .nil) fun v4 h => ?_;cases h; exact (.p _)
 apply iU h <;> intro h
 ·refine oL h fun hc7 h => ?_;refine ifF hc7 ?_;cases h; exact (.p _)
 exact iB h
def Zw (rv : Q0 → Int → Option (Int)) (N : Nat) (f : Q0) : Nat → Int → Int → Option (Int)
 | 0, _, _ => none
 | n + 1, n17, s18 =>
  cond (Q3 .lss s18 ((Q0.rows f.kids).length : Int))
  ((idx f.kids s18).bind fun y20 =>
  (U8 N y20).bind fun v22 =>
  (rv y20 v22).bind fun v24 =>
  Zw rv N f n (IntKind.wrap .i64 (n17 + (IntKind.wrap .i64 (1 + v24)))) (IntKind.wrap .i64 (s18 + 1)))
  (some n17)
def Q0j (rv : Q0 → Int → Option (Int)) (rz1 : Q0 → Option (Int)) (N : Nat) (f : Q0) : Option (Int) :=
 Zw rv N f N 0 0
theorem Q6x {rv : Q0 → Int → Option (Int)} {rz1 : Q0 → Option (Int)} (hx2 : ∀ {f} {code} {r}, rv f code = some r → pU 105 [.agg (Q0.cells f), .int .i64 code] (.int .i64 r)) (hw2 : ∀ {f} {r}, rz1 f = some r → pU 142 [.agg (Q0.cells f)] (.int .i64 r)) {N} {f} {r} (h : Q0j rv rz1 N f = some r) : pU 142 [.agg (Q0.cells f)] (.int .i64 r) := by
 refine Q2 Z89 ?_;unfold Q0j at h;refine lpH (τ := Int × Int) (fun ⟨n17, s18⟩ => (a2 (.any :: iI n17 :: a2 (.any :: .p (.slice 7 (Q0.rows f.kids)) :: iI ((Q0.rows f.kids).length : Int) :: iI s18 :: a8 (a4 ([])))) : List AV)) (fun n0 ⟨n17, s18⟩ => Zw rv N f n0 n17 s18) (0, 0) h fun n0 ⟨n17, s18⟩ h => ?_
 first | rw [Zw] at h | simp only [Zw] at h
 rw [cX] at h;refine iR h fun h => ?_;refine Q0.xR h fun y20 h => ?_;refine Qc ?_;refine cD h Q30 (.cons (Frz.agg' (.cons (.p _) (.cons (.p _) p5))) .nil) fun v22 h => ?_;refine cD h hx2 (.cons (Frz.agg' (.cons (.p _) (.cons (.p _) p5))) p1) fun v24 h => ?_;show Exists _;exact ⟨(n0, (IntKind.wrap .i64 (n17 + (IntKind.wrap .i64 (1 + v24)))), (IntKind.wrap .i64 (s18 + 1))), h, Le _, (fun i => i), Zc⟩
def Zy : Nat → (Q0 → Int → Option (Int)) × (Q0 → Option (Int))
 | 0 => (fun _ _ => none, fun _ => none)
 | N + 1 => (U5 ((Zy N).1) ((Zy N).2) N, Q0j ((Zy N).1) ((Zy N).2) N)
def Zx (N : Nat) : Q0 → Int → Option (Int) := (Zy N).1
def Ye (N : Nat) : Q0 → Option (Int) := (Zy N).2
theorem Q34 : ∀ N, (∀ {f : Q0} {code : Int} {r : Int}, (Zy N).1 f code = some r → pU 105 [.agg (Q0.cells f), .int .i64 code] (.int .i64 r)) ∧ (∀ {f : Q0} {r : Int}, (Zy N).2 f = some r → pU 142 [.agg (Q0.cells f)] (.int .i64 r)) := by
 intro N
 induction N with
 | zero => exact ⟨(fun h => by simp [Zy] at h), (fun h => by simp [Zy] at h)⟩
 | succ N ih => exact ⟨(fun h => Q7c (N := N) (fun h => ih.1 h) (fun h => ih.2 h) h), (fun h => Q6x (N := N) (fun h => ih.1 h) (fun h => ih.2 h) h)⟩
theorem Q2n {N : Nat} {f : Q0} {code : Int} {r : Int} (h : Zx N f code = some r) : pU 105 [.agg (Q0.cells f), .int .i64 code] (.int .i64 r) := (Q34 N).1 h
theorem Vz {N : Nat} {f : Q0} {r : Int} (h : Ye N f = some r) : pU 142 [.agg (Q0.cells f)] (.int .i64 r) := (Q34 N).2 h
def Ya (N : Nat) (f : Q0) : Nat → Int → Int → Option (Int)
 | 0, _, _ => none
 | n + 1, n13, s14 =>
  cond (Q3 .lss s14 ((Q0.rows f.kids).length : Int))
  ((idx f.kids s14).bind fun y16 =>
  (Zx N y16 f.element).bind fun v18 =>
  Ya N f n (IntKind.wrap .i64 (n13 + v18)) (IntKind.wrap .i64 (s14 + 1)))
  (some n13)
def Vm (N : Nat) (f : Q0) : Option (Int) :=
 Ya N f N 1 0
theorem Q29 {N} {f} {r} (h : Vm N f = some r) : pU 143 [.agg (Q0.cells f)] (.int .i64 r) := by
 refine Q2 Zd9 ?_;unfold Vm at h;refine lpH (τ := Int × Int) (fun ⟨n13, s14⟩ => (.any :: .ptr 0 0 :: .any :: iI n13 :: a2 (.any :: .p (.slice 7 (Q0.rows f.kids)) :: iI ((Q0.rows f.kids).length : Int) :: iI s14 :: a8 (a2 (.any :: []))) : List AV)) (fun n0 ⟨n13, s14⟩ => Ya N f n0 n13 s14) (1, 0) h fun n0 ⟨n13, s14⟩ h => ?_
 first | rw [Ya] at h | simp only [Ya] at h
 rw [cX] at h;refine iR h fun h => ?_;refine Q0.xR h fun y16 h => ?_;refine cP h Q2n (.cons (Frz.agg' (.cons (.p _) (.cons (.p _) p5))) p1) fun v18 h => ?_;show Exists _;exact ⟨(n0, (IntKind.wrap .i64 (n13 + v18)), (IntKind.wrap .i64 (s14 + 1))), h, Le _, (fun i => i), Zc⟩
def Yl (rz : Q1 → Option (Q0)) (N : Nat) (v : Q1) : Nat → Int → (List Q0) → Option (Q0)
 | 0, _, _ => none
 | n + 1, s14, l15 =>
  cond (Q3 .lss s14 ((Q1.rows v.Items).length : Int))
  ((idx v.Items s14).bind fun y17 =>
  (rz y17).bind fun v19 =>
  cond (Nat.ble ((l15.length + 1 + 4096) * 96) 17592186044416) (Yl rz N v n (IntKind.wrap .i64 (s14 + 1)) (l15 ++ [v19])) none)
  (cond (Q3 .eql v.Kind 24)
  ((J2 N (IntKind.wrap .i64 v.N') l15).bind fun v23 =>
  cond ((v.Kind : Int) == 22)
  ((Ye N (⟨v, l15, v23, 0⟩ : Q0)).bind fun v26 =>
  some (⟨v, l15, v23, v26⟩ : Q0))
  (cond ((v.Kind : Int) == 23)
  ((Ye N (⟨v, l15, v23, 0⟩ : Q0)).bind fun v29 =>
  some (⟨v, l15, v23, v29⟩ : Q0))
  (cond ((v.Kind : Int) == 24)
  ((Vm N (⟨v, l15, v23, 0⟩ : Q0)).bind fun v32 =>
  some (⟨v, l15, v23, v32⟩ : Q0))
  (some (⟨v, l15, v23, 0⟩ : Q0)))))
  (cond ((v.Kind : Int) == 22)
  ((Ye N (⟨v, l15, 0, 0⟩ : Q0)).bind fun v35 =>
  some (⟨v, l15, 0, v35⟩ : Q0))
  (cond ((v.Kind : Int) == 23)
  ((Ye N (⟨v, l15, 0, 0⟩ : Q0)).bind fun v38 =>
  some (⟨v, l15, 0, v38⟩ : Q0))
  (cond ((v.Kind : Int) == 24)
  ((Vm N (⟨v, l15, 0, 0⟩ : Q0)).bind fun v41 =>
  some (⟨v, l15, 0, v41⟩ : Q0))
  (some (⟨v, l15, 0, 0⟩ : Q0))))))
def Q3k (rz : Q1 → Option (Q0)) (N : Nat) (v : Q1) : Option (Q0) :=
 Yl rz N v N 0 []
theorem Q9s {rz : Q1 → Option (Q0)} (hy2 : ∀ {v} {r}, rz v = some r → pU 104 [.agg (Q1.cells v)] (.agg (Q0.cells r))) {N} {v} {r} (h : Q3k rz N v = some r) : pU 104 [.agg (Q1.cells v)] (.agg (Q0.cells r)) := by
 refine Q2 Zdo ?_;unfold Q3k at h;refine lpA (τ := Int × (List Q0)) (fun ⟨s14, _⟩ => (.any :: .ptr 0 0 :: .ptr 1 0 :: .ptr 2 0 :: a8 (.p (.slice 4 (Q1.rows v.Items)) :: iI ((Q1.rows v.Items).length : Int) :: iI s14 :: a16 (a16 (a4 ([])))) : List AV)) (fun ⟨_, l15⟩ => (.cells (iI v.Kind :: iW v.N' :: iS v.Text :: .p (.slice 4 (Q1.rows v.Items)) :: []) :: .cells (iI 0 :: iW 0 :: iS [] :: .p .nilSlice :: .p .nilSlice :: iI 0 :: iI 0 :: []) :: .cells (iI v.Kind :: iW v.N' :: iS v.Text :: .p (.slice 4 (Q1.rows v.Items)) :: .slice 7 3 0 l15.length :: iI 0 :: iI 0 :: []) :: .cells (Zz Q0.cells l15) :: [] : List AObj)) (fun n0 ⟨s14, l15⟩ => Yl rz N v n0 s14 l15) (0, []) h fun n0 ⟨s14, l15⟩ h => ?_
 first | rw [Yl] at h | simp only [Yl] at h
 rw [cX] at h;apply iU h <;> intro h
 ·refine Q1.xR h fun y17 h => ?_;refine Qc ?_;refine cD h hy2 (.cons q4 .nil) fun v19 h => ?_;obtain ⟨hk21, h⟩ := Q4v h;refine Q0k (Xk (c := Q0.cells) (e := 7) (fun _ => rfl) sd hk21) ?_;refine Ux (c := Q0.cells) [v19] rfl ?_;show Exists _;exact ⟨(n0, (IntKind.wrap .i64 (s14 + 1)), (l15 ++ [v19])), h, Le _, (rho [0, 1, 2, 6]), Zc⟩
 apply iU h <;> intro h
 ·refine cK h Q51 (.cons (.p _) (.cons (Q0.frz_own (l := l15) rfl trivial sd) .nil)) fun v23 h => ?_;apply iU h <;> intro h
  ·refine cK h Vz (.cons (Frz.agg' (f4_ (.cons (Q0.frz_own (l := l15) rfl trivial sd) p2))) .nil) fun v26 h => ?_;obtain rfl := Qb h; exact (Frz.agg' (f4_ (.cons (Q0.frz_own (l := l15) rfl trivial sd) p2)))
  apply iU h <;> intro h
  ·refine cK h Vz (.cons (Frz.agg' (f4_ (.cons (Q0.frz_own (l := l15) rfl trivial sd) p2))) .nil) fun v29 h => ?_;obtain rfl := Qb h; exact (Frz.agg' (f4_ (.cons (Q0.frz_own (l := l15) rfl trivial sd) p2)))
  apply iU h <;> intro h
  ·refine cK h Q29 (.cons (Frz.agg' (f4_ (.cons (Q0.frz_own (l := l15) rfl trivial sd) p2))) .nil) fun v32 h => ?_;obtain rfl := Qb h; exact (Frz.agg' (f4_ (.cons (Q0.frz_own (l := l15) rfl trivial sd) p2)))
  obtain rfl := Qb h; exact (Frz.agg' (f4_ (.cons (Q0.frz_own (l := l15) rfl trivial sd) p2)))
 apply iU h <;> intro h
 ·refine cK h Vz (.cons (Frz.agg' (f4_ (.cons (Q0.frz_own (l := l15) rfl trivial sd) p2))) .nil) fun v35 h => ?_;obtain rfl := Qb h; exact (Frz.agg' (f4_ (.cons (Q0.frz_own (l := l15) rfl trivial sd) p2)))
 apply iU h <;> intro h
 ·refine cK h Vz (.cons (Frz.agg' (f4_ (.cons (Q0.frz_own (l := l15) rfl trivial sd) p2))) .nil) fun v38 h => ?_;obtain rfl := Qb h; exact (Frz.agg' (f4_ (.cons (Q0.frz_own (l := l15) rfl trivial sd) p2)))
 apply iU h <;> intro h
 ·refine cK h Q29 (.cons (Frz.agg' (f4_ (.cons (Q0.frz_own (l := l15) rfl trivial sd) p2))) .nil) fun v41 h => ?_;obtain rfl := Qb h; exact (Frz.agg' (f4_ (.cons (Q0.frz_own (l := l15) rfl trivial sd) p2)))
 obtain rfl := Qb h; exact (Frz.agg' (f4_ (.cons (Q0.frz_own (l := l15) rfl trivial sd) p2)))
def Xi : Nat → Q1 → Option (Q0)
 | 0 => fun _ => none
 | N + 1 => Q3k (Xi N) N
theorem Q9t {N} {v} {r} (h : Xi N v = some r) : pU 104 [.agg (Q1.cells v)] (.agg (Q0.cells r)) := by
 induction N generalizing v r with
 | zero => simp [Xi] at h
 | succ N ih => exact Q9s (fun h => ih h) h
def Q16 (_N : Nat) (most : Int) : Option (Bool) :=
 cond (Q3 .geq most 0)
 (some (Q3 .leq most 32))
 (some false)
theorem Q7e {N} {most} {r} (h : Q16 N most = some r) : pU 99 [.int .i64 most] (.bool r) := by
 refine Q2 k99 ?_;unfold Q16 at h;rw [cX] at h;exact iB h
def Jm (_N : Nat) (v : Q1) : Option (Bool) :=
 cond (Q4o .neq v.Text [])
 (some false)
 (cond (Q3 .eql v.Kind 24)
 (cond (Q3 .geq v.N' 1)
 (some (Q3 .leq v.N' 24))
 (some false))
 (cond (Q3 .neq v.N' 0)
 (some false)
 (cond (Q3 .eql v.Kind 25)
 (some (Q3 .eql ((Q1.rows v.Items).length : Int) 2))
 (cond (Q3 .eql v.Kind 23)
 (some (Q3 .eql ((((Q1.rows v.Items).length : Int) : Int).tmod 2) 0))
 (some true)))))
theorem Q9u {N} {v} {r} (h : Jm N v = some r) : pU 102 [.agg (Q1.cells v)] (.bool r) := by
 refine Q2 Zco ?_;unfold Jm at h;rw [cX, cY] at h;refine iL h fun h => ?_;apply iU h <;> intro h
 ·exact iB h
 refine iL h fun h => ?_;refine iL h fun h => ?_;exact iB h
def V6 (_N : Nat) (v : Q1) : Option (Bool) :=
 cond (Q3 .eql v.Kind 11)
 (cond (Q3 .eql (Gi .u64 (Q6l .u64 v.N' 23) 255) 255)
 (some (Q3 .neq (Q27 .u64 v.N' 41) 0))
 (some false))
 (cond (Q3 .eql v.Kind 12)
 (cond (Q3 .eql (Gi .u64 (Q6l .u64 v.N' 52) 2047) 2047)
 (some (Q3 .neq (Q27 .u64 v.N' 12) 0))
 (some false))
 (some false))
theorem Q3g {N} {v} {r} (h : V6 N v = some r) : pU 176 [.agg (Q1.cells v)] (.bool r) := by
 refine Q2 Zgt ?_;unfold V6 at h;rw [cX] at h;apply iU h <;> intro h
 ·exact iB h
 refine iR h fun h => ?_;exact iB h
def Xz (rx1 : Q1 → Q1 → Option (Bool)) (N : Nat) (a : Q1) (b : Q1) : Nat → Int → Option (Bool)
 | 0, _ => none
 | n + 1, s28 =>
  cond (Q3 .lss s28 ((Q1.rows a.Items).length : Int))
  ((idx a.Items s28).bind fun y30 =>
  (idx b.Items s28).bind fun y32 =>
  (rx1 y30 y32).bind fun v34 =>
  cond (!v34)
  (some false)
  (Xz rx1 N a b n (IntKind.wrap .i64 (s28 + 1))))
  (some true)
def W5 (rx1 : Q1 → Q1 → Option (Bool)) (N : Nat) (a : Q1) (b : Q1) : Nat → Int → Option (Bool)
 | 0, _ => none
 | n + 1, s54 =>
  cond (Q3 .lss s54 ((Q1.rows a.Items).length : Int))
  ((idx a.Items s54).bind fun y56 =>
  (idx b.Items s54).bind fun y58 =>
  (rx1 y56 y58).bind fun v60 =>
  cond (!v60)
  (some false)
  (W5 rx1 N a b n (IntKind.wrap .i64 (s54 + 1))))
  (some true)
def Q1s (rx1 : Q1 → Q1 → Option (Bool)) (N : Nat) (a : Q1) (b : Q1) : Option (Bool) :=
 cond (Q3 .neq a.Kind b.Kind)
 (some false)
 (cond (Q4o .neq a.Text b.Text)
 (some false)
 (cond (Q3 .neq ((Q1.rows a.Items).length : Int) ((Q1.rows b.Items).length : Int))
 (some false)
 (cond (Q3 .neq a.N' b.N')
 ((V6 N a).bind fun v5 =>
 cond v5
 ((V6 N b).bind fun v8 =>
 cond (!v8)
 (some false)
 (Xz rx1 N a b N 0))
 (some false))
 (W5 rx1 N a b N 0))))
theorem Qa3 {rx1 : Q1 → Q1 → Option (Bool)} (hx3 : ∀ {a} {b} {r}, rx1 a b = some r → pU 141 [.agg (Q1.cells a), .agg (Q1.cells b)] (.bool r)) {N} {a} {b} {r} (h : Q1s rx1 N a b = some r) : pU 141 [.agg (Q1.cells a), .agg (Q1.cells b)] (.bool r) := by
 refine Q2 Z8t ?_;unfold Q1s at h;rw [cX, cY] at h;refine iL h fun h => ?_;refine iL h fun h => ?_;refine iL h fun h => ?_;apply iU h <;> intro h
 ·refine cP h Q3g (.cons q4 .nil) fun v5 h => ?_;refine iR h fun h => ?_;refine cP h Q3g (.cons q4 .nil) fun v8 h => ?_;refine iL h fun h => ?_;refine lpH (τ := Int) (fun s28 => (.any :: .any :: .ptr 0 0 :: .ptr 1 0 :: a16 (a16 (a4 (a2 (.any :: iI ((Q1.rows a.Items).length : Int) :: iI s28 :: a8 (a4 (a2 (.any :: []))))))) : List AV)) (fun n0 s28 => Xz rx1 N a b n0 s28) (0) h fun n0 s28 h => ?_
  first | rw [Xz] at h | simp only [Xz] at h
  rw [cX] at h;refine iR h fun h => ?_;refine Qc ?_;refine Q1.xR h fun y30 h => ?_;refine Q1.xR h fun y32 h => ?_;refine cD h hx3 (.cons q4 (.cons q4 .nil)) fun v34 h => ?_;refine iL h fun h => ?_;show Exists _;exact ⟨(n0, (IntKind.wrap .i64 (s28 + 1))), h, Le _, (fun i => i), Zc⟩
 refine lpH (τ := Int) (fun s54 => (.any :: .any :: .ptr 0 0 :: .ptr 1 0 :: a16 (a16 (a4 (a2 (.any :: iI ((Q1.rows a.Items).length : Int) :: iI s54 :: a8 (a4 (a2 (.any :: []))))))) : List AV)) (fun n1 s54 => W5 rx1 N a b n1 s54) (0) h fun n1 s54 h => ?_
 first | rw [W5] at h | simp only [W5] at h
 rw [cX] at h;refine iR h fun h => ?_;refine Qc ?_;refine Q1.xR h fun y56 h => ?_;refine Q1.xR h fun y58 h => ?_;refine cD h hx3 (.cons q4 (.cons q4 .nil)) fun v60 h => ?_;refine iL h fun h => ?_;show Exists _;exact ⟨(n1, (IntKind.wrap .i64 (s54 + 1))), h, Le _, (fun i => i), Zc⟩
def Y1 : Nat → Q1 → Q1 → Option (Bool)
 | 0 => fun _ _ => none
 | N + 1 => Q1s (Y1 N) N
theorem Qak {N} {a} {b} {r} (h : Y1 N a b = some r) : pU 141 [.agg (Q1.cells a), .agg (Q1.cells b)] (.bool r) := by
 induction N generalizing a b r with
 | zero => simp [Y1] at h
 | succ N ih => exact Qa3 (fun h => ih h) h
def Vw (N : Nat) (k0 : Int → Option (Int)) (v : Q1) (i56 : Int) : Nat → Int → Option (Int)
 | 0, _ => none
 | n + 1, k75 =>
  cond (Q3 .lss k75 i56)
  ((idx v.Items i56).bind fun y77 =>
  (idx v.Items k75).bind fun y79 =>
  (Y1 N y77 y79).bind fun v81 =>
  cond v81
  (some 16)
  (Vw N k0 v i56 n (IntKind.wrap .i64 (k75 + 2))))
  (k0 (IntKind.wrap .i64 (i56 + 2)))
def Xq (N : Nat) (v : Q1) : Nat → Int → Option (Int)
 | 0, _ => none
 | n + 1, i56 =>
  cond (Q3 .lss i56 ((Q1.rows v.Items).length : Int))
  (Vw N (Xq N v n) v i56 N 0)
  (some 0)
def Q2v (N : Nat) (v : Q1) : Option (Int) :=
 cond (Q3 .neq v.Kind 23)
 (some 0)
 (Xq N v N 2)
theorem Qb0 {N} {v} {r} (h : Q2v N v = some r) : pU 103 [.agg (Q1.cells v)] (.int .i64 r) := by
 refine Q2 Z60 ?_;unfold Q2v at h;rw [cX] at h;refine iL h fun h => ?_;refine lpH (τ := Int) (fun i56 => (.any :: .ptr 0 0 :: .any :: iI i56 :: a16 (a8 (a2 (.any :: []))) : List AV)) (fun n0 i56 => Xq N v n0 i56) (2) h fun n0 i56 h => ?_
 first | rw [Xq] at h | simp only [Xq] at h
 rw [cX] at h;refine iR h fun h => ?_;refine lpH (τ := Int) (fun k75 => (.any :: .ptr 0 0 :: .any :: iI i56 :: iI k75 :: a16 (a8 (a2 ([]))) : List AV)) (fun n1 k75 => Vw N (Xq N v n0) v i56 n1 k75) (0) h fun n1 k75 h => ?_
 first | rw [Vw] at h | simp only [Vw] at h
 rw [cX] at h;apply iU h <;> intro h
 ·refine Qc ?_;refine Q1.xR h fun y77 h => ?_;refine Q1.xR h fun y79 h => ?_;refine cD h Qak (.cons q4 (.cons q4 .nil)) fun v81 h => ?_;refine iL h fun h => ?_;show Exists _;exact ⟨(n1, (IntKind.wrap .i64 (k75 + 2))), h, Le _, (fun i => i), Zc⟩
 show Exists _;exact ⟨(n0, (IntKind.wrap .i64 (i56 + 2))), h, Le _, (fun i => i), Zc⟩
def Y3 (ry1 : Q1 → Int → Option (Int)) (N : Nat) (v : Q1) (most : Int) : Nat → Int → Option (Int)
 | 0, _ => none
 | n + 1, s34 =>
  cond (Q3 .lss s34 ((Q1.rows v.Items).length : Int))
  ((idx v.Items s34).bind fun y36 =>
  cond (Q3 .eql v.Kind 24)
  (cond (Q3 .neq (IntKind.wrap .u64 y36.Kind) v.N')
  (some 8)
  ((ry1 y36 (IntKind.wrap .i64 (most - 1))).bind fun v40 =>
  cond (Q3 .neq v40 0)
  (some v40)
  (Y3 ry1 N v most n (IntKind.wrap .i64 (s34 + 1)))))
  ((ry1 y36 (IntKind.wrap .i64 (most - 1))).bind fun v43 =>
  cond (Q3 .neq v43 0)
  (some v43)
  (Y3 ry1 N v most n (IntKind.wrap .i64 (s34 + 1)))))
  ((Q2v N v).bind fun v46 =>
  some v46)
def Gr (ry1 : Q1 → Int → Option (Int)) (N : Nat) (v : Q1) (most : Int) : Option (Int) :=
 cond (Q3 .lss v.Kind 1)
 (some 8)
 (cond (Q3 .gtr v.Kind 25)
 (some 8)
 (cond (Q3 .leq v.Kind 21)
 ((Jo N v).bind fun v4 =>
 some v4)
 (cond (Q3 .eql most 0)
 (some 14)
 ((Jm N v).bind fun v7 =>
 cond (!v7)
 (some 2)
 (cond (Q3 .gtr ((Q1.rows v.Items).length : Int) 1000)
 (some 4)
 (Y3 ry1 N v most N 0))))))
theorem Q8x {ry1 : Q1 → Int → Option (Int)} (hy3 : ∀ {v} {most} {r}, ry1 v most = some r → Qq8 Tryz.prog G1 100 [.agg (Q1.cells v), .int .i64 most] (.int .i64 r)) {N} {v} {most} {r} (h : Gr ry1 N v most = some r) : Qq8 Tryz.prog G1 100 [.agg (Q1.cells v), .int .i64 most] (.int .i64 r) := by
 refine Qqd Zbo ?_;unfold Gr at h;rw [cX] at h;apply iU h <;> intro h
 ·obtain rfl := Qb h; exact ⟨_, rfl, (.p _)⟩
 apply iU h <;> intro h
 ·obtain rfl := Qb h; exact ⟨_, rfl, (.p _)⟩
 apply iU h <;> intro h
 ·refine cP h Q69 (.cons q4 .nil) fun v4 h => ?_;obtain rfl := Qb h; exact ⟨_, rfl, (.p _)⟩
 apply iU h <;> intro h
 ·obtain rfl := Qb h; exact ⟨_, rfl, (.p _)⟩
 refine cP h Q9u (.cons q4 .nil) fun v7 h => ?_;apply iU h <;> intro h
 ·obtain rfl := Qb h; exact ⟨_, rfl, (.p _)⟩
 apply iU h <;> intro h
 ·obtain rfl := Qb h; exact ⟨_, rfl, (.p _)⟩
 refine lpH (τ := Int) (fun s34 => (.any :: iI most :: .ptr 0 0 :: .ptr 1 0 :: a16 (a16 (.any :: .p (.slice 4 (Q1.rows v.Items)) :: iI ((Q1.rows v.Items).length : Int) :: iI s34 :: a16 (a8 (.any :: [])))) : List AV)) (fun n0 s34 => Y3 ry1 N v most n0 s34) (0) h fun n0 s34 h => ?_
 first | rw [Y3] at h | simp only [Y3] at h
 rw [cX] at h;apply iU h <;> intro h
 ·refine Q1.xR h fun y36 h => ?_;apply iU h <;> intro h
  ·apply iU h <;> intro h
   ·obtain rfl := Qb h; exact ⟨_, rfl, (.p _)⟩
   obtain ⟨v40, hv41, h⟩ := Js h;refine Qga (hy3 hv41) (.cons q4 p1) rfl rfl ?_;apply iU h <;> intro h
   ·obtain rfl := Qb h; exact ⟨_, rfl, (.p _)⟩
   show Exists _;exact ⟨(n0, (IntKind.wrap .i64 (s34 + 1))), h, Le _, (fun i => i), Zc⟩
  obtain ⟨v43, hv44, h⟩ := Js h;refine Qga (hy3 hv44) (.cons q4 p1) rfl rfl ?_;apply iU h <;> intro h
  ·obtain rfl := Qb h; exact ⟨_, rfl, (.p _)⟩
  show Exists _;exact ⟨(n0, (IntKind.wrap .i64 (s34 + 1))), h, Le _, (fun i => i), Zc⟩
 refine cP h Qb0 (.cons q4 .nil) fun v46 h => ?_;obtain rfl := Qb h; exact ⟨_, rfl, (.p _)⟩
def Zm : Nat → Q1 → Int → Option (Int)
 | 0 => fun _ _ => none
 | N + 1 => Gr (Zm N) N
theorem Q84 {N} {v} {most} {r} (h : Zm N v most = some r) : Qq8 Tryz.prog G1 100 [.agg (Q1.cells v), .int .i64 most] (.int .i64 r) := by
 induction N generalizing v most r with
 | zero => simp [Zm] at h
 | succ N ih => exact Q8x (fun h => ih h) h
def J1 (N : Nat) (v : Q1) (most : Int) : Option (Int) :=
 (Q16 N most).bind fun v1 =>
 cond (!v1)
 (some 2)
 ((Zm N v most).bind fun v4 =>
 some v4)
theorem Q5k {N} {v} {most} {r} (h : J1 N v most = some r) : pU 79 [.agg (Q1.cells v), .int .i64 most] (.int .i64 r) := by
 refine Q2 k79 ?_;unfold J1 at h;refine cP h Q7e p1 fun v1 h => ?_;refine iL h fun h => ?_;obtain ⟨v4, hv5, h⟩ := Js h;refine Qga (Q84 hv5) (.cons q4 p1) rfl rfl ?_;cases h; exact (.p _)
def Gy (N : Nat) (v : Q1) (most : Int) : Option (Int × Int) :=
 (J1 N v most).bind fun v1 =>
 cond (Q3 .neq v1 0)
 (some (0, v1))
 ((Yh N v).bind fun v4 =>
 (Xi N v4).bind fun v6 =>
 (U8 N v6).bind fun v8 =>
 (Zx N v6 v8).bind fun v10 =>
 some ((IntKind.wrap .i64 (1 + v10)), 0))
theorem Qc3 {N} {v} {most} {r} (h : Gy N v most = some r) : pU 80 [.agg (Q1.cells v), .int .i64 most] (.tuple [.int .i64 r.1, .int .i64 r.2]) := by
 refine Q2 k80 ?_;unfold Gy at h;rw [cX] at h;refine cP h Q5k (.cons q4 p1) fun v1 h => ?_;refine iL2 h fun h => ?_;refine cP h Q63 (.cons q4 .nil) fun v4 h => ?_;refine cP h Q9t p1 fun v6 h => ?_;refine Qc ?_;refine cD h Q30 (.cons (Frz.agg' (.cons (.p _) (.cons (.p _) p5))) .nil) fun v8 h => ?_;refine cD h Q2n (.cons (Frz.agg' (.cons (.p _) (.cons (.p _) p5))) p1) fun v10 h => ?_;obtain rfl := Qb h; exact u2
def Gc (_N : Nat) (l : Y5) : Option (Bool) :=
 cond (Q3 .geq l.MaxPacket 16)
 (cond (Q3 .leq l.MaxPacket 1048576)
 (cond (Q3 .geq l.MaxDepth 0)
 (some (Q3 .leq l.MaxDepth 32))
 (some false))
 (some false))
 (some false)
theorem Qah {N} {l} {r} (h : Gc N l = some r) : pU 77 [.agg (Y5.cells l)] (.bool r) := by
 refine Q2 k77 ?_;unfold Gc at h;rw [cX] at h;refine iR h fun h => ?_;refine iR h fun h => ?_;exact iB h
def Q4i (_N : Nat) (n_0 : Int) : Option (Bool) :=
 cond (Q3 .eql n_0 0)
 (some true)
 (some (Q3 .eql n_0 1))
theorem Qa9 {N} {n_0} {r} (h : Q4i N n_0 = some r) : pU 78 [.int .i64 n_0] (.bool r) := by
 refine Q2 k78 ?_;unfold Q4i at h;rw [cX] at h;exact iB h
def Xa (N : Nat) (f : Yj) (l : Y5) : Nat → Int → Int → Option (Int)
 | 0, _, _ => none
 | n + 1, all44, s45 =>
  cond (Q3 .lss s45 ((Q1.rows f.Values).length : Int))
  ((idx f.Values s45).bind fun y47 =>
  (Gy N y47 l.MaxDepth).bind fun v49 =>
  Xa N f l n (IntKind.wrap .i64 (all44 + v49.1)) (IntKind.wrap .i64 (s45 + 1)))
  (cond (Q3 .gtr all44 l.MaxPacket)
  (some 4)
  (some 0))
def W2 (N : Nat) (f : Yj) (l : Y5) : Nat → Int → Option (Int)
 | 0, _ => none
 | n + 1, s25 =>
  cond (Q3 .lss s25 ((Q1.rows f.Values).length : Int))
  ((idx f.Values s25).bind fun y27 =>
  (J1 N y27 l.MaxDepth).bind fun v29 =>
  cond (Q3 .neq v29 0)
  (some v29)
  (W2 N f l n (IntKind.wrap .i64 (s25 + 1))))
  (Xa N f l N (IntKind.wrap .i64 (8 + (f.Ext.length : Int))) 0)
def Q1t (N : Nat) (f : Yj) (l : Y5) : Option (Int) :=
 (Gc N l).bind fun v1 =>
 cond (!v1)
 (some 2)
 ((Q4i N f.Type').bind fun v4 =>
 cond (!v4)
 (some 8)
 (cond (Q3 .lss f.Channel 0)
 (some 2)
 (cond (Q3 .gtr f.Channel 65535)
 (some 2)
 (cond (Q3 .gtr (f.Ext.length : Int) 1012)
 (some 2)
 (cond (Q3 .neq (((f.Ext.length : Int) : Int).tmod 4) 0)
 (some 2)
 (cond (Q3 .gtr ((Q1.rows f.Values).length : Int) 1000)
 (some 4)
 (W2 N f l N 0)))))))
theorem Qa8 {N} {f} {l} {r} (h : Q1t N f l = some r) : pU 59 [.agg (Yj.cells f), .agg (Y5.cells l)] (.int .i64 r) := by
 refine Q2 k59 ?_;unfold Q1t at h;rw [cX] at h;refine cP h Qah (.cons q2 .nil) fun v1 h => ?_;refine iL h fun h => ?_;refine cP h Qa9 p1 fun v4 h => ?_;refine iL h fun h => ?_;refine iL h fun h => ?_;refine iL h fun h => ?_;refine iL h fun h => ?_;refine iL h fun h => ?_;refine iL h fun h => ?_;refine lpH (τ := Int) (fun s25 => (.any :: .any :: .ptr 0 0 :: .ptr 1 0 :: a16 (a16 (a8 (a2 (.p (.slice 4 (Q1.rows f.Values)) :: iI ((Q1.rows f.Values).length : Int) :: iI s25 :: a16 (a16 (a4 (.any :: []))))))) : List AV)) (fun n0 s25 => W2 N f l n0 s25) (0) h fun n0 s25 h => ?_
 first | rw [W2] at h | simp only [W2] at h
 rw [cX] at h;apply iU h <;> intro h
 ·refine Q1.xR h fun y27 h => ?_;refine cP h Q5k (.cons q4 p1) fun v29 h => ?_;refine iL h fun h => ?_;show Exists _;exact ⟨(n0, (IntKind.wrap .i64 (s25 + 1))), h, Le _, (fun i => i), Zc⟩
 refine lpH (τ := Int × Int) (fun ⟨all44, s45⟩ => (a2 (.any :: .ptr 1 0 :: a4 (iI all44 :: a16 (a16 (a16 (a8 (.p (.slice 4 (Q1.rows f.Values)) :: iI ((Q1.rows f.Values).length : Int) :: iI s45 :: a16 (a2 ([])))))))) : List AV)) (fun n1 ⟨all44, s45⟩ => Xa N f l n1 all44 s45) ((IntKind.wrap .i64 (8 + (f.Ext.length : Int))), 0) h fun n1 ⟨all44, s45⟩ h => ?_
 first | rw [Xa] at h | simp only [Xa] at h
 rw [cX] at h;apply iU h <;> intro h
 ·refine Q1.xR h fun y47 h => ?_;refine cP h Qc3 (.cons q4 p1) fun v49 h => ?_;show Exists _;exact ⟨(n1, (IntKind.wrap .i64 (all44 + v49.1)), (IntKind.wrap .i64 (s45 + 1))), h, Le _, (fun i => i), Zc⟩
 exact iB h
def Q3a (N : Nat) (e : Qv) (l : Y5) : Option (Int) :=
 cond (Q3 .eql e.Proto 1)
 ((J6 N (⟨e.Proto, e.Kind, [], [], 0, false, false, 0, [], 0, [], 0, e.Packet, (⟨0, (⟨false, 0, false, false, false, 0⟩ : Xx), 0, 0, 0, false, 0, 0, 0, [], []⟩ : Q14), (⟨0, 0, [], []⟩ : Yj)⟩ : Qv) e).bind fun v2 =>
 cond (!v2)
 (some 2)
 (cond (Q3 .eql e.Packet.Kind 3)
 (some 2)
 ((Ua N 4 e.Packet).bind fun v6 =>
 some v6)))
 (cond (Q3 .eql e.Proto 2)
 ((J6 N (⟨e.Proto, e.Kind, [], [], 0, false, false, 0, [], 0, [], 0, e.Packet, (⟨0, (⟨false, 0, false, false, false, 0⟩ : Xx), 0, 0, 0, false, 0, 0, 0, [], []⟩ : Q14), (⟨0, 0, [], []⟩ : Yj)⟩ : Qv) e).bind fun v9 =>
 cond (!v9)
 (some 2)
 (cond (Q3 .eql e.Packet.Kind 3)
 (some 2)
 ((Ua N 5 e.Packet).bind fun v13 =>
 some v13)))
 (cond (Q3 .eql e.Proto 3)
 ((J6 N (⟨e.Proto, e.Kind, [], [], 0, false, false, 0, [], 0, e.Hops, 0, (⟨0, false, false, 0, 0, [], [], false, 0, [], false, [], false, [], false, (⟨[], [], 0, false, []⟩ : Q10), false, 0, [], [], []⟩ : Qa), e.Msg, (⟨0, 0, [], []⟩ : Yj)⟩ : Qv) e).bind fun v16 =>
 cond (!v16)
 (some 2)
 (cond (Q3 .eql e.Msg.Type' 12)
 (some 2)
 ((Vk N (⟨e.Hops, e.Msg⟩ : Wd) l).bind fun v20 =>
 some v20)))
 (cond (Q3 .eql e.Proto 4)
 ((J6 N (⟨e.Proto, e.Kind, [], [], 0, false, false, 0, [], 0, [], 0, (⟨0, false, false, 0, 0, [], [], false, 0, [], false, [], false, [], false, (⟨[], [], 0, false, []⟩ : Q10), false, 0, [], [], []⟩ : Qa), (⟨0, (⟨false, 0, false, false, false, 0⟩ : Xx), 0, 0, 0, false, 0, 0, 0, [], []⟩ : Q14), e.Frame⟩ : Qv) e).bind fun v23 =>
 cond (!v23)
 (some 2)
 ((Q2w N e.Frame).bind fun v26 =>
 (Xw N e.Frame v26).bind fun v28 =>
 cond (!v28)
 (some 2)
 ((Q1t N e.Frame l).bind fun v31 =>
 some v31)))
 (some 2))))
theorem Qef {N} {e} {l} {r} (h : Q3a N e l = some r) : pU 24 [.agg (Qv.cells e), .agg (Y5.cells l)] (.int .i64 r) := by
 refine Q2 k24 ?_;unfold Q3a at h;rw [cX] at h;refine ifO h (fun hc1 h => ?_) (fun hc1 h => ?_)
 ·refine ifT hc1 ?_;refine cP h Q33 (.cons (Frz.agg' (f8_ (.cons (.nil _) (.cons (.p _) (.cons (.nil _) (Xt (Xt (f8_ (f4_ (f1_ (.cons (.nil _) .nil))))))))))) (.cons (Frz.agg' (Xt (Xt (Xt (f2_ (f1_ (.cons (.p _) p5))))))) .nil)) fun v2 h => ?_;refine iL h fun h => ?_;refine iL h fun h => ?_;refine ifT hc1 ?_;refine cP h Q8l (.cons (.p _) (.cons (Frz.agg' (Xt (f2_ (f1_ (.cons (.p _) p5))))) .nil)) fun v6 h => ?_;cases h; exact (.p _)
 apply iU h <;> intro h
 ·refine cP h Q33 (.cons (Frz.agg' (f8_ (.cons (.nil _) (.cons (.p _) (.cons (.nil _) (Xt (Xt (f8_ (f4_ (f1_ (.cons (.nil _) .nil))))))))))) (.cons (Frz.agg' (Xt (Xt (Xt (f2_ (f1_ (.cons (.p _) p5))))))) .nil)) fun v9 h => ?_;refine iL h fun h => ?_;refine iL h fun h => ?_;refine ifF hc1 ?_;refine cP h Q8l (.cons (.p _) (.cons (Frz.agg' (Xt (f2_ (f1_ (.cons (.p _) p5))))) .nil)) fun v13 h => ?_;cases h; exact (.p _)
 apply iU h <;> intro h
 ·refine Qc ?_;refine cP h Q33 (.cons (Frz.agg' (f8_ (.cons (.nil _) (Xt (f4_ (f2_ (.cons (.nil _) (f2_ (.cons (.nil _) (.cons (.nil _) (.cons (.nil _) (Xt (f2_ (f1_ (.cons (.nil _) .nil))))))))))))))) (.cons (Frz.agg' (Xt (Xt (Xt (f2_ (f1_ (.cons (.p _) p5))))))) .nil)) fun v16 h => ?_;refine iL h fun h => ?_;refine iL h fun h => ?_;refine cP h Q3j (.cons (Frz.agg' (f8_ (f2_ (f1_ (.cons (.p _) p5))))) (.cons q2 .nil)) fun v20 h => ?_;cases h; exact (.p _)
 refine iR h fun h => ?_;refine Qc ?_;refine cD h Q33 (.cons (Frz.agg' (f8_ (.cons (.nil _) (.cons (.p _) (.cons (.nil _) (Xt (f4_ (.cons (.nil _) (f2_ (.cons (.nil _) (.cons (.nil _) (.cons (.nil _) (f8_ (f4_ (f2_ (.cons (.p _) p5)))))))))))))))) (.cons (Frz.agg' (Xt (Xt (Xt (f2_ (f1_ (.cons (.p _) p5))))))) .nil)) fun v23 h => ?_;refine iL h fun h => ?_;refine cD h Qbh (.cons q4 .nil) fun v26 h => ?_;refine cD h Q2u (.cons q4 p1) fun v28 h => ?_;refine iL h fun h => ?_;refine cP h Qa8 (.cons q4 (.cons q2 .nil)) fun v31 h => ?_;cases h; exact (.p _)
def Q0w (_N : Nat) (l : Y5) : Option (Bool) :=
 cond (Q3 .geq l.MaxPacket 16)
 (cond (Q3 .leq l.MaxPacket 1048576)
 (cond (Q3 .geq l.MaxDepth 0)
 (some (Q3 .leq l.MaxDepth 32))
 (some false))
 (some false))
 (some false)
theorem Qec {N} {l} {r} (h : Q0w N l = some r) : pU 22 [.agg (Y5.cells l)] (.bool r) := by
 refine Q2 k22 ?_;unfold Q0w at h;rw [cX] at h;refine iR h fun h => ?_;refine iR h fun h => ?_;exact iB h
def Q2g (_N : Nat) (proto : Int) : Option (Bool) :=
 optC (Q8q Gq proto) (fun m1 =>
 some true)
 (some false)
theorem Qeb {N} {proto} {r} (h : Q2g N proto = some r) : pU 40 [.int .i64 proto] (.bool r) := by
 refine Q2 k40 ?_;unfold Q2g at h;refine Wz Qcs .nil ?_;refine Qyx h (fun m1 hm2 h => ?_) (fun hm2 h => ?_)
 ·cases h; exact (.p _)
 cases h; exact (.p _)
def Ub (_N : Nat) (n_0 : Int) (low : Int) (high : Int) : Option (Bool) :=
 cond (Q3 .geq n_0 low)
 (some (Q3 .leq n_0 high))
 (some false)
theorem Q0x {N} {n_0} {low} {high} {r} (h : Ub N n_0 low high = some r) : pU 44 [.int .i64 n_0, .int .i64 low, .int .i64 high] (.bool r) := by
 refine Q2 k44 ?_;unfold Ub at h;rw [cX] at h;exact iB h
def Gd (_N : Nat) : Option (Y5) :=
 some (⟨1048576, 32⟩ : Y5)
theorem Q52 {N} {r} (h : Gd N = some r) : pU 72 [] (.agg (Y5.cells r)) := by
 refine Q2 k72 ?_;unfold Gd at h;obtain rfl := Qb h; exact q2
end
end
end Go.Av
