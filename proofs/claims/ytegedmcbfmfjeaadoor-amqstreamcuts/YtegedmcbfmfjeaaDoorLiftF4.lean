/- The law. Part of a proof of a given statement: for every input the law returns true and the arguments read as before; no condition beyond the given row. -/
import Derived.Test.YtegedmcbfmfjeaaDoorLiftF3
namespace Go.Av
noncomputable section
open Go.Proofs
set_option maxRecDepth 100000
set_option maxHeartbeats 4000000
attribute [local irreducible] Xb Y3 Q27 Q2g Qcy Qeq Q3m
section
def Zq (N : Nat) (l : Qa) (v9 : (List Q6) × Int × Int) (v13 : List (List UInt8)) : Nat → Int → Option (Bool)
 | 0, _ => none
 | n + 1, i24 =>
  cond (Qe .lss i24 ((Qq cS v13).length : Int))
  ((idx v13 i24).bind fun y26 =>
  cond (Qe .geq 0 l.MaxPacket)
  (some false)
  (Zq N l v9 v13 n (IntKind.wrap .i64 (i24 + 1))))
  ((Zp N [] v9.1).bind fun v29 =>
  cond v29
  (cond (Qe .eql 0 v9.2.1)
  (some (Qe .eql 1 v9.2.2))
  (some false))
  (some false))
def Qg (N : Nat) (l : Qa) (v33 : (List Q6) × Int × Int) (v35 : List (List UInt8)) : Nat → Int → Int → Int → Int → Int → Int → Int → Nat → (List Int) → (List Q6) → (List Q6) → Option (Bool)
 | 0, _, _, _, _, _, _, _, _, _, _, _ => none
 | n + 1, i90, c91, c92, c93, c94, c95, c96, q97, l98, l99, l100 =>
  cond (Qe .lss i90 ((Qq cS v35).length : Int))
  ((idx v35 i90).bind fun y102 =>
  (Qo N (⟨(⟨c91, c92⟩ : Qa), l98, c93, c94, c95, c96, q97, l99⟩ : Q3) y102).bind fun v104 =>
  cond (Nat.beq (Qq Q6.cells v104.1.1).length 0)
  (cond (Qe .neq v104.1.2 v104.2.e)
  (some false)
  (cond (decide (0 ≤ v104.2.from')) (cond (Nat.ble v104.2.from'.toNat v104.2.kept.length && Nat.ble v104.2.kept.length v104.2.kept.length) (cond (Qe .geq (((v104.2.kept.length - v104.2.from'.toNat) : Nat) : Int) l.MaxPacket)
  (some false)
  (cond (Qe .neq v104.1.2 0)
  (cond (Nat.ble v104.2.from'.toNat v104.2.kept.length && Nat.ble v104.2.kept.length v104.2.kept.length) (cond (Qe .neq (((v104.2.kept.length - v104.2.from'.toNat) : Nat) : Int) 0)
  (some false)
  (Qg N l v33 v35 n (IntKind.wrap .i64 (i90 + 1)) v104.2.l.MaxPacket v104.2.l.MaxDepth v104.2.from' v104.2.at' v104.2.need v104.2.e v104.2.next v104.2.kept v104.2.out l100)) none)
  (Qg N l v33 v35 n (IntKind.wrap .i64 (i90 + 1)) v104.2.l.MaxPacket v104.2.l.MaxDepth v104.2.from' v104.2.at' v104.2.need v104.2.e v104.2.next v104.2.kept v104.2.out l100))) none) none))
  (cond (Nat.ble ((l100.length + (Qq Q6.cells v104.1.1).length + 4096) * 56) 17592186044416) (cond (Qe .neq v104.1.2 v104.2.e)
  (some false)
  (cond (decide (0 ≤ v104.2.from')) (cond (Nat.ble v104.2.from'.toNat v104.2.kept.length && Nat.ble v104.2.kept.length v104.2.kept.length) (cond (Qe .geq (((v104.2.kept.length - v104.2.from'.toNat) : Nat) : Int) l.MaxPacket)
  (some false)
  (cond (Qe .neq v104.1.2 0)
  (cond (Nat.ble v104.2.from'.toNat v104.2.kept.length && Nat.ble v104.2.kept.length v104.2.kept.length) (cond (Qe .neq (((v104.2.kept.length - v104.2.from'.toNat) : Nat) : Int) 0)
  (some false)
  (Qg N l v33 v35 n (IntKind.wrap .i64 (i90 + 1)) v104.2.l.MaxPacket v104.2.l.MaxDepth v104.2.from' v104.2.at' v104.2.need v104.2.e v104.2.next v104.2.kept v104.2.out (l100 ++ v104.1.1))) none)
  (Qg N l v33 v35 n (IntKind.wrap .i64 (i90 + 1)) v104.2.l.MaxPacket v104.2.l.MaxDepth v104.2.from' v104.2.at' v104.2.need v104.2.e v104.2.next v104.2.kept v104.2.out (l100 ++ v104.1.1)))) none) none)) none))
  ((Zp N l100 v33.1).bind fun v122 =>
  cond v122
  ((Zs N (⟨(⟨c91, c92⟩ : Qa), l98, c93, c94, c95, c96, q97, l99⟩ : Q3)).bind fun v125 =>
  cond (Qe .eql v125.1 v33.2.1)
  ((X4 N v125.2).bind fun v128 =>
  some (Qe .eql v128.1 v33.2.2))
  (some false))
  (some false))
def Zm (N : Nat) (l : Qa) (s_1 : List UInt8) (cuts : List Int) : Option (Bool) :=
 (Yh N).bind fun v1 =>
 cond (!v1)
 (some false)
 (cond (Qe .gtr (s_1.length : Int) 300)
 (some true)
 (cond (Qe .gtr ((Qq (cI .i64) cuts).length : Int) 20)
 (some true)
 ((Zw N [] l).bind fun v6 =>
 cond (Qe .eql v6.2 2)
 ((Yy N l s_1).bind fun v9 =>
 cond (Qe .neq v6.2 0)
 (cond (Qe .eql v9.2.2 v6.2)
 (some (Qe .eql ((Qq Q6.cells v9.1).length : Int) 0))
 (some false))
 ((Yw N s_1 cuts).bind fun v13 =>
 Zq N l v9 v13 N 0))
 ((Yy N l s_1).bind fun v33 =>
 (Yw N s_1 cuts).bind fun v35 =>
 Qg N l v33 v35 N 0 l.MaxPacket l.MaxDepth 0 0 0 0 37 [] [] []))))
theorem V8 {N} {l} {s_1} {cuts} {r} (h : Zm N l s_1 cuts = some r) : Xp Tryd.prog G1 6 [.agg (Qa.cells l), .str s_1, .slice 1 (Qq (cI .i64) cuts)] (.bool r) := by
 refine Qk k6 ?_
 unfold Zm at h
 rw [cX] at h
 refine cP h J4 p0 fun v1 h => ?_
 apply iU h <;> intro h
 ·cases h; exact (.p _)
 ·apply iU h <;> intro h
  ·cases h; exact (.p _)
  ·apply iU h <;> intro h
   ·cases h; exact (.p _)
   ·refine Zv k17 ?_
    refine cP h Xd (.cons (.p _) (.cons q2 .nil)) fun v6 h => ?_
    apply iU h <;> intro h
    ·refine cP h Vt (.cons q2 p1) fun v9 h => ?_
     apply iU h <;> intro h
     ·apply iU h <;> intro h
      ·cases h; exact (.p _)
      ·cases h; exact (.p _)
     ·refine cP h Vq p2 fun v13 h => ?_
      refine lpC (τ := Int) (fun i24 => (a2 (.any :: .ptr 0 0 :: a2 (.any :: .p .nilPtr :: .any :: .p (.slice 4 (Qq Q6.cells v9.1)) :: iI v9.2.1 :: iI v9.2.2 :: .p .nilSlice :: .p (.slice 1 (Qq cS v13)) :: iI i24 :: a16 (a16 (a16 (a16 (a16 (a8 (a4 (a2 ([])))))))))) : List AV)) (fun _ => (.cells (iI l.MaxPacket :: iI l.MaxDepth :: []) :: .cells (iI l.MaxPacket :: iI l.MaxDepth :: []) :: [] : List AObj)) (fun n0 i24 => Zq N l v9 v13 n0 i24) (0) h (fun i => i) ⟨(rW <| rA <| rE rfl <| rW <| rA <| rE rfl <| rA <| rE rfl <| rE rfl <| rE rfl <| rE rfl <| rE rfl <| rE rfl <| rX <| rX <| rX <| rX <| rX <| rX <| rX <| rX <| rX <| rX <| rX <| rV <| rW <| rN), (hE rfl <| hE rfl <| hN), rfl, rfl, (roE rfl <| roE rfl <| roN)⟩ fun n0 i24 h => ?_
      simp only [Zq] at h
      rw [cX] at h
      apply iU h <;> intro h
      ·refine xR h fun y26 h => ?_
       refine Zv k18 ?_
       refine Q7 ?_
       refine Q0f (r := iI 1) rfl rfl (Zv k22 rfl) ?_
       refine ifF (cF (by decide)) ?_
       refine Q0f (r := iI 0) rfl rfl (Zv k19 rfl) ?_
       apply iU h <;> intro h
       ·cases h; exact (.p _)
       ·refine ifT (cF (by decide)) ?_
        refine Q0f (r := iI 0) rfl rfl (Zv k19 rfl) ?_
        refine ifF (cF (by decide)) ?_
        show Exists _
        exact ⟨(n0, (IntKind.wrap .i64 (i24 + 1))), h, Nat.lt_succ_self _, (fun i => i), ⟨(rW <| rA <| rE rfl <| rW <| rA <| rE rfl <| rA <| rE rfl <| rE rfl <| rE rfl <| rE rfl <| rE rfl <| rE rfl <| rX <| rX <| rX <| rX <| rX <| rX <| rX <| rX <| rX <| rX <| rX <| rV <| rW <| rN), (hE rfl <| hE rfl <| hN), rfl, rfl, (roE rfl <| roE rfl <| roN)⟩⟩
      ·refine cP h W2 (.cons (.nil _) p1) fun v29 h => ?_
       apply iU h <;> intro h
       ·refine Zv k20 ?_
        apply iU h <;> intro h
        ·refine Zv k22 ?_
         cases h; exact (.p _)
        ·cases h; exact (.p _)
       ·cases h; exact (.p _)
    ·refine cP h Vt (.cons q2 p1) fun v33 h => ?_
     refine ifF (cF (by decide)) ?_
     refine cP h Vq p2 fun v35 h => ?_
     refine lpC (τ := Int × Int × Int × Int × Int × Int × Int × Nat × (List Int) × (List Q6) × (List Q6)) (fun ⟨i90, _, _, _, _, _, _, _, _, _, l100⟩ => (a2 (.any :: .ptr 0 0 :: a2 (.any :: .ptr 2 0 :: .any :: .p (.slice 4 (Qq Q6.cells v33.1)) :: iI v33.2.1 :: iI v33.2.2 :: .slice 4 5 0 l100.length :: .p (.slice 1 (Qq cS v35)) :: iI i90 :: a16 (a16 (a16 (a16 (a16 (a8 (a4 (a2 ([])))))))))) : List AV)) (fun ⟨_, c91, c92, c93, c94, c95, c96, q97, l98, l99, l100⟩ => (.cells (iI l.MaxPacket :: iI l.MaxDepth :: []) :: .cells (iI l.MaxPacket :: iI l.MaxDepth :: []) :: .cells (iI c91 :: iI c92 :: .slice 1 3 0 l98.length :: iI c93 :: iI c94 :: iI c95 :: iI c96 :: .func (.func q97) [.ptr 2 0] [] :: .slice 4 4 0 l99.length :: []) :: .cells (Zk (cI .u8) l98) :: .cells (Zk Q6.cells l99) :: .cells (Zk Q6.cells l100) :: [] : List AObj)) (fun n1 ⟨i90, c91, c92, c93, c94, c95, c96, q97, l98, l99, l100⟩ => Qg N l v33 v35 n1 i90 c91 c92 c93 c94 c95 c96 q97 l98 l99 l100) (0, l.MaxPacket, l.MaxDepth, 0, 0, 0, 0, 37, [], [], []) h (fun i => i) ⟨(rW <| rA <| rE rfl <| rW <| rA <| rE rfl <| rA <| rE rfl <| rE rfl <| rE rfl <| rS <| rE rfl <| rE rfl <| rX <| rX <| rX <| rX <| rX <| rX <| rX <| rX <| rX <| rX <| rX <| rV <| rW <| rN), (hE rfl <| hE rfl <| hC rfl (rE rfl <| rE rfl <| rS <| rE rfl <| rE rfl <| rE rfl <| rE rfl <| rE rfl <| rS <| rN) <| hV lb <| hV lb <| hV lb <| hN), rfl, rfl, (roE rfl <| roE rfl <| roE rfl <| roE (Q2 _ _ _) <| roE (Q2 _ _ _) <| roE (Q2 _ _ _) <| roN)⟩ fun n1 ⟨i90, c91, c92, c93, c94, c95, c96, q97, l98, l99, l100⟩ h => ?_
     simp only [Qg] at h
     rw [cX] at h
     apply iU h <;> intro h
     ·refine xR h fun y102 h => ?_
      refine cG h Y8 fun v104 h => ?_
      refine ⟨rho [2, 3, 4], (.cells (iI l.MaxPacket :: iI l.MaxDepth :: []) :: .cells (iI l.MaxPacket :: iI l.MaxDepth :: []) :: .cells (iI v104.2.l.MaxPacket :: iI v104.2.l.MaxDepth :: .slice 1 6 0 v104.2.kept.length :: iI v104.2.from' :: iI v104.2.at' :: iI v104.2.need :: iI v104.2.e :: .func (.func v104.2.next) [.ptr 2 0] [] :: .slice 4 7 0 v104.2.out.length :: []) :: .dead :: .dead :: .cells (Zk Q6.cells l100) :: .cells (Zk (cI .u8) v104.2.kept) :: .cells (Zk Q6.cells v104.2.out) :: []), .p (.tuple [.slice 4 (Qq Q6.cells v104.1.1), .int .i64 v104.1.2]), ⟨(rE rfl <| rE rfl <| rN), (hE rfl <| hO rfl <| hO rfl <| hN), rfl, rfl, (roE rfl <| roE (Q2 _ _ _) <| roE (Q2 _ _ _) <| roN), rfl, (fK rfl rfl <| fK rfl rfl <| fR 0 rfl rfl rfl rfl <| fD <| fD <| fK rfl rfl <| fO 3 rfl rfl rfl <| fO 4 rfl rfl rfl <| fN), rfl⟩, ?_⟩
      refine Qit (c := Q6.cells) (vs := v104.1.1) rfl ?_
      apply iU h <;> intro h
      ·refine Q7 ?_
       refine X1 [2] (r := iI v104.2.e) rfl rfl (fun a ha o ho => ?_) (Zv k22 ?_) ?_
       ·simp only [List.mem_cons, List.mem_nil_iff, or_false] at ha; subst ha; cases ho; rfl
       ·exact ⟨rfl, [], (List.append_nil _).symm⟩
       apply iU h <;> intro h
       ·cases h; exact (.p _)
       ·obtain ⟨hk109, h⟩ := Vr h
        obtain ⟨hk110, h⟩ := Vr h
        refine X1 [2] (r := .p (.int .i64 (((v104.2.kept.length - v104.2.from'.toNat) : Nat) : Int))) rfl rfl (fun a ha o ho => ?_) (Zv k19 ?_) ?_
        ·simp only [List.mem_cons, List.mem_nil_iff, or_false] at ha; subst ha; cases ho; rfl
        ·refine Zv k38 ?_
         refine Q7 ?_
         refine V5 hk109 ?_
         refine V5 hk110 ?_
         exact ⟨rfl, [], (List.append_nil _).symm⟩
        apply iU h <;> intro h
        ·cases h; exact (.p _)
        ·apply iU h <;> intro h
         ·obtain ⟨hk113, h⟩ := Vr h
          refine X1 [2] (r := .p (.int .i64 (((v104.2.kept.length - v104.2.from'.toNat) : Nat) : Int))) rfl rfl (fun a ha o ho => ?_) (Zv k19 ?_) ?_
          ·simp only [List.mem_cons, List.mem_nil_iff, or_false] at ha; subst ha; cases ho; rfl
          ·refine Zv k38 ?_
           refine Q7 ?_
           refine V5 hk109 ?_
           refine V5 hk113 ?_
           exact ⟨rfl, [], (List.append_nil _).symm⟩
          apply iU h <;> intro h
          ·cases h; exact (.p _)
          ·show Exists _
           exact ⟨(n1, (IntKind.wrap .i64 (i90 + 1)), v104.2.l.MaxPacket, v104.2.l.MaxDepth, v104.2.from', v104.2.at', v104.2.need, v104.2.e, v104.2.next, v104.2.kept, v104.2.out, l100), h, Nat.lt_succ_self _, (rho [0, 1, 2, 6, 7, 5]), ⟨(rW <| rA <| rE rfl <| rW <| rA <| rE rfl <| rA <| rE rfl <| rE rfl <| rE rfl <| rE rfl <| rE rfl <| rE rfl <| rX <| rX <| rX <| rX <| rX <| rX <| rX <| rX <| rX <| rX <| rX <| rV <| rW <| rN), (hE rfl <| hE rfl <| hE rfl <| hO rfl <| hO rfl <| hO rfl <| hN), rfl, rfl, (roE rfl <| roE rfl <| roE rfl <| roE (Q2 _ _ _) <| roE (Q2 _ _ _) <| roE (Q2 _ _ _) <| roN)⟩⟩
         ·show Exists _
          exact ⟨(n1, (IntKind.wrap .i64 (i90 + 1)), v104.2.l.MaxPacket, v104.2.l.MaxDepth, v104.2.from', v104.2.at', v104.2.need, v104.2.e, v104.2.next, v104.2.kept, v104.2.out, l100), h, Nat.lt_succ_self _, (rho [0, 1, 2, 6, 7, 5]), ⟨(rW <| rA <| rE rfl <| rW <| rA <| rE rfl <| rA <| rE rfl <| rE rfl <| rE rfl <| rE rfl <| rE rfl <| rE rfl <| rX <| rX <| rX <| rX <| rX <| rX <| rX <| rX <| rX <| rX <| rX <| rV <| rW <| rN), (hE rfl <| hE rfl <| hE rfl <| hO rfl <| hO rfl <| hO rfl <| hN), rfl, rfl, (roE rfl <| roE rfl <| roE rfl <| roE (Q2 _ _ _) <| roE (Q2 _ _ _) <| roE (Q2 _ _ _) <| roN)⟩⟩
      ·obtain ⟨hk106, h⟩ := Vr h
       refine V5 (Xg (c := Q6.cells) (e := 4) (fun _ => rfl) (by first | (simp; done) | (simp [Qq]; done)) hk106) ?_
       refine Wr (c := Q6.cells) (l := l100) v104.1.1 rfl ?_
       refine Q7 ?_
       refine X1 [2] (r := iI v104.2.e) rfl rfl (fun a ha o ho => ?_) (Zv k22 ?_) ?_
       ·simp only [List.mem_cons, List.mem_nil_iff, or_false] at ha; subst ha; cases ho; rfl
       ·exact ⟨rfl, [], (List.append_nil _).symm⟩
       apply iU h <;> intro h
       ·cases h; exact (.p _)
       ·obtain ⟨hk116, h⟩ := Vr h
        obtain ⟨hk117, h⟩ := Vr h
        refine X1 [2] (r := .p (.int .i64 (((v104.2.kept.length - v104.2.from'.toNat) : Nat) : Int))) rfl rfl (fun a ha o ho => ?_) (Zv k19 ?_) ?_
        ·simp only [List.mem_cons, List.mem_nil_iff, or_false] at ha; subst ha; cases ho; rfl
        ·refine Zv k38 ?_
         refine Q7 ?_
         refine V5 hk116 ?_
         refine V5 hk117 ?_
         exact ⟨rfl, [], (List.append_nil _).symm⟩
        apply iU h <;> intro h
        ·cases h; exact (.p _)
        ·apply iU h <;> intro h
         ·obtain ⟨hk120, h⟩ := Vr h
          refine X1 [2] (r := .p (.int .i64 (((v104.2.kept.length - v104.2.from'.toNat) : Nat) : Int))) rfl rfl (fun a ha o ho => ?_) (Zv k19 ?_) ?_
          ·simp only [List.mem_cons, List.mem_nil_iff, or_false] at ha; subst ha; cases ho; rfl
          ·refine Zv k38 ?_
           refine Q7 ?_
           refine V5 hk116 ?_
           refine V5 hk120 ?_
           exact ⟨rfl, [], (List.append_nil _).symm⟩
          apply iU h <;> intro h
          ·cases h; exact (.p _)
          ·show Exists _
           exact ⟨(n1, (IntKind.wrap .i64 (i90 + 1)), v104.2.l.MaxPacket, v104.2.l.MaxDepth, v104.2.from', v104.2.at', v104.2.need, v104.2.e, v104.2.next, v104.2.kept, v104.2.out, (l100 ++ v104.1.1)), h, Nat.lt_succ_self _, (rho [0, 1, 2, 6, 7, 8]), ⟨(rW <| rA <| rE rfl <| rW <| rA <| rE rfl <| rA <| rE rfl <| rE rfl <| rE rfl <| rL (by first | (simp; done) | (simp [Qq]; done)) rfl <| rE rfl <| rE rfl <| rX <| rX <| rX <| rX <| rX <| rX <| rX <| rX <| rX <| rX <| rX <| rV <| rW <| rN), (hE rfl <| hE rfl <| hE rfl <| hO rfl <| hO rfl <| hO rfl <| hN), rfl, rfl, (roE rfl <| roE rfl <| roE rfl <| roE (Q2 _ _ _) <| roE (Q2 _ _ _) <| roE (Q2 _ _ _) <| roN)⟩⟩
         ·show Exists _
          exact ⟨(n1, (IntKind.wrap .i64 (i90 + 1)), v104.2.l.MaxPacket, v104.2.l.MaxDepth, v104.2.from', v104.2.at', v104.2.need, v104.2.e, v104.2.next, v104.2.kept, v104.2.out, (l100 ++ v104.1.1)), h, Nat.lt_succ_self _, (rho [0, 1, 2, 6, 7, 8]), ⟨(rW <| rA <| rE rfl <| rW <| rA <| rE rfl <| rA <| rE rfl <| rE rfl <| rE rfl <| rL (by first | (simp; done) | (simp [Qq]; done)) rfl <| rE rfl <| rE rfl <| rX <| rX <| rX <| rX <| rX <| rX <| rX <| rX <| rX <| rX <| rX <| rV <| rW <| rN), (hE rfl <| hE rfl <| hE rfl <| hO rfl <| hO rfl <| hO rfl <| hN), rfl, rfl, (roE rfl <| roE rfl <| roE rfl <| roE (Q2 _ _ _) <| roE (Q2 _ _ _) <| roE (Q2 _ _ _) <| roN)⟩⟩
     ·refine cK h W2 (.cons (frz_own (c := Q6.cells) (l := (l100 : List Q6)) (fun _ => rfl) rfl trivial (by first | (simp; done) | (simp [Qq]; done))) p1) fun v122 h => ?_
      apply iU h <;> intro h
      ·refine cG h Wt fun v125 h => ?_
       refine ⟨rho [2, 3, 4], (.cells (iI l.MaxPacket :: iI l.MaxDepth :: []) :: .cells (iI l.MaxPacket :: iI l.MaxDepth :: []) :: .cells (iI v125.2.l.MaxPacket :: iI v125.2.l.MaxDepth :: .slice 1 6 0 v125.2.kept.length :: iI v125.2.from' :: iI v125.2.at' :: iI v125.2.need :: iI v125.2.e :: .func (.func v125.2.next) [.ptr 2 0] [] :: .slice 4 7 0 v125.2.out.length :: []) :: .dead :: .dead :: .cells (Zk Q6.cells l100) :: .cells (Zk (cI .u8) v125.2.kept) :: .cells (Zk Q6.cells v125.2.out) :: []), iI v125.1, ⟨(rE rfl <| rN), (hE rfl <| hO rfl <| hO rfl <| hN), rfl, rfl, (roE rfl <| roE (Q2 _ _ _) <| roE (Q2 _ _ _) <| roN), rfl, (fK rfl rfl <| fK rfl rfl <| fR 0 rfl rfl rfl rfl <| fD <| fD <| fK rfl rfl <| fO 3 rfl rfl rfl <| fO 4 rfl rfl rfl <| fN), rfl⟩, ?_⟩
       apply iU h <;> intro h
       ·refine cG h Uv fun v128 h => ?_
        refine ⟨rho [2, 6, 7], (.cells (iI l.MaxPacket :: iI l.MaxDepth :: []) :: .cells (iI l.MaxPacket :: iI l.MaxDepth :: []) :: .cells (iI v128.2.l.MaxPacket :: iI v128.2.l.MaxDepth :: .slice 1 8 0 v128.2.kept.length :: iI v128.2.from' :: iI v128.2.at' :: iI v128.2.need :: iI v128.2.e :: .func (.func v128.2.next) [.ptr 2 0] [] :: .slice 4 9 0 v128.2.out.length :: []) :: .dead :: .dead :: .cells (Zk Q6.cells l100) :: .dead :: .dead :: .cells (Zk (cI .u8) v128.2.kept) :: .cells (Zk Q6.cells v128.2.out) :: []), iI v128.1, ⟨(rE rfl <| rN), (hE rfl <| hO rfl <| hO rfl <| hN), rfl, rfl, (roE rfl <| roE (Q2 _ _ _) <| roE (Q2 _ _ _) <| roN), rfl, (fK rfl rfl <| fK rfl rfl <| fR 0 rfl rfl rfl rfl <| fD <| fD <| fK rfl rfl <| fD <| fD <| fO 3 rfl rfl rfl <| fO 4 rfl rfl rfl <| fN), rfl⟩, ?_⟩
        cases h; exact (.p _)
       ·cases h; exact (.p _)
      ·cases h; exact (.p _)
end
end
end Go.Av
