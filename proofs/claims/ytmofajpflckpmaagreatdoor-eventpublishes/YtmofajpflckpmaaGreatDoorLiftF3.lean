/- The law. Part of a proof of a given statement: for every input the law returns true and the arguments read as before; no condition beyond the given row. -/
import Derived.Test.YtmofajpflckpmaaGreatDoorLiftF2
namespace Go.Av
noncomputable section
open Go.Proofs
set_option maxRecDepth 100000
set_option maxHeartbeats 4000000
attribute [local irreducible] Xk Zz Q7y Q7v Qh3 Qfx Q8u
section
def Qk (N : Nat) (topic : List UInt8) (payload : List UInt8) (qos : Int) (id : Int) (v9 : Int) (v14 : Int) (want50 : Int) : Option (Bool) :=
 (We N (⟨(IntKind.wrap .i64 (16 + v14)), 2⟩ : Xi)).bind fun v55 =>
 cond (!v55)
 (some (Qc .eql 2 want50))
 ((Zq N (⟨(IntKind.wrap .i64 (1 + v9)), 1, topic, payload, qos, false, false, id, [], 0, [], 0, (⟨0, false, false, 0, 0, [], [], false, 0, [], false, [], false, [], false, (⟨[], [], 0, false, []⟩ : Q33), false, 0, [], [], []⟩ : Wg), (⟨0, (⟨false, 0, false, false, false, 0⟩ : Q4m), 0, 0, 0, false, 0, 0, 0, [], []⟩ : Qg5), (⟨0, 0, [], []⟩ : Ut)⟩ : Wq)).bind fun v58 =>
 cond (Qc .neq v58 0)
 (some (Qc .eql v58 want50))
 (cond (Qc .gtr (payload.length : Int) (IntKind.wrap .i64 (16 + v14)))
 (some (Qc .eql 4 want50))
 (some (Qc .eql 0 want50))))
def Z6 (_N : Nat) (k4 : Int → Option (Bool)) (want29 : Int) (s52 : Bool) : Option (Bool) :=
 cond s52
 (k4 4)
 (k4 want29)
def Q8 (N : Nat) (topic : List UInt8) (payload : List UInt8) (qos : Int) (id : Int) (v9 : Int) (v14 : Int) (want29 : Int) : Option (Bool) :=
 (Zq N (⟨(IntKind.wrap .i64 (1 + v9)), 1, topic, payload, qos, false, false, id, [], 0, [], 0, (⟨0, false, false, 0, 0, [], [], false, 0, [], false, [], false, [], false, (⟨[], [], 0, false, []⟩ : Q33), false, 0, [], [], []⟩ : Wg), (⟨0, (⟨false, 0, false, false, false, 0⟩ : Q4m), 0, 0, 0, false, 0, 0, 0, [], []⟩ : Qg5), (⟨0, 0, [], []⟩ : Ut)⟩ : Wq)).bind fun v43 =>
 cond (Qc .neq v43 want29)
 (some false)
 (cond (Qc .eql want29 0)
 (Z6 N (Qk N topic payload qos id v9 v14) want29 (Qc .gtr (payload.length : Int) (IntKind.wrap .i64 (16 + v14))))
 (Z6 N (Qk N topic payload qos id v9 v14) want29 false))
def Ql (_N : Nat) (k2 : Int → Option (Bool)) (s37 : Bool) : Option (Bool) :=
 cond s37
 (k2 2)
 (k2 0)
def Qy (N : Nat) (topic : List UInt8) (payload : List UInt8) (qos : Int) (id : Int) (most : Int) (v9 : Int) (least12 : Int) : Option (Bool) :=
 (Y5 N most 3000).bind fun v14 =>
 (Yv N topic).bind fun v30 =>
 cond (!v30)
 (Q8 N topic payload qos id v9 v14 10)
 (cond (Qc .lss qos least12)
 (Ql N (Q8 N topic payload qos id v9 v14) true)
 (cond (Qc .gtr qos 2)
 (Ql N (Q8 N topic payload qos id v9 v14) true)
 (cond (Qc .lss id 0)
 (Ql N (Q8 N topic payload qos id v9 v14) true)
 (cond (Qc .gtr id 65535)
 (Ql N (Q8 N topic payload qos id v9 v14) true)
 (Ql N (Q8 N topic payload qos id v9 v14) (!((Qc .eql id 0) == (Qc .lss qos 1))))))))
def Qz (N : Nat) (proto : Int) (topic : List UInt8) (payload : List UInt8) (qos : Int) (id : Int) (most : Int) (s6 : Bool) : Option (Bool) :=
 cond s6
 (some true)
 ((Y5 N proto 4).bind fun v9 =>
 cond (Qc .eql (IntKind.wrap .i64 (1 + v9)) 3)
 (Qy N topic payload qos id most v9 (-1))
 (Qy N topic payload qos id most v9 0))
def Zf (N : Nat) (proto : Int) (topic : List UInt8) (payload : List UInt8) (qos : Int) (id : Int) (most : Int) : Option (Bool) :=
 cond (Qc .gtr (topic.length : Int) 2000)
 (Qz N proto topic payload qos id most true)
 (Qz N proto topic payload qos id most (Qc .gtr (payload.length : Int) 2000))
theorem Wj {N} {proto} {topic} {payload} {qos} {id} {most} {r} (h : Zf N proto topic payload qos id most = some r) : Xh Tryz.prog G1 3 [.int .i64 proto, .str topic, .str payload, .int .i64 qos, .int .i64 id, .int .i64 most] (.bool r) := by
 refine Q7 k3 ?_
 unfold Zf at h
 rw [cX] at h
 refine Xo Qgi .nil ?_
 refine Q9z ?_
 refine Vz (σ := Bool) (fun s6 => (iI proto :: iS topic :: iS payload :: iI qos :: iI id :: iI most :: a16 (a4 (.p (.bool s6) :: a16 (a16 (a16 (a8 (a4 ([]))))))) : List AV)) (fun _ => ([] : List AObj)) (fun s6 => Qz N proto topic payload qos id most s6 = some r) (fun _ _ => lb) ?_ ?_
 ·apply iU h <;> intro h
  ·show Exists _
   exact ⟨(true), h, (fun i => i), ⟨(rE rfl <| rE rfl <| rE rfl <| rE rfl <| rE rfl <| rE rfl <| rX <| rX <| rV <| rE rfl <| rX <| rX <| rX <| rX <| rX <| rX <| rX <| rV <| rN), (hN), rfl, rfl, (roN)⟩⟩
  ·show Exists _
   exact ⟨((Qds .gtr (payload.length : Int) 2000)), h, (fun i => i), ⟨(rE rfl <| rE rfl <| rE rfl <| rE rfl <| rE rfl <| rE rfl <| rX <| rX <| rV <| rE rfl <| rX <| rX <| rX <| rX <| rX <| rX <| rX <| rV <| rN), (hN), rfl, rfl, (roN)⟩⟩
 rintro s6 h
 unfold Qz at h
 rw [cX] at h
 apply iU h <;> intro h
 ·cases h; exact (.p _)
 ·refine cP h V2 p2 fun v9 h => ?_
  refine Vz (σ := Int) (fun least12 => (.any :: iS topic :: iS payload :: iI qos :: iI id :: iI most :: a4 (a2 (.any :: .ptr 0 0 :: iI least12 :: a16 (a16 (a16 (a16 (a8 ([]))))))) : List AV)) (fun _ => (.cells (iI (IntKind.wrap .i64 (1 + v9)) :: iI 1 :: iS topic :: iS payload :: iI qos :: .p (.bool false) :: .p (.bool false) :: iI id :: .p .nilSlice :: iI 0 :: .p .nilSlice :: iI 0 :: iI 0 :: .p (.bool false) :: .p (.bool false) :: iI 0 :: iI 0 :: iS [] :: iS [] :: .p (.bool false) :: iI 0 :: iS [] :: .p (.bool false) :: iS [] :: .p (.bool false) :: iS [] :: .p (.bool false) :: iS [] :: iS [] :: iI 0 :: .p (.bool false) :: .p .nilSlice :: .p (.bool false) :: iI 0 :: .p .nilSlice :: .p .nilSlice :: .p .nilSlice :: iI 0 :: .p (.bool false) :: iI 0 :: .p (.bool false) :: .p (.bool false) :: .p (.bool false) :: iI 0 :: iI 0 :: iI 0 :: iI 0 :: .p (.bool false) :: iI 0 :: iI 0 :: iI 0 :: iS [] :: iS [] :: iI 0 :: iI 0 :: iS [] :: .p .nilSlice :: []) :: [] : List AObj)) (fun least12 => Qy N topic payload qos id most v9 least12 = some r) (fun _ _ => lb) ?_ ?_
  ·apply iU h <;> intro h
   ·show Exists _
    exact ⟨((-1)), h, (fun i => i), ⟨(rA <| rE rfl <| rE rfl <| rE rfl <| rE rfl <| rE rfl <| rV <| rW <| rA <| rE rfl <| rE rfl <| rX <| rX <| rX <| rX <| rX <| rX <| rX <| rX <| rX <| rN), (hE rfl <| hN), rfl, rfl, (roE rfl <| roN)⟩⟩
   ·show Exists _
    exact ⟨(0), h, (fun i => i), ⟨(rA <| rE rfl <| rE rfl <| rE rfl <| rE rfl <| rE rfl <| rV <| rW <| rA <| rE rfl <| rE rfl <| rX <| rX <| rX <| rX <| rX <| rX <| rX <| rX <| rX <| rN), (hE rfl <| hN), rfl, rfl, (roE rfl <| roN)⟩⟩
  rintro least12 h
  unfold Qy at h
  rw [cX] at h
  refine cP h V2 p2 fun v14 h => ?_
  refine Vz (σ := Int) (fun want29 => (.any :: .any :: iS payload :: a8 (a2 (.ptr 0 0 :: .any :: .ptr 1 0 :: iI want29 :: a16 (a16 (a16 (a16 (a4 (a2 ([])))))))) : List AV)) (fun _ => (.cells (iI (IntKind.wrap .i64 (1 + v9)) :: iI 1 :: iS topic :: iS payload :: iI qos :: .p (.bool false) :: .p (.bool false) :: iI id :: .p .nilSlice :: iI 0 :: .p .nilSlice :: iI 0 :: iI 0 :: .p (.bool false) :: .p (.bool false) :: iI 0 :: iI 0 :: iS [] :: iS [] :: .p (.bool false) :: iI 0 :: iS [] :: .p (.bool false) :: iS [] :: .p (.bool false) :: iS [] :: .p (.bool false) :: iS [] :: iS [] :: iI 0 :: .p (.bool false) :: .p .nilSlice :: .p (.bool false) :: iI 0 :: .p .nilSlice :: .p .nilSlice :: .p .nilSlice :: iI 0 :: .p (.bool false) :: iI 0 :: .p (.bool false) :: .p (.bool false) :: .p (.bool false) :: iI 0 :: iI 0 :: iI 0 :: iI 0 :: .p (.bool false) :: iI 0 :: iI 0 :: iI 0 :: iS [] :: iS [] :: iI 0 :: iI 0 :: iS [] :: .p .nilSlice :: []) :: .cells (iI (IntKind.wrap .i64 (16 + v14)) :: iI 2 :: []) :: [] : List AObj)) (fun want29 => Q8 N topic payload qos id v9 v14 want29 = some r) (fun _ _ => lb) ?_ ?_
  ·refine cP h J9 p1 fun v30 h => ?_
   apply iU h <;> intro h
   ·show Exists _
    exact ⟨(10), h, (fun i => i), ⟨(rW <| rE rfl <| rX <| rW <| rE rfl <| rA <| rE rfl <| rE rfl <| rX <| rX <| rX <| rX <| rX <| rX <| rX <| rX <| rV <| rW <| rN), (hE rfl <| hE rfl <| hN), rfl, rfl, (roE rfl <| roE rfl <| roN)⟩⟩
   ·refine Vz (σ := Bool) (fun s37 => (.any :: .any :: iS payload :: a8 (a2 (.ptr 0 0 :: .any :: .ptr 1 0 :: iI 0 :: a16 (a8 (a4 (.any :: .p (.bool s37) :: a16 (a16 (a8 ([])))))))) : List AV)) (fun _ => (.cells (iI (IntKind.wrap .i64 (1 + v9)) :: iI 1 :: iS topic :: iS payload :: iI qos :: .p (.bool false) :: .p (.bool false) :: iI id :: .p .nilSlice :: iI 0 :: .p .nilSlice :: iI 0 :: iI 0 :: .p (.bool false) :: .p (.bool false) :: iI 0 :: iI 0 :: iS [] :: iS [] :: .p (.bool false) :: iI 0 :: iS [] :: .p (.bool false) :: iS [] :: .p (.bool false) :: iS [] :: .p (.bool false) :: iS [] :: iS [] :: iI 0 :: .p (.bool false) :: .p .nilSlice :: .p (.bool false) :: iI 0 :: .p .nilSlice :: .p .nilSlice :: .p .nilSlice :: iI 0 :: .p (.bool false) :: iI 0 :: .p (.bool false) :: .p (.bool false) :: .p (.bool false) :: iI 0 :: iI 0 :: iI 0 :: iI 0 :: .p (.bool false) :: iI 0 :: iI 0 :: iI 0 :: iS [] :: iS [] :: iI 0 :: iI 0 :: iS [] :: .p .nilSlice :: []) :: .cells (iI (IntKind.wrap .i64 (16 + v14)) :: iI 2 :: []) :: [] : List AObj)) (fun s37 => Ql N (Q8 N topic payload qos id v9 v14) s37 = some r) (fun _ _ => lb) ?_ ?_
    ·apply iU h <;> intro h
     ·show Exists _
      exact ⟨(true), h, (fun i => i), ⟨(rW <| rE rfl <| rX <| rW <| rE rfl <| rA <| rE rfl <| rE rfl <| rX <| rX <| rX <| rV <| rA <| rE rfl <| rX <| rX <| rX <| rX <| rX <| rN), (hE rfl <| hE rfl <| hN), rfl, rfl, (roE rfl <| roE rfl <| roN)⟩⟩
     ·apply iU h <;> intro h
      ·show Exists _
       exact ⟨(true), h, (fun i => i), ⟨(rW <| rE rfl <| rX <| rW <| rE rfl <| rA <| rE rfl <| rE rfl <| rX <| rX <| rX <| rV <| rA <| rE rfl <| rX <| rX <| rX <| rX <| rX <| rN), (hE rfl <| hE rfl <| hN), rfl, rfl, (roE rfl <| roE rfl <| roN)⟩⟩
      ·apply iU h <;> intro h
       ·show Exists _
        exact ⟨(true), h, (fun i => i), ⟨(rW <| rE rfl <| rX <| rW <| rE rfl <| rA <| rE rfl <| rE rfl <| rX <| rX <| rX <| rV <| rA <| rE rfl <| rX <| rX <| rX <| rX <| rX <| rN), (hE rfl <| hE rfl <| hN), rfl, rfl, (roE rfl <| roE rfl <| roN)⟩⟩
       ·apply iU h <;> intro h
        ·show Exists _
         exact ⟨(true), h, (fun i => i), ⟨(rW <| rE rfl <| rX <| rW <| rE rfl <| rA <| rE rfl <| rE rfl <| rX <| rX <| rX <| rV <| rA <| rE rfl <| rX <| rX <| rX <| rX <| rX <| rN), (hE rfl <| hE rfl <| hN), rfl, rfl, (roE rfl <| roE rfl <| roN)⟩⟩
        ·show Exists _
         exact ⟨((!((Qds .eql id 0) == (Qds .lss qos 1)))), h, (fun i => i), ⟨(rW <| rE rfl <| rX <| rW <| rE rfl <| rA <| rE rfl <| rE rfl <| rX <| rX <| rX <| rV <| rA <| rE rfl <| rX <| rX <| rX <| rX <| rX <| rN), (hE rfl <| hE rfl <| hN), rfl, rfl, (roE rfl <| roE rfl <| roN)⟩⟩
    rintro s37 h
    unfold Ql at h
    apply iU h <;> intro h
    ·show Exists _
     exact ⟨(2), h, (fun i => i), ⟨(rW <| rE rfl <| rX <| rW <| rE rfl <| rA <| rE rfl <| rE rfl <| rX <| rX <| rX <| rX <| rX <| rX <| rX <| rX <| rV <| rW <| rN), (hE rfl <| hE rfl <| hN), rfl, rfl, (roE rfl <| roE rfl <| roN)⟩⟩
    ·show Exists _
     exact ⟨(0), h, (fun i => i), ⟨(rW <| rE rfl <| rX <| rW <| rE rfl <| rA <| rE rfl <| rE rfl <| rX <| rX <| rX <| rX <| rX <| rX <| rX <| rX <| rV <| rW <| rN), (hE rfl <| hE rfl <| hN), rfl, rfl, (roE rfl <| roE rfl <| roN)⟩⟩
  rintro want29 h
  unfold Q8 at h
  rw [cX] at h
  refine cP h Ud (.cons (Frz.agg' (.cons (.p _) (.cons (.p _) (.cons (.p _) (.cons (.p _) (.cons (.p _) (.cons (.p _) (.cons (.p _) (.cons (.p _) (.cons (.nil _) (.cons (.p _) (.cons (.nil _) (.cons (.p _) (.cons (.p _) (.cons (.p _) (.cons (.p _) (.cons (.p _) (.cons (.p _) (.cons (.p _) (.cons (.p _) (.cons (.p _) (.cons (.p _) (.cons (.p _) (.cons (.p _) (.cons (.p _) (.cons (.p _) (.cons (.p _) (.cons (.p _) (.cons (.p _) (.cons (.p _) (.cons (.p _) (.cons (.p _) (.cons (.nil _) (.cons (.p _) (.cons (.p _) (.cons (.nil _) (.cons (.nil _) (.cons (.nil _) (.cons (.p _) (.cons (.p _) (.cons (.p _) (.cons (.p _) (.cons (.p _) (.cons (.p _) (.cons (.p _) (.cons (.p _) (.cons (.p _) (.cons (.p _) (.cons (.p _) (.cons (.p _) (.cons (.p _) (.cons (.p _) (.cons (.p _) (.cons (.p _) (.cons (.p _) (.cons (.p _) (.cons (.p _) (.cons (.nil _) .nil)))))))))))))))))))))))))))))))))))))))))))))))))))))))))) .nil) fun v43 h => ?_
  apply iU h <;> intro h
  ·cases h; exact (.p _)
  ·refine Vz (σ := Int) (fun want50 => (a8 (a4 (.any :: .ptr 0 0 :: .any :: .ptr 1 0 :: iI want50 :: a16 (a16 (a16 (a16 (a4 (a2 ([])))))))) : List AV)) (fun _ => (.cells (iI (IntKind.wrap .i64 (1 + v9)) :: iI 1 :: iS topic :: iS payload :: iI qos :: .p (.bool false) :: .p (.bool false) :: iI id :: .p .nilSlice :: iI 0 :: .p .nilSlice :: iI 0 :: iI 0 :: .p (.bool false) :: .p (.bool false) :: iI 0 :: iI 0 :: iS [] :: iS [] :: .p (.bool false) :: iI 0 :: iS [] :: .p (.bool false) :: iS [] :: .p (.bool false) :: iS [] :: .p (.bool false) :: iS [] :: iS [] :: iI 0 :: .p (.bool false) :: .p .nilSlice :: .p (.bool false) :: iI 0 :: .p .nilSlice :: .p .nilSlice :: .p .nilSlice :: iI 0 :: .p (.bool false) :: iI 0 :: .p (.bool false) :: .p (.bool false) :: .p (.bool false) :: iI 0 :: iI 0 :: iI 0 :: iI 0 :: .p (.bool false) :: iI 0 :: iI 0 :: iI 0 :: iS [] :: iS [] :: iI 0 :: iI 0 :: iS [] :: .p .nilSlice :: []) :: .cells (iI (IntKind.wrap .i64 (16 + v14)) :: iI 2 :: []) :: [] : List AObj)) (fun want50 => Qk N topic payload qos id v9 v14 want50 = some r) (fun _ _ => lb) ?_ ?_
   ·refine Vz (σ := Bool) (fun s52 => (a8 (a4 (.any :: .ptr 0 0 :: .any :: .ptr 1 0 :: iI want29 :: a16 (a16 (a16 (a16 (.p (.bool s52) :: a4 (.any :: []))))))) : List AV)) (fun _ => (.cells (iI (IntKind.wrap .i64 (1 + v9)) :: iI 1 :: iS topic :: iS payload :: iI qos :: .p (.bool false) :: .p (.bool false) :: iI id :: .p .nilSlice :: iI 0 :: .p .nilSlice :: iI 0 :: iI 0 :: .p (.bool false) :: .p (.bool false) :: iI 0 :: iI 0 :: iS [] :: iS [] :: .p (.bool false) :: iI 0 :: iS [] :: .p (.bool false) :: iS [] :: .p (.bool false) :: iS [] :: .p (.bool false) :: iS [] :: iS [] :: iI 0 :: .p (.bool false) :: .p .nilSlice :: .p (.bool false) :: iI 0 :: .p .nilSlice :: .p .nilSlice :: .p .nilSlice :: iI 0 :: .p (.bool false) :: iI 0 :: .p (.bool false) :: .p (.bool false) :: .p (.bool false) :: iI 0 :: iI 0 :: iI 0 :: iI 0 :: .p (.bool false) :: iI 0 :: iI 0 :: iI 0 :: iS [] :: iS [] :: iI 0 :: iI 0 :: iS [] :: .p .nilSlice :: []) :: .cells (iI (IntKind.wrap .i64 (16 + v14)) :: iI 2 :: []) :: [] : List AObj)) (fun s52 => Z6 N (Qk N topic payload qos id v9 v14) want29 s52 = some r) (fun _ _ => lb) ?_ ?_
    ·apply iU h <;> intro h
     ·show Exists _
      exact ⟨((Qds .gtr (payload.length : Int) (IntKind.wrap .i64 (16 + v14)))), h, (fun i => i), ⟨(rX <| rV <| rA <| rE rfl <| rA <| rE rfl <| rE rfl <| rX <| rX <| rX <| rX <| rX <| rX <| rX <| rX <| rE rfl <| rV <| rA <| rN), (hE rfl <| hE rfl <| hN), rfl, rfl, (roE rfl <| roE rfl <| roN)⟩⟩
     ·show Exists _
      exact ⟨(false), h, (fun i => i), ⟨(rX <| rV <| rA <| rE rfl <| rA <| rE rfl <| rE rfl <| rX <| rX <| rX <| rX <| rX <| rX <| rX <| rX <| rE rfl <| rV <| rA <| rN), (hE rfl <| hE rfl <| hN), rfl, rfl, (roE rfl <| roE rfl <| roN)⟩⟩
    rintro s52 h
    unfold Z6 at h
    apply iU h <;> intro h
    ·show Exists _
     exact ⟨(4), h, (fun i => i), ⟨(rX <| rV <| rA <| rE rfl <| rA <| rE rfl <| rE rfl <| rX <| rX <| rX <| rX <| rX <| rX <| rX <| rX <| rV <| rW <| rN), (hE rfl <| hE rfl <| hN), rfl, rfl, (roE rfl <| roE rfl <| roN)⟩⟩
    ·show Exists _
     exact ⟨(want29), h, (fun i => i), ⟨(rX <| rV <| rA <| rE rfl <| rA <| rE rfl <| rE rfl <| rX <| rX <| rX <| rX <| rX <| rX <| rX <| rX <| rV <| rW <| rN), (hE rfl <| hE rfl <| hN), rfl, rfl, (roE rfl <| roE rfl <| roN)⟩⟩
   rintro want50 h
   unfold Qk at h
   rw [cX] at h
   refine Q3 k8 ?_
   refine cP h Q2i (.cons q2 .nil) fun v55 h => ?_
   apply iU h <;> intro h
   ·cases h; exact (.p _)
   ·refine ifT (cF (by decide)) ?_
    refine cP h Ud (.cons (Frz.agg' (.cons (.p _) (.cons (.p _) (.cons (.p _) (.cons (.p _) (.cons (.p _) (.cons (.p _) (.cons (.p _) (.cons (.p _) (.cons (.nil _) (.cons (.p _) (.cons (.nil _) (.cons (.p _) (.cons (.p _) (.cons (.p _) (.cons (.p _) (.cons (.p _) (.cons (.p _) (.cons (.p _) (.cons (.p _) (.cons (.p _) (.cons (.p _) (.cons (.p _) (.cons (.p _) (.cons (.p _) (.cons (.p _) (.cons (.p _) (.cons (.p _) (.cons (.p _) (.cons (.p _) (.cons (.p _) (.cons (.p _) (.cons (.nil _) (.cons (.p _) (.cons (.p _) (.cons (.nil _) (.cons (.nil _) (.cons (.nil _) (.cons (.p _) (.cons (.p _) (.cons (.p _) (.cons (.p _) (.cons (.p _) (.cons (.p _) (.cons (.p _) (.cons (.p _) (.cons (.p _) (.cons (.p _) (.cons (.p _) (.cons (.p _) (.cons (.p _) (.cons (.p _) (.cons (.p _) (.cons (.p _) (.cons (.p _) (.cons (.p _) (.cons (.p _) (.cons (.nil _) .nil)))))))))))))))))))))))))))))))))))))))))))))))))))))))))) .nil) fun v58 h => ?_
    apply iU h <;> intro h
    ·cases h; exact (.p _)
    ·apply iU h <;> intro h
     ·cases h; exact (.p _)
     ·cases h; exact (.p _)
end
end
end Go.Av
