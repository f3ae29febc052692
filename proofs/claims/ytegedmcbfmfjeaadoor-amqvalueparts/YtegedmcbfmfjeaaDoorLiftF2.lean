/- The law. Part of a proof of a given statement: for every input the law returns true and the arguments read as before; no condition beyond the given row. -/
import Derived.Test.YtegedmcbfmfjeaaDoorLiftF1
namespace Go.Av
noncomputable section
open Go.Proofs
set_option maxRecDepth 100000
set_option maxHeartbeats 4000000
attribute [local irreducible] Wy Xb Q5x Q8c Q5 Q66 Qe2
section
def Z0 (_N : Nat) (s139 : Bool) : Option (Int) :=
 cond s139
 (some 4)
 (some 0)
def Zf (N : Nat) (k4 : Bool → Option (Int)) (s_0 : List UInt8) (i : Int) (b1 : UInt8) (s170 : Bool) : Option (Int) :=
 cond s170
 (k4 s170)
 (cond (Q5 .eql (b1.toNat : Int) 244)
 ((Q4 N s_0 (IntKind.wrap .i64 (i + 1)) 128 143).bind fun v183 =>
 cond v183
 ((Q4 N s_0 (IntKind.wrap .i64 (i + 2)) 128 191).bind fun v186 =>
 cond v186
 ((Q4 N s_0 (IntKind.wrap .i64 (i + 3)) 128 191).bind fun v189 =>
 k4 v189)
 (k4 false))
 (k4 false))
 (k4 false))
def Zr (N : Nat) (k4 : Bool → Option (Int)) (s_0 : List UInt8) (i : Int) (b1 : UInt8) (s149 : Bool) : Option (Int) :=
 cond s149
 (k4 s149)
 (cond (Q5 .geq (b1.toNat : Int) 241)
 (cond (Q5 .leq (b1.toNat : Int) 243)
 ((Q4 N s_0 (IntKind.wrap .i64 (i + 1)) 128 191).bind fun v173 =>
 cond v173
 ((Q4 N s_0 (IntKind.wrap .i64 (i + 2)) 128 191).bind fun v176 =>
 cond v176
 ((Q4 N s_0 (IntKind.wrap .i64 (i + 3)) 128 191).bind fun v179 =>
 Zf N k4 s_0 i b1 v179)
 (Zf N k4 s_0 i b1 false))
 (Zf N k4 s_0 i b1 false))
 (Zf N k4 s_0 i b1 false))
 (Zf N k4 s_0 i b1 false))
def Zd (N : Nat) (s_0 : List UInt8) (i : Int) (b1 : UInt8) (s50 : Bool) : Option (Int) :=
 cond s50
 (some 3)
 (cond (Q5 .eql (b1.toNat : Int) 240)
 ((Q4 N s_0 (IntKind.wrap .i64 (i + 1)) 144 191).bind fun v151 =>
 cond v151
 ((Q4 N s_0 (IntKind.wrap .i64 (i + 2)) 128 191).bind fun v154 =>
 cond v154
 ((Q4 N s_0 (IntKind.wrap .i64 (i + 3)) 128 191).bind fun v157 =>
 Zr N (Z0 N) s_0 i b1 v157)
 (Zr N (Z0 N) s_0 i b1 false))
 (Zr N (Z0 N) s_0 i b1 false))
 (Zr N (Z0 N) s_0 i b1 false))
def Ya (N : Nat) (k1 : Bool → Option (Int)) (s_0 : List UInt8) (i : Int) (b1 : UInt8) (s71 : Bool) : Option (Int) :=
 cond s71
 (k1 s71)
 (cond (Q5 .geq (b1.toNat : Int) 225)
 (cond (Q5 .leq (b1.toNat : Int) 239)
 (cond (Q5 .neq (b1.toNat : Int) 237)
 ((Q4 N s_0 (IntKind.wrap .i64 (i + 1)) 128 191).bind fun v82 =>
 cond v82
 ((Q4 N s_0 (IntKind.wrap .i64 (i + 2)) 128 191).bind fun v85 =>
 k1 v85)
 (k1 false))
 (k1 false))
 (k1 false))
 (k1 false))
def Yf (N : Nat) (k1 : Bool → Option (Int)) (s_0 : List UInt8) (i : Int) (b1 : UInt8) (s57 : Bool) : Option (Int) :=
 cond s57
 (k1 s57)
 (cond (Q5 .eql (b1.toNat : Int) 237)
 ((Q4 N s_0 (IntKind.wrap .i64 (i + 1)) 128 159).bind fun v73 =>
 cond v73
 ((Q4 N s_0 (IntKind.wrap .i64 (i + 2)) 128 191).bind fun v76 =>
 Ya N k1 s_0 i b1 v76)
 (Ya N k1 s_0 i b1 false))
 (Ya N k1 s_0 i b1 false))
def Yg (N : Nat) (s_0 : List UInt8) (i : Int) (b1 : UInt8) (s8 : Bool) : Option (Int) :=
 cond s8
 (some 2)
 (cond (Q5 .eql (b1.toNat : Int) 224)
 ((Q4 N s_0 (IntKind.wrap .i64 (i + 1)) 160 191).bind fun v59 =>
 cond v59
 ((Q4 N s_0 (IntKind.wrap .i64 (i + 2)) 128 191).bind fun v62 =>
 Yf N (Zd N s_0 i b1) s_0 i b1 v62)
 (Yf N (Zd N s_0 i b1) s_0 i b1 false))
 (Yf N (Zd N s_0 i b1) s_0 i b1 false))
def W4 (N : Nat) (s_0 : List UInt8) (i : Int) : Option (Int) :=
 (idx s_0 i).bind fun b1 =>
 cond (Q5 .lss (b1.toNat : Int) 128)
 (some 1)
 (cond (Q5 .geq (b1.toNat : Int) 194)
 (cond (Q5 .leq (b1.toNat : Int) 223)
 ((Q4 N s_0 (IntKind.wrap .i64 (i + 1)) 128 191).bind fun v11 =>
 Yg N s_0 i b1 v11)
 (Yg N s_0 i b1 false))
 (Yg N s_0 i b1 false))
theorem Q0x {N} {s_0} {i} {r} (h : W4 N s_0 i = some r) : Y9 Tryd.prog G1 101 [.str s_0, .int .i64 i] (.int .i64 r) := by
 refine Q6 Qr0 ?_
 unfold W4 at h
 refine xB h fun b1 h => ?_
 apply iU h <;> intro h
 ·cases h; exact (.p _)
 ·refine Vn (σ := Bool) (fun s8 => (iS s_0 :: iI i :: a2 (.any :: .p (.int .u8 (b1.toNat : Int)) :: a4 (a2 (.p (.bool s8) :: a16 (a16 (a16 (a16 (a16 (a16 (a16 (a16 ([]))))))))))) : List AV)) (fun _ => ([] : List AObj)) (fun s8 => Yg N s_0 i b1 s8 = some r) (fun _ _ => lb) ?_ ?_
  ·apply iU h <;> intro h
   ·apply iU h <;> intro h
    ·refine cP h Q9 p4 fun v11 h => ?_
     show Exists _
     exact ⟨(v11), h, (fun i => i), ⟨(rE rfl <| rE rfl <| rW <| rA <| rE rfl <| rV <| rW <| rE rfl <| rX <| rX <| rX <| rX <| rX <| rX <| rX <| rX <| rX <| rX <| rX <| rX <| rX <| rX <| rX <| rX <| rN), (hN), rfl, rfl, (roN)⟩⟩
    ·show Exists _
     exact ⟨(false), h, (fun i => i), ⟨(rE rfl <| rE rfl <| rW <| rA <| rE rfl <| rV <| rW <| rE rfl <| rX <| rX <| rX <| rX <| rX <| rX <| rX <| rX <| rX <| rX <| rX <| rX <| rX <| rX <| rX <| rX <| rN), (hN), rfl, rfl, (roN)⟩⟩
   ·show Exists _
    exact ⟨(false), h, (fun i => i), ⟨(rE rfl <| rE rfl <| rW <| rA <| rE rfl <| rV <| rW <| rE rfl <| rX <| rX <| rX <| rX <| rX <| rX <| rX <| rX <| rX <| rX <| rX <| rX <| rX <| rX <| rX <| rX <| rN), (hN), rfl, rfl, (roN)⟩⟩
  rintro s8 h
  dsimp only [Yg] at h
  apply iU h <;> intro h
  ·cases h; exact (.p _)
  ·refine Vn (σ := Bool) (fun s50 => (iS s_0 :: iI i :: a2 (.any :: .p (.int .u8 (b1.toNat : Int)) :: a16 (a2 (.any :: .p (.bool s50) :: a16 (a16 (a16 (a16 (a16 (a16 (a16 (a2 (.any :: []))))))))))) : List AV)) (fun _ => ([] : List AObj)) (fun s50 => Zd N s_0 i b1 s50 = some r) (fun _ _ => lb) ?_ ?_
   ·refine Vn (σ := Bool) (fun s57 => (iS s_0 :: iI i :: a2 (.any :: .p (.int .u8 (b1.toNat : Int)) :: a16 (a2 (.any :: .p (.bool s57) :: a16 (a16 (a16 (a16 (a16 (a16 (a16 (a2 (.any :: []))))))))))) : List AV)) (fun _ => ([] : List AObj)) (fun s57 => Yf N (Zd N s_0 i b1) s_0 i b1 s57 = some r) (fun _ _ => lb) ?_ ?_
    ·apply iU h <;> intro h
     ·refine cP h Q9 p4 fun v59 h => ?_
      apply iU h <;> intro h
      ·refine cP h Q9 p4 fun v62 h => ?_
       show Exists _
       exact ⟨(v62), h, (fun i => i), ⟨(rE rfl <| rE rfl <| rW <| rA <| rE rfl <| rX <| rX <| rW <| rA <| rE rfl <| rX <| rX <| rX <| rX <| rX <| rX <| rX <| rX <| rX <| rX <| rX <| rX <| rX <| rX <| rW <| rA <| rN), (hN), rfl, rfl, (roN)⟩⟩
      ·show Exists _
       exact ⟨(false), h, (fun i => i), ⟨(rE rfl <| rE rfl <| rW <| rA <| rE rfl <| rX <| rX <| rW <| rA <| rE rfl <| rX <| rX <| rX <| rX <| rX <| rX <| rX <| rX <| rX <| rX <| rX <| rX <| rX <| rX <| rW <| rA <| rN), (hN), rfl, rfl, (roN)⟩⟩
     ·show Exists _
      exact ⟨(false), h, (fun i => i), ⟨(rE rfl <| rE rfl <| rW <| rA <| rE rfl <| rX <| rX <| rW <| rA <| rE rfl <| rX <| rX <| rX <| rX <| rX <| rX <| rX <| rX <| rX <| rX <| rX <| rX <| rX <| rX <| rW <| rA <| rN), (hN), rfl, rfl, (roN)⟩⟩
    rintro s57 h
    dsimp only [Yf] at h
    apply iU h <;> intro h
    ·show Exists _
     exact ⟨(s57), h, (fun i => i), ⟨(rE rfl <| rE rfl <| rW <| rA <| rE rfl <| rX <| rX <| rW <| rA <| rE rfl <| rX <| rX <| rX <| rX <| rX <| rX <| rX <| rX <| rX <| rX <| rX <| rX <| rX <| rX <| rW <| rA <| rN), (hN), rfl, rfl, (roN)⟩⟩
    ·refine Vn (σ := Bool) (fun s71 => (iS s_0 :: iI i :: a2 (.any :: .p (.int .u8 (b1.toNat : Int)) :: a16 (a2 (.any :: .p (.bool s71) :: a16 (a16 (a16 (a16 (a16 (a16 (a16 (a2 (.any :: []))))))))))) : List AV)) (fun _ => ([] : List AObj)) (fun s71 => Ya N (Zd N s_0 i b1) s_0 i b1 s71 = some r) (fun _ _ => lb) ?_ ?_
     ·apply iU h <;> intro h
      ·refine cP h Q9 p4 fun v73 h => ?_
       apply iU h <;> intro h
       ·refine cP h Q9 p4 fun v76 h => ?_
        show Exists _
        exact ⟨(v76), h, (fun i => i), ⟨(rE rfl <| rE rfl <| rW <| rA <| rE rfl <| rX <| rX <| rW <| rA <| rE rfl <| rX <| rX <| rX <| rX <| rX <| rX <| rX <| rX <| rX <| rX <| rX <| rX <| rX <| rX <| rW <| rA <| rN), (hN), rfl, rfl, (roN)⟩⟩
       ·show Exists _
        exact ⟨(false), h, (fun i => i), ⟨(rE rfl <| rE rfl <| rW <| rA <| rE rfl <| rX <| rX <| rW <| rA <| rE rfl <| rX <| rX <| rX <| rX <| rX <| rX <| rX <| rX <| rX <| rX <| rX <| rX <| rX <| rX <| rW <| rA <| rN), (hN), rfl, rfl, (roN)⟩⟩
      ·show Exists _
       exact ⟨(false), h, (fun i => i), ⟨(rE rfl <| rE rfl <| rW <| rA <| rE rfl <| rX <| rX <| rW <| rA <| rE rfl <| rX <| rX <| rX <| rX <| rX <| rX <| rX <| rX <| rX <| rX <| rX <| rX <| rX <| rX <| rW <| rA <| rN), (hN), rfl, rfl, (roN)⟩⟩
     rintro s71 h
     dsimp only [Ya] at h
     apply iU h <;> intro h
     ·show Exists _
      exact ⟨(s71), h, (fun i => i), ⟨(rE rfl <| rE rfl <| rW <| rA <| rE rfl <| rX <| rX <| rW <| rA <| rE rfl <| rX <| rX <| rX <| rX <| rX <| rX <| rX <| rX <| rX <| rX <| rX <| rX <| rX <| rX <| rW <| rA <| rN), (hN), rfl, rfl, (roN)⟩⟩
     ·apply iU h <;> intro h
      ·apply iU h <;> intro h
       ·apply iU h <;> intro h
        ·refine cP h Q9 p4 fun v82 h => ?_
         apply iU h <;> intro h
         ·refine cP h Q9 p4 fun v85 h => ?_
          show Exists _
          exact ⟨(v85), h, (fun i => i), ⟨(rE rfl <| rE rfl <| rW <| rA <| rE rfl <| rX <| rX <| rW <| rA <| rE rfl <| rX <| rX <| rX <| rX <| rX <| rX <| rX <| rX <| rX <| rX <| rX <| rX <| rX <| rX <| rW <| rA <| rN), (hN), rfl, rfl, (roN)⟩⟩
         ·show Exists _
          exact ⟨(false), h, (fun i => i), ⟨(rE rfl <| rE rfl <| rW <| rA <| rE rfl <| rX <| rX <| rW <| rA <| rE rfl <| rX <| rX <| rX <| rX <| rX <| rX <| rX <| rX <| rX <| rX <| rX <| rX <| rX <| rX <| rW <| rA <| rN), (hN), rfl, rfl, (roN)⟩⟩
        ·show Exists _
         exact ⟨(false), h, (fun i => i), ⟨(rE rfl <| rE rfl <| rW <| rA <| rE rfl <| rX <| rX <| rW <| rA <| rE rfl <| rX <| rX <| rX <| rX <| rX <| rX <| rX <| rX <| rX <| rX <| rX <| rX <| rX <| rX <| rW <| rA <| rN), (hN), rfl, rfl, (roN)⟩⟩
       ·show Exists _
        exact ⟨(false), h, (fun i => i), ⟨(rE rfl <| rE rfl <| rW <| rA <| rE rfl <| rX <| rX <| rW <| rA <| rE rfl <| rX <| rX <| rX <| rX <| rX <| rX <| rX <| rX <| rX <| rX <| rX <| rX <| rX <| rX <| rW <| rA <| rN), (hN), rfl, rfl, (roN)⟩⟩
      ·show Exists _
       exact ⟨(false), h, (fun i => i), ⟨(rE rfl <| rE rfl <| rW <| rA <| rE rfl <| rX <| rX <| rW <| rA <| rE rfl <| rX <| rX <| rX <| rX <| rX <| rX <| rX <| rX <| rX <| rX <| rX <| rX <| rX <| rX <| rW <| rA <| rN), (hN), rfl, rfl, (roN)⟩⟩
   rintro s50 h
   dsimp only [Zd] at h
   apply iU h <;> intro h
   ·cases h; exact (.p _)
   ·refine Vn (σ := Bool) (fun s139 => (a16 (a16 (a16 (a16 (a8 (a4 (.p (.bool s139) :: a16 (a16 (a16 (a16 ([])))))))))) : List AV)) (fun _ => ([] : List AObj)) (fun s139 => Z0 N s139 = some r) (fun _ _ => lb) ?_ ?_
    ·refine Vn (σ := Bool) (fun s149 => (iS s_0 :: iI i :: a2 (.any :: .p (.int .u8 (b1.toNat : Int)) :: a16 (a16 (a16 (a16 (a4 (a2 (.p (.bool s149) :: a16 (a16 (a16 (a16 ([]))))))))))) : List AV)) (fun _ => ([] : List AObj)) (fun s149 => Zr N (Z0 N) s_0 i b1 s149 = some r) (fun _ _ => lb) ?_ ?_
     ·apply iU h <;> intro h
      ·refine cP h Q9 p4 fun v151 h => ?_
       apply iU h <;> intro h
       ·refine cP h Q9 p4 fun v154 h => ?_
        apply iU h <;> intro h
        ·refine cP h Q9 p4 fun v157 h => ?_
         show Exists _
         exact ⟨(v157), h, (fun i => i), ⟨(rE rfl <| rE rfl <| rW <| rA <| rE rfl <| rX <| rX <| rX <| rX <| rX <| rX <| rX <| rX <| rV <| rW <| rE rfl <| rX <| rX <| rX <| rX <| rX <| rX <| rX <| rX <| rN), (hN), rfl, rfl, (roN)⟩⟩
        ·show Exists _
         exact ⟨(false), h, (fun i => i), ⟨(rE rfl <| rE rfl <| rW <| rA <| rE rfl <| rX <| rX <| rX <| rX <| rX <| rX <| rX <| rX <| rV <| rW <| rE rfl <| rX <| rX <| rX <| rX <| rX <| rX <| rX <| rX <| rN), (hN), rfl, rfl, (roN)⟩⟩
       ·show Exists _
        exact ⟨(false), h, (fun i => i), ⟨(rE rfl <| rE rfl <| rW <| rA <| rE rfl <| rX <| rX <| rX <| rX <| rX <| rX <| rX <| rX <| rV <| rW <| rE rfl <| rX <| rX <| rX <| rX <| rX <| rX <| rX <| rX <| rN), (hN), rfl, rfl, (roN)⟩⟩
      ·show Exists _
       exact ⟨(false), h, (fun i => i), ⟨(rE rfl <| rE rfl <| rW <| rA <| rE rfl <| rX <| rX <| rX <| rX <| rX <| rX <| rX <| rX <| rV <| rW <| rE rfl <| rX <| rX <| rX <| rX <| rX <| rX <| rX <| rX <| rN), (hN), rfl, rfl, (roN)⟩⟩
     rintro s149 h
     dsimp only [Zr] at h
     apply iU h <;> intro h
     ·show Exists _
      exact ⟨(s149), h, (fun i => i), ⟨(rX <| rX <| rX <| rX <| rX <| rX <| rX <| rX <| rX <| rV <| rE rfl <| rX <| rX <| rX <| rX <| rX <| rX <| rX <| rX <| rN), (hN), rfl, rfl, (roN)⟩⟩
     ·refine Vn (σ := Bool) (fun s170 => (iS s_0 :: iI i :: a2 (.any :: .p (.int .u8 (b1.toNat : Int)) :: a16 (a16 (a16 (a16 (a4 (a2 (.p (.bool s170) :: a16 (a16 (a16 (a16 ([]))))))))))) : List AV)) (fun _ => ([] : List AObj)) (fun s170 => Zf N (Z0 N) s_0 i b1 s170 = some r) (fun _ _ => lb) ?_ ?_
      ·apply iU h <;> intro h
       ·apply iU h <;> intro h
        ·refine cP h Q9 p4 fun v173 h => ?_
         apply iU h <;> intro h
         ·refine cP h Q9 p4 fun v176 h => ?_
          apply iU h <;> intro h
          ·refine cP h Q9 p4 fun v179 h => ?_
           show Exists _
           exact ⟨(v179), h, (fun i => i), ⟨(rE rfl <| rE rfl <| rW <| rA <| rE rfl <| rX <| rX <| rX <| rX <| rX <| rX <| rX <| rX <| rV <| rW <| rE rfl <| rX <| rX <| rX <| rX <| rX <| rX <| rX <| rX <| rN), (hN), rfl, rfl, (roN)⟩⟩
          ·show Exists _
           exact ⟨(false), h, (fun i => i), ⟨(rE rfl <| rE rfl <| rW <| rA <| rE rfl <| rX <| rX <| rX <| rX <| rX <| rX <| rX <| rX <| rV <| rW <| rE rfl <| rX <| rX <| rX <| rX <| rX <| rX <| rX <| rX <| rN), (hN), rfl, rfl, (roN)⟩⟩
         ·show Exists _
          exact ⟨(false), h, (fun i => i), ⟨(rE rfl <| rE rfl <| rW <| rA <| rE rfl <| rX <| rX <| rX <| rX <| rX <| rX <| rX <| rX <| rV <| rW <| rE rfl <| rX <| rX <| rX <| rX <| rX <| rX <| rX <| rX <| rN), (hN), rfl, rfl, (roN)⟩⟩
        ·show Exists _
         exact ⟨(false), h, (fun i => i), ⟨(rE rfl <| rE rfl <| rW <| rA <| rE rfl <| rX <| rX <| rX <| rX <| rX <| rX <| rX <| rX <| rV <| rW <| rE rfl <| rX <| rX <| rX <| rX <| rX <| rX <| rX <| rX <| rN), (hN), rfl, rfl, (roN)⟩⟩
       ·show Exists _
        exact ⟨(false), h, (fun i => i), ⟨(rE rfl <| rE rfl <| rW <| rA <| rE rfl <| rX <| rX <| rX <| rX <| rX <| rX <| rX <| rX <| rV <| rW <| rE rfl <| rX <| rX <| rX <| rX <| rX <| rX <| rX <| rX <| rN), (hN), rfl, rfl, (roN)⟩⟩
      rintro s170 h
      dsimp only [Zf] at h
      apply iU h <;> intro h
      ·show Exists _
       exact ⟨(s170), h, (fun i => i), ⟨(rX <| rX <| rX <| rX <| rX <| rX <| rX <| rX <| rX <| rV <| rE rfl <| rX <| rX <| rX <| rX <| rX <| rX <| rX <| rX <| rN), (hN), rfl, rfl, (roN)⟩⟩
      ·apply iU h <;> intro h
       ·refine cP h Q9 p4 fun v183 h => ?_
        apply iU h <;> intro h
        ·refine cP h Q9 p4 fun v186 h => ?_
         apply iU h <;> intro h
         ·refine cP h Q9 p4 fun v189 h => ?_
          show Exists _
          exact ⟨(v189), h, (fun i => i), ⟨(rX <| rX <| rX <| rX <| rX <| rX <| rX <| rX <| rX <| rV <| rE rfl <| rX <| rX <| rX <| rX <| rX <| rX <| rX <| rX <| rN), (hN), rfl, rfl, (roN)⟩⟩
         ·show Exists _
          exact ⟨(false), h, (fun i => i), ⟨(rX <| rX <| rX <| rX <| rX <| rX <| rX <| rX <| rX <| rV <| rE rfl <| rX <| rX <| rX <| rX <| rX <| rX <| rX <| rX <| rN), (hN), rfl, rfl, (roN)⟩⟩
        ·show Exists _
         exact ⟨(false), h, (fun i => i), ⟨(rX <| rX <| rX <| rX <| rX <| rX <| rX <| rX <| rX <| rV <| rE rfl <| rX <| rX <| rX <| rX <| rX <| rX <| rX <| rX <| rN), (hN), rfl, rfl, (roN)⟩⟩
       ·show Exists _
        exact ⟨(false), h, (fun i => i), ⟨(rX <| rX <| rX <| rX <| rX <| rX <| rX <| rX <| rX <| rV <| rE rfl <| rX <| rX <| rX <| rX <| rX <| rX <| rX <| rX <| rN), (hN), rfl, rfl, (roN)⟩⟩
    rintro s139 h
    dsimp only [Z0] at h
    apply iU h <;> intro h
    ·cases h; exact (.p _)
    ·cases h; exact (.p _)
def Yc (N : Nat) (s_0 : List UInt8) : Nat → Int → Option (Bool)
 | 0, _ => none
 | n + 1, i10 =>
  cond (Q5 .lss i10 (s_0.length : Int))
  ((W4 N s_0 i10).bind fun v12 =>
  cond (Q5 .eql v12 0)
  (some false)
  (Yc N s_0 n (IntKind.wrap .i64 (i10 + v12))))
  (some true)
def Za (N : Nat) (s_0 : List UInt8) : Option (Bool) :=
 Yc N s_0 N 0
theorem Yi {N} {s_0} {r} (h : Za N s_0 = some r) : Y9 Tryd.prog G1 80 [.str s_0] (.bool r) := by
 refine Q6 k80 ?_
 unfold Za at h
 refine lpC (τ := Int) (fun i10 => (iS s_0 :: .any :: .any :: iI i10 :: a8 (a4 (.any :: [])) : List AV)) (fun _ => ([] : List AObj)) (fun n0 i10 => Yc N s_0 n0 i10) (0) h (fun i => i) ⟨(rE rfl <| rW <| rE rfl <| rX <| rV <| rA <| rN), (hN), rfl, rfl, (roN)⟩ fun n0 i10 h => ?_
 simp only [Yc] at h
 apply iU h <;> intro h
 ·refine cP h Q0x p2 fun v12 h => ?_
  apply iU h <;> intro h
  ·cases h; exact (.p _)
  ·show Exists _
   exact ⟨(n0, (IntKind.wrap .i64 (i10 + v12))), h, Nat.lt_succ_self _, (fun i => i), ⟨(rE rfl <| rW <| rE rfl <| rX <| rV <| rA <| rN), (hN), rfl, rfl, (roN)⟩⟩
 ·cases h; exact (.p _)
def Zz (N : Nat) (s_0 : List UInt8) : Nat → Int → Option (Bool)
 | 0, _ => none
 | n + 1, i10 =>
  cond (Q5 .lss i10 (s_0.length : Int))
  ((idx s_0 i10).bind fun b12 =>
  cond (Q5 .geq (b12.toNat : Int) 128)
  (some false)
  (Zz N s_0 n (IntKind.wrap .i64 (i10 + 1))))
  (some true)
def Qh (N : Nat) (s_0 : List UInt8) : Option (Bool) :=
 Zz N s_0 N 0
theorem Ql {N} {s_0} {r} (h : Qh N s_0 = some r) : Y9 Tryd.prog G1 81 [.str s_0] (.bool r) := by
 refine Q6 k81 ?_
 unfold Qh at h
 refine lpC (τ := Int) (fun i10 => (iS s_0 :: .any :: .any :: iI i10 :: a8 (a2 ([])) : List AV)) (fun _ => ([] : List AObj)) (fun n0 i10 => Zz N s_0 n0 i10) (0) h (fun i => i) ⟨(rE rfl <| rW <| rE rfl <| rX <| rW <| rN), (hN), rfl, rfl, (roN)⟩ fun n0 i10 h => ?_
 simp only [Zz] at h
 apply iU h <;> intro h
 ·refine xB h fun b12 h => ?_
  apply iU h <;> intro h
  ·cases h; exact (.p _)
  ·show Exists _
   exact ⟨(n0, (IntKind.wrap .i64 (i10 + 1))), h, Nat.lt_succ_self _, (fun i => i), ⟨(rE rfl <| rW <| rE rfl <| rX <| rW <| rN), (hN), rfl, rfl, (roN)⟩⟩
 ·cases h; exact (.p _)
def Qo (_N : Nat) (kind : Int) : Option (Int) :=
 cond (Q5 .eql kind 2)
 (some 1)
 (cond (Q5 .eql kind 3)
 (some 8)
 (cond (Q5 .eql kind 4)
 (some 16)
 (cond (Q5 .eql kind 5)
 (some 32)
 (cond (Q5 .eql kind 11)
 (some 32)
 (cond (Q5 .eql kind 13)
 (some 32)
 (cond (Q5 .eql kind 16)
 (some 32)
 (cond (Q5 .eql kind 6)
 (some 64)
 (cond (Q5 .eql kind 12)
 (some 64)
 (cond (Q5 .eql kind 14)
 (some 64)
 (cond (Q5 .eql kind 17)
 (some 64)
 (cond (Q5 .eql kind 10)
 (some 64)
 (cond (Q5 .eql kind 7)
 (some (-8))
 (cond (Q5 .eql kind 8)
 (some (-16))
 (cond (Q5 .eql kind 9)
 (some (-32))
 (some 0)))))))))))))))
theorem Q0t {N} {kind} {r} (h : Qo N kind = some r) : Y9 Tryd.prog G1 98 [.int .i64 kind] (.int .i64 r) := by
 refine Q6 k98 ?_
 unfold Qo at h
 apply iU h <;> intro h
 ·cases h; exact (.p _)
 ·apply iU h <;> intro h
  ·cases h; exact (.p _)
  ·apply iU h <;> intro h
   ·cases h; exact (.p _)
   ·refine ifO h (fun hc4 h => ?_) (fun hc4 h => ?_)
    ·refine ifT hc4 ?_
     cases h; exact (.p _)
    ·refine ifO h (fun hc5 h => ?_) (fun hc5 h => ?_)
     ·refine ifT hc5 ?_
      cases h; exact (.p _)
     ·refine ifO h (fun hc6 h => ?_) (fun hc6 h => ?_)
      ·refine ifT hc6 ?_
       cases h; exact (.p _)
      ·apply iU h <;> intro h
       ·cases h; exact (.p _)
       ·refine ifO h (fun hc8 h => ?_) (fun hc8 h => ?_)
        ·refine ifT hc8 ?_
         cases h; exact (.p _)
        ·refine ifO h (fun hc9 h => ?_) (fun hc9 h => ?_)
         ·refine ifT hc9 ?_
          cases h; exact (.p _)
         ·refine ifO h (fun hc10 h => ?_) (fun hc10 h => ?_)
          ·refine ifT hc10 ?_
           cases h; exact (.p _)
          ·refine ifO h (fun hc11 h => ?_) (fun hc11 h => ?_)
           ·refine ifT hc11 ?_
            cases h; exact (.p _)
           ·apply iU h <;> intro h
            ·cases h; exact (.p _)
            ·apply iU h <;> intro h
             ·cases h; exact (.p _)
             ·apply iU h <;> intro h
              ·cases h; exact (.p _)
              ·apply iU h <;> intro h
               ·cases h; exact (.p _)
               ·cases h; exact (.p _)
def W5 (_N : Nat) (n_0 : Int) : Option (Bool) :=
 cond (Q5 .leq n_0 1114111)
 (cond (Q5 .lss n_0 55296)
 (some true)
 (some (Q5 .gtr n_0 57343)))
 (some false)
theorem Q0o {N} {n_0} {r} (h : W5 N n_0 = some r) : Y9 Tryd.prog G1 99 [.int .u64 n_0] (.bool r) := by
 refine Q6 k99 ?_
 unfold W5 at h
 apply iU h <;> intro h
 ·apply iU h <;> intro h
  ·cases h; exact (.p _)
  ·cases h; exact (.p _)
 ·cases h; exact (.p _)
def Z7 (_N : Nat) (n_0 : Int) (bits : Int) : Option (Bool) :=
 cond (decide (0 ≤ (IntKind.wrap .u64 (bits - 1)))) (cond (Q5 .lss n_0 (Jq .u64 1 (IntKind.wrap .u64 (bits - 1))))
 (some true)
 (some (Q5 .geq n_0 (IntKind.wrap .u64 (0 - (Jq .u64 1 (IntKind.wrap .u64 (bits - 1)))))))) none
theorem Yv {N} {n_0} {bits} {r} (h : Z7 N n_0 bits = some r) : Y9 Tryd.prog G1 100 [.int .u64 n_0, .int .u64 bits] (.bool r) := by
 refine Q6 Qqy ?_
 unfold Z7 at h
 refine kU h fun h => ?_
 apply iU h <;> intro h
 ·cases h; exact (.p _)
 ·cases h; exact (.p _)
def Yp (N : Nat) (v : Q0) : Option (Bool) :=
 (Qo N v.Kind).bind fun v1 =>
 cond (Q5 .eql v.Kind 16)
 ((W5 N v.N').bind fun v4 =>
 some v4)
 (cond (Q5 .eql v1 0)
 (some (Q5 .eql v.N' 0))
 (cond (Q5 .lss v1 0)
 ((Z7 N v.N' (IntKind.wrap .u64 (IntKind.wrap .i64 (0 - v1)))).bind fun v8 =>
 some v8)
 (cond (Q5 .eql v1 64)
 (some true)
 (cond (decide (0 ≤ (IntKind.wrap .u64 v1))) (some (Q5 .lss v.N' (Jq .u64 1 (IntKind.wrap .u64 v1)))) none))))
theorem U6 {N} {v} {r} (h : Yp N v = some r) : Y9 Tryd.prog G1 78 [.agg (Q0.cells v)] (.bool r) := by
 refine Q6 k78 ?_
 unfold Yp at h
 refine cP h Q0t p1 fun v1 h => ?_
 apply iU h <;> intro h
 ·refine cP h Q0o p1 fun v4 h => ?_
  cases h; exact (.p _)
 ·apply iU h <;> intro h
  ·cases h; exact (.p _)
  ·apply iU h <;> intro h
   ·refine cP h Yv p2 fun v8 h => ?_
    cases h; exact (.p _)
   ·apply iU h <;> intro h
    ·cases h; exact (.p _)
    ·refine kU h fun h => ?_
     cases h; exact (.p _)
def X1 (_N : Nat) (kind : Int) : Option (Bool) :=
 cond (Q5 .eql kind 15)
 (some true)
 (cond (Q5 .geq kind 18)
 (some (Q5 .leq kind 21))
 (some false))
theorem Uc {N} {kind} {r} (h : X1 N kind = some r) : Y9 Tryd.prog G1 79 [.int .i64 kind] (.bool r) := by
 refine Q6 k79 ?_
 unfold X1 at h
 apply iU h <;> intro h
 ·cases h; exact (.p _)
 ·apply iU h <;> intro h
  ·cases h; exact (.p _)
  ·cases h; exact (.p _)
def Y7 (N : Nat) (v : Q0) : Option (Int) :=
 cond (Q5 .eql v.Kind 15)
 (cond (Q5 .lss v.Kind 1)
 (some 8)
 (cond (Q5 .gtr v.Kind 21)
 (some 8)
 ((Yp N v).bind fun v4 =>
 cond (!v4)
 (some 2)
 (cond (Q5 .gtr ((Q0.rows v.Items).length : Int) 0)
 (some 2)
 ((X1 N v.Kind).bind fun v8 =>
 cond (!v8)
 (cond (Q66 .neq v.Text [])
 (some 2)
 (cond (Q5 .neq (v.Text.length : Int) 16)
 (some 2)
 (cond (Q5 .gtr (v.Text.length : Int) 1048576)
 (some 4)
 (cond (Q5 .eql v.Kind 20)
 ((Za N v.Text).bind fun v15 =>
 cond (!v15)
 (some 6)
 (cond (Q5 .eql v.Kind 21)
 ((Qh N v.Text).bind fun v19 =>
 cond (!v19)
 (some 6)
 (some 0))
 (some 0)))
 (cond (Q5 .eql v.Kind 21)
 ((Qh N v.Text).bind fun v23 =>
 cond (!v23)
 (some 6)
 (some 0))
 (some 0))))))
 (cond (Q5 .neq (v.Text.length : Int) 16)
 (some 2)
 (cond (Q5 .gtr (v.Text.length : Int) 1048576)
 (some 4)
 (cond (Q5 .eql v.Kind 20)
 ((Za N v.Text).bind fun v29 =>
 cond (!v29)
 (some 6)
 (cond (Q5 .eql v.Kind 21)
 ((Qh N v.Text).bind fun v33 =>
 cond (!v33)
 (some 6)
 (some 0))
 (some 0)))
 (cond (Q5 .eql v.Kind 21)
 ((Qh N v.Text).bind fun v37 =>
 cond (!v37)
 (some 6)
 (some 0))
 (some 0))))))))))
 (cond (Q5 .lss v.Kind 1)
 (some 8)
 (cond (Q5 .gtr v.Kind 21)
 (some 8)
 ((Yp N v).bind fun v42 =>
 cond (!v42)
 (some 2)
 (cond (Q5 .gtr ((Q0.rows v.Items).length : Int) 0)
 (some 2)
 ((X1 N v.Kind).bind fun v46 =>
 cond (!v46)
 (cond (Q66 .neq v.Text [])
 (some 2)
 (cond (Q5 .eql v.Kind 18)
 (cond (Q5 .neq (v.Text.length : Int) 16)
 (some 2)
 (cond (Q5 .gtr (v.Text.length : Int) 1048576)
 (some 4)
 (cond (Q5 .eql v.Kind 20)
 ((Za N v.Text).bind fun v54 =>
 cond (!v54)
 (some 6)
 (cond (Q5 .eql v.Kind 21)
 ((Qh N v.Text).bind fun v58 =>
 cond (!v58)
 (some 6)
 (some 0))
 (some 0)))
 (cond (Q5 .eql v.Kind 21)
 ((Qh N v.Text).bind fun v62 =>
 cond (!v62)
 (some 6)
 (some 0))
 (some 0)))))
 (cond (Q5 .gtr (v.Text.length : Int) 1048576)
 (some 4)
 (cond (Q5 .eql v.Kind 20)
 ((Za N v.Text).bind fun v67 =>
 cond (!v67)
 (some 6)
 (cond (Q5 .eql v.Kind 21)
 ((Qh N v.Text).bind fun v71 =>
 cond (!v71)
 (some 6)
 (some 0))
 (some 0)))
 (cond (Q5 .eql v.Kind 21)
 ((Qh N v.Text).bind fun v75 =>
 cond (!v75)
 (some 6)
 (some 0))
 (some 0))))))
 (cond (Q5 .eql v.Kind 18)
 (cond (Q5 .neq (v.Text.length : Int) 16)
 (some 2)
 (cond (Q5 .gtr (v.Text.length : Int) 1048576)
 (some 4)
 (cond (Q5 .eql v.Kind 20)
 ((Za N v.Text).bind fun v82 =>
 cond (!v82)
 (some 6)
 (cond (Q5 .eql v.Kind 21)
 ((Qh N v.Text).bind fun v86 =>
 cond (!v86)
 (some 6)
 (some 0))
 (some 0)))
 (cond (Q5 .eql v.Kind 21)
 ((Qh N v.Text).bind fun v90 =>
 cond (!v90)
 (some 6)
 (some 0))
 (some 0)))))
 (cond (Q5 .gtr (v.Text.length : Int) 1048576)
 (some 4)
 (cond (Q5 .eql v.Kind 20)
 ((Za N v.Text).bind fun v95 =>
 cond (!v95)
 (some 6)
 (cond (Q5 .eql v.Kind 21)
 ((Qh N v.Text).bind fun v99 =>
 cond (!v99)
 (some 6)
 (some 0))
 (some 0)))
 (cond (Q5 .eql v.Kind 21)
 ((Qh N v.Text).bind fun v103 =>
 cond (!v103)
 (some 6)
 (some 0))
 (some 0))))))))))
theorem V1 {N} {v} {r} (h : Y7 N v = some r) : Y9 Tryd.prog G1 55 [.agg (Q0.cells v)] (.int .i64 r) := by
 refine Q6 k55 ?_
 unfold Y7 at h
 apply iU h <;> intro h
 ·apply iU h <;> intro h
  ·cases h; exact (.p _)
  ·apply iU h <;> intro h
   ·cases h; exact (.p _)
   ·refine cP h U6 (.cons q4 .nil) fun v4 h => ?_
    apply iU h <;> intro h
    ·cases h; exact (.p _)
    ·apply iU h <;> intro h
     ·cases h; exact (.p _)
     ·refine cP h Uc p1 fun v8 h => ?_
      apply iU h <;> intro h
      ·apply iU h <;> intro h
       ·cases h; exact (.p _)
       ·apply iU h <;> intro h
        ·cases h; exact (.p _)
        ·apply iU h <;> intro h
         ·cases h; exact (.p _)
         ·apply iU h <;> intro h
          ·refine cP h Yi p1 fun v15 h => ?_
           apply iU h <;> intro h
           ·cases h; exact (.p _)
           ·apply iU h <;> intro h
            ·refine cP h Ql p1 fun v19 h => ?_
             apply iU h <;> intro h
             ·cases h; exact (.p _)
             ·cases h; exact (.p _)
            ·cases h; exact (.p _)
          ·apply iU h <;> intro h
           ·refine cP h Ql p1 fun v23 h => ?_
            apply iU h <;> intro h
            ·cases h; exact (.p _)
            ·cases h; exact (.p _)
           ·cases h; exact (.p _)
      ·apply iU h <;> intro h
       ·cases h; exact (.p _)
       ·apply iU h <;> intro h
        ·cases h; exact (.p _)
        ·apply iU h <;> intro h
         ·refine cP h Yi p1 fun v29 h => ?_
          apply iU h <;> intro h
          ·cases h; exact (.p _)
          ·apply iU h <;> intro h
           ·refine cP h Ql p1 fun v33 h => ?_
            apply iU h <;> intro h
            ·cases h; exact (.p _)
            ·cases h; exact (.p _)
           ·cases h; exact (.p _)
         ·apply iU h <;> intro h
          ·refine cP h Ql p1 fun v37 h => ?_
           apply iU h <;> intro h
           ·cases h; exact (.p _)
           ·cases h; exact (.p _)
          ·cases h; exact (.p _)
 ·apply iU h <;> intro h
  ·cases h; exact (.p _)
  ·apply iU h <;> intro h
   ·cases h; exact (.p _)
   ·refine cP h U6 (.cons q4 .nil) fun v42 h => ?_
    apply iU h <;> intro h
    ·cases h; exact (.p _)
    ·apply iU h <;> intro h
     ·cases h; exact (.p _)
     ·refine cP h Uc p1 fun v46 h => ?_
      apply iU h <;> intro h
      ·apply iU h <;> intro h
       ·cases h; exact (.p _)
       ·apply iU h <;> intro h
        ·apply iU h <;> intro h
         ·cases h; exact (.p _)
         ·apply iU h <;> intro h
          ·cases h; exact (.p _)
          ·apply iU h <;> intro h
           ·refine cP h Yi p1 fun v54 h => ?_
            apply iU h <;> intro h
            ·cases h; exact (.p _)
            ·apply iU h <;> intro h
             ·refine cP h Ql p1 fun v58 h => ?_
              apply iU h <;> intro h
              ·cases h; exact (.p _)
              ·cases h; exact (.p _)
             ·cases h; exact (.p _)
           ·apply iU h <;> intro h
            ·refine cP h Ql p1 fun v62 h => ?_
             apply iU h <;> intro h
             ·cases h; exact (.p _)
             ·cases h; exact (.p _)
            ·cases h; exact (.p _)
        ·apply iU h <;> intro h
         ·cases h; exact (.p _)
         ·apply iU h <;> intro h
          ·refine cP h Yi p1 fun v67 h => ?_
           apply iU h <;> intro h
           ·cases h; exact (.p _)
           ·apply iU h <;> intro h
            ·refine cP h Ql p1 fun v71 h => ?_
             apply iU h <;> intro h
             ·cases h; exact (.p _)
             ·cases h; exact (.p _)
            ·cases h; exact (.p _)
          ·apply iU h <;> intro h
           ·refine cP h Ql p1 fun v75 h => ?_
            apply iU h <;> intro h
            ·cases h; exact (.p _)
            ·cases h; exact (.p _)
           ·cases h; exact (.p _)
      ·apply iU h <;> intro h
       ·apply iU h <;> intro h
        ·cases h; exact (.p _)
        ·apply iU h <;> intro h
         ·cases h; exact (.p _)
         ·apply iU h <;> intro h
          ·refine cP h Yi p1 fun v82 h => ?_
           apply iU h <;> intro h
           ·cases h; exact (.p _)
           ·apply iU h <;> intro h
            ·refine cP h Ql p1 fun v86 h => ?_
             apply iU h <;> intro h
             ·cases h; exact (.p _)
             ·cases h; exact (.p _)
            ·cases h; exact (.p _)
          ·apply iU h <;> intro h
           ·refine cP h Ql p1 fun v90 h => ?_
            apply iU h <;> intro h
            ·cases h; exact (.p _)
            ·cases h; exact (.p _)
           ·cases h; exact (.p _)
       ·apply iU h <;> intro h
        ·cases h; exact (.p _)
        ·apply iU h <;> intro h
         ·refine cP h Yi p1 fun v95 h => ?_
          apply iU h <;> intro h
          ·cases h; exact (.p _)
          ·apply iU h <;> intro h
           ·refine cP h Ql p1 fun v99 h => ?_
            apply iU h <;> intro h
            ·cases h; exact (.p _)
            ·cases h; exact (.p _)
           ·cases h; exact (.p _)
         ·apply iU h <;> intro h
          ·refine cP h Ql p1 fun v103 h => ?_
           apply iU h <;> intro h
           ·cases h; exact (.p _)
           ·cases h; exact (.p _)
          ·cases h; exact (.p _)
def Zo (R_polyglotref17_check : Q0 → Int → Option (Int)) (N : Nat) (v : Q0) (most : Int) : Nat → Int → Option (Int)
 | 0, _ => none
 | n + 1, i42 =>
  cond (Q5 .lss i42 ((Q0.rows v.Items).length : Int))
  (cond (Q5 .eql v.Kind 24)
  ((idx v.Items i42).bind fun y45 =>
  cond (Q5 .neq (IntKind.wrap .u64 y45.Kind) v.N')
  (some 8)
  ((idx v.Items i42).bind fun y48 =>
  (R_polyglotref17_check y48 (IntKind.wrap .i64 (most - 1))).bind fun v50 =>
  cond (Q5 .neq v50 0)
  (some v50)
  (Zo R_polyglotref17_check N v most n (IntKind.wrap .i64 (i42 + 1)))))
  ((idx v.Items i42).bind fun y53 =>
  (R_polyglotref17_check y53 (IntKind.wrap .i64 (most - 1))).bind fun v55 =>
  cond (Q5 .neq v55 0)
  (some v55)
  (Zo R_polyglotref17_check N v most n (IntKind.wrap .i64 (i42 + 1)))))
  (cond (Q5 .eql v.Kind 23)
  ((Xu N v.Items).bind fun v59 =>
  cond v59
  (some 16)
  (some 0))
  (some 0))
def Wv (R_polyglotref17_check : Q0 → Int → Option (Int)) (N : Nat) (v : Q0) (most : Int) : Option (Int) :=
 cond (Q5 .lss v.Kind 1)
 (some 8)
 (cond (Q5 .gtr v.Kind 25)
 (some 8)
 (cond (Q5 .leq v.Kind 21)
 ((Y7 N v).bind fun v4 =>
 some v4)
 (cond (Q5 .eql most 0)
 (some 14)
 ((Xe N v).bind fun v7 =>
 cond (!v7)
 (some 2)
 (cond (Q5 .gtr ((Q0.rows v.Items).length : Int) 1000)
 (some 4)
 (Zo R_polyglotref17_check N v most N 0))))))
theorem Q08 {R_polyglotref17_check : Q0 → Int → Option (Int)} (hR_polyglotref17_check : ∀ {v} {most} {r}, R_polyglotref17_check v most = some r → Y9 Tryd.prog G1 42 [.agg (Q0.cells v), .int .i64 most] (.int .i64 r)) {N} {v} {most} {r} (h : Wv R_polyglotref17_check N v most = some r) : Y9 Tryd.prog G1 42 [.agg (Q0.cells v), .int .i64 most] (.int .i64 r) := by
 refine Q6 k42 ?_
 unfold Wv at h
 apply iU h <;> intro h
 ·cases h; exact (.p _)
 ·apply iU h <;> intro h
  ·cases h; exact (.p _)
  ·apply iU h <;> intro h
   ·refine cP h V1 (.cons q4 .nil) fun v4 h => ?_
    cases h; exact (.p _)
   ·apply iU h <;> intro h
    ·cases h; exact (.p _)
    ·refine cP h Gz (.cons q4 .nil) fun v7 h => ?_
     apply iU h <;> intro h
     ·cases h; exact (.p _)
     ·apply iU h <;> intro h
      ·cases h; exact (.p _)
      ·refine lpC (τ := Int) (fun i42 => (.any :: iI most :: .ptr 0 0 :: .any :: .any :: iI i42 :: a16 (a16 (a16 (a16 (a2 (.any :: []))))) : List AV)) (fun _ => (.cells (iI v.Kind :: iW v.N' :: iS v.Text :: .p (.slice 4 (Q0.rows v.Items)) :: []) :: [] : List AObj)) (fun n0 i42 => Zo R_polyglotref17_check N v most n0 i42) (0) h (fun i => i) ⟨(rA <| rE rfl <| rE rfl <| rW <| rE rfl <| rX <| rX <| rX <| rX <| rX <| rX <| rX <| rX <| rW <| rA <| rN), (hE rfl <| hN), rfl, rfl, (roE rfl <| roN)⟩ fun n0 i42 h => ?_
       simp only [Zo] at h
       apply iU h <;> intro h
       ·refine Qd ?_
        apply iU h <;> intro h
        ·refine Q0.xR h fun y45 h => ?_
         apply iU h <;> intro h
         ·cases h; exact (.p _)
         ·refine Q0.xR h fun y48 h => ?_
          refine cP h hR_polyglotref17_check (.cons q4 p1) fun v50 h => ?_
          apply iU h <;> intro h
          ·cases h; exact (.p _)
          ·show Exists _
           exact ⟨(n0, (IntKind.wrap .i64 (i42 + 1))), h, Nat.lt_succ_self _, (fun i => i), ⟨(rA <| rE rfl <| rE rfl <| rW <| rE rfl <| rX <| rX <| rX <| rX <| rX <| rX <| rX <| rX <| rW <| rA <| rN), (hE rfl <| hN), rfl, rfl, (roE rfl <| roN)⟩⟩
        ·refine Q0.xR h fun y53 h => ?_
         refine cP h hR_polyglotref17_check (.cons q4 p1) fun v55 h => ?_
         apply iU h <;> intro h
         ·cases h; exact (.p _)
         ·show Exists _
          exact ⟨(n0, (IntKind.wrap .i64 (i42 + 1))), h, Nat.lt_succ_self _, (fun i => i), ⟨(rA <| rE rfl <| rE rfl <| rW <| rE rfl <| rX <| rX <| rX <| rX <| rX <| rX <| rX <| rX <| rW <| rA <| rN), (hE rfl <| hN), rfl, rfl, (roE rfl <| roN)⟩⟩
       ·apply iU h <;> intro h
        ·refine cP h Q0j p1 fun v59 h => ?_
         apply iU h <;> intro h
         ·cases h; exact (.p _)
         ·cases h; exact (.p _)
        ·cases h; exact (.p _)
def Y8 : Nat → Q0 → Int → Option (Int)
 | 0 => fun _ _ => none
 | N + 1 => Wv (Y8 N) N
theorem Q0b {N} {v} {most} {r} (h : Y8 N v most = some r) : Y9 Tryd.prog G1 42 [.agg (Q0.cells v), .int .i64 most] (.int .i64 r) := by
 induction N generalizing v most r with
 | zero => simp [Y8] at h
 | succ N ih => exact Q08 (fun h => ih h) h
def Xp (N : Nat) (v : Q0) (most : Int) : Option (Int) :=
 cond (Q5 .lss most 0)
 (some 2)
 (cond (Q5 .gtr most 32)
 (some 2)
 ((Y8 N v most).bind fun v3 =>
 some v3))
theorem Q04 {N} {v} {most} {r} (h : Xp N v most = some r) : Y9 Tryd.prog G1 32 [.agg (Q0.cells v), .int .i64 most] (.int .i64 r) := by
 refine Q6 k32 ?_
 unfold Xp at h
 apply iU h <;> intro h
 ·cases h; exact (.p _)
 ·apply iU h <;> intro h
  ·cases h; exact (.p _)
  ·refine cP h Q0b (.cons q4 p1) fun v3 h => ?_
   cases h; exact (.p _)
def X0 (_N : Nat) : Option (List Qg) :=
 some [(⟨64, 1, 0, false, false⟩ : Qg), (⟨65, 2, 0, false, false⟩ : Qg), (⟨66, 2, 0, false, false⟩ : Qg), (⟨86, 2, 1, false, false⟩ : Qg), (⟨80, 3, 1, false, false⟩ : Qg), (⟨96, 4, 2, false, false⟩ : Qg), (⟨67, 5, 0, false, false⟩ : Qg), (⟨82, 5, 1, false, false⟩ : Qg), (⟨112, 5, 4, false, false⟩ : Qg), (⟨68, 6, 0, false, false⟩ : Qg), (⟨83, 6, 1, false, false⟩ : Qg), (⟨128, 6, 8, false, false⟩ : Qg), (⟨81, 7, 1, false, false⟩ : Qg), (⟨97, 8, 2, false, false⟩ : Qg), (⟨84, 9, 1, false, false⟩ : Qg), (⟨113, 9, 4, false, false⟩ : Qg), (⟨85, 10, 1, false, false⟩ : Qg), (⟨129, 10, 8, false, false⟩ : Qg), (⟨114, 11, 4, false, false⟩ : Qg), (⟨130, 12, 8, false, false⟩ : Qg), (⟨116, 13, 4, false, false⟩ : Qg), (⟨132, 14, 8, false, false⟩ : Qg), (⟨148, 15, 16, false, false⟩ : Qg), (⟨115, 16, 4, false, false⟩ : Qg), (⟨131, 17, 8, false, false⟩ : Qg), (⟨152, 18, 16, false, false⟩ : Qg), (⟨160, 19, 1, true, false⟩ : Qg), (⟨176, 19, 4, true, false⟩ : Qg), (⟨161, 20, 1, true, false⟩ : Qg), (⟨177, 20, 4, true, false⟩ : Qg), (⟨163, 21, 1, true, false⟩ : Qg), (⟨179, 21, 4, true, false⟩ : Qg), (⟨69, 22, 0, false, true⟩ : Qg), (⟨192, 22, 1, true, true⟩ : Qg), (⟨208, 22, 4, true, true⟩ : Qg), (⟨193, 23, 1, true, true⟩ : Qg), (⟨209, 23, 4, true, true⟩ : Qg), (⟨224, 24, 1, true, true⟩ : Qg), (⟨240, 24, 4, true, true⟩ : Qg), (⟨0, 25, 0, false, true⟩ : Qg)]
theorem Ui {N} {r} (h : X0 N = some r) : Y9 Tryd.prog G1 83 [] (.slice 5 (Vo Qg.cells r)) := by
 refine Q6 k83 ?_
 unfold X0 at h
 obtain rfl := Qm h; exact (frz_own (c := Qg.cells) (l := ([(⟨64, 1, 0, false, false⟩ : Qg), (⟨65, 2, 0, false, false⟩ : Qg), (⟨66, 2, 0, false, false⟩ : Qg), (⟨86, 2, 1, false, false⟩ : Qg), (⟨80, 3, 1, false, false⟩ : Qg), (⟨96, 4, 2, false, false⟩ : Qg), (⟨67, 5, 0, false, false⟩ : Qg), (⟨82, 5, 1, false, false⟩ : Qg), (⟨112, 5, 4, false, false⟩ : Qg), (⟨68, 6, 0, false, false⟩ : Qg), (⟨83, 6, 1, false, false⟩ : Qg), (⟨128, 6, 8, false, false⟩ : Qg), (⟨81, 7, 1, false, false⟩ : Qg), (⟨97, 8, 2, false, false⟩ : Qg), (⟨84, 9, 1, false, false⟩ : Qg), (⟨113, 9, 4, false, false⟩ : Qg), (⟨85, 10, 1, false, false⟩ : Qg), (⟨129, 10, 8, false, false⟩ : Qg), (⟨114, 11, 4, false, false⟩ : Qg), (⟨130, 12, 8, false, false⟩ : Qg), (⟨116, 13, 4, false, false⟩ : Qg), (⟨132, 14, 8, false, false⟩ : Qg), (⟨148, 15, 16, false, false⟩ : Qg), (⟨115, 16, 4, false, false⟩ : Qg), (⟨131, 17, 8, false, false⟩ : Qg), (⟨152, 18, 16, false, false⟩ : Qg), (⟨160, 19, 1, true, false⟩ : Qg), (⟨176, 19, 4, true, false⟩ : Qg), (⟨161, 20, 1, true, false⟩ : Qg), (⟨177, 20, 4, true, false⟩ : Qg), (⟨163, 21, 1, true, false⟩ : Qg), (⟨179, 21, 4, true, false⟩ : Qg), (⟨69, 22, 0, false, true⟩ : Qg), (⟨192, 22, 1, true, true⟩ : Qg), (⟨208, 22, 4, true, true⟩ : Qg), (⟨193, 23, 1, true, true⟩ : Qg), (⟨209, 23, 4, true, true⟩ : Qg), (⟨224, 24, 1, true, true⟩ : Qg), (⟨240, 24, 4, true, true⟩ : Qg), (⟨0, 25, 0, false, true⟩ : Qg)] : List Qg)) (fun _ => rfl) rfl trivial (by simp))
def Zp (N : Nat) (kind : Int) (v1 : List Qg) : Nat → Int → (List Int) → Option (List Int)
 | 0, _, _ => none
 | n + 1, i18, l19 =>
  cond (Q5 .lss i18 ((Vo Qg.cells v1).length : Int))
  ((idx v1 i18).bind fun y21 =>
  cond (Q5 .eql y21.Kind kind)
  ((idx v1 i18).bind fun y24 =>
  cond (Nat.ble ((l19.length + 1 + 4096) * 8) 17592186044416) (Zp N kind v1 n (IntKind.wrap .i64 (i18 + 1)) (l19 ++ [y24.Code])) none)
  (Zp N kind v1 n (IntKind.wrap .i64 (i18 + 1)) l19))
  (some l19)
def Xv (N : Nat) (kind : Int) : Option (List Int) :=
 (X0 N).bind fun v1 =>
 Zp N kind v1 N 0 []
theorem Q0c {N} {kind} {r} (h : Xv N kind = some r) : Y9 Tryd.prog G1 59 [.int .i64 kind] (.slice 1 (Vo (cI .i64) r)) := by
 refine Q6 k59 ?_
 unfold Xv at h
 refine cP h Ui p0 fun v1 h => ?_
 refine lpC (τ := Int × (List Int)) (fun ⟨i18, l19⟩ => (iI kind :: .any :: .any :: .slice 1 0 0 l19.length :: .p (.slice 5 (Vo Qg.cells v1)) :: iI i18 :: a16 (a4 (a2 (.any :: []))) : List AV)) (fun ⟨_, l19⟩ => (.cells (Ud (cI .i64) l19) :: [] : List AObj)) (fun n0 ⟨i18, l19⟩ => Zp N kind v1 n0 i18 l19) (0, []) h (fun i => i) ⟨(rE rfl <| rW <| rS <| rE rfl <| rE rfl <| rX <| rX <| rV <| rW <| rA <| rN), (hV lb <| hN), rfl, rfl, (roE (Qp _ _ _) <| roN)⟩ fun n0 ⟨i18, l19⟩ h => ?_
 simp only [Zp] at h
 apply iU h <;> intro h
 ·refine xR h fun y21 h => ?_
  apply iU h <;> intro h
  ·refine xR h fun y24 h => ?_
   obtain ⟨hk26, h⟩ := Q81 h
   refine Q3m (V2 (c := (cI .i64)) (e := 1) (fun _ => rfl) (by simp) hk26) ?_
   refine Uh (c := (cI .i64)) [y24.Code] rfl ?_
   show Exists _
   exact ⟨(n0, (IntKind.wrap .i64 (i18 + 1)), (l19 ++ [y24.Code])), h, Nat.lt_succ_self _, (rho [2]), ⟨(rE rfl <| rW <| rL (by simp) rfl <| rE rfl <| rE rfl <| rX <| rX <| rV <| rW <| rA <| rN), (hO rfl <| hN), rfl, rfl, (roE (Qp _ _ _) <| roN)⟩⟩
  ·show Exists _
   exact ⟨(n0, (IntKind.wrap .i64 (i18 + 1)), l19), h, Nat.lt_succ_self _, (fun i => i), ⟨(rE rfl <| rW <| rE rfl <| rE rfl <| rE rfl <| rX <| rX <| rV <| rW <| rA <| rN), (hO rfl <| hN), rfl, rfl, (roE (Qp _ _ _) <| roN)⟩⟩
 ·obtain rfl := Qm h; exact (frz_own (c := (cI .i64)) (l := (l19 : List Int)) (fun _ => rfl) rfl trivial (by simp))
def X2 (N : Nat) (code : Int) (v1 : List Qg) : Nat → Int → Option (Qg × Bool)
 | 0, _ => none
 | n + 1, i16 =>
  cond (Q5 .lss i16 ((Vo Qg.cells v1).length : Int))
  ((idx v1 i16).bind fun y18 =>
  cond (Q5 .eql y18.Code code)
  ((idx v1 i16).bind fun y21 =>
  some (y21, true))
  (X2 N code v1 n (IntKind.wrap .i64 (i16 + 1))))
  (some ((⟨0, 0, 0, false, false⟩ : Qg), false))
def Ym (N : Nat) (code : Int) : Option (Qg × Bool) :=
 (X0 N).bind fun v1 =>
 X2 N code v1 N 0
theorem Wt {N} {code} {r} (h : Ym N code = some r) : Y9 Tryd.prog G1 61 [.int .i64 code] (.tuple [.agg (Qg.cells r.1), .bool r.2]) := by
 refine Q6 k61 ?_
 unfold Ym at h
 refine cP h Ui p0 fun v1 h => ?_
 refine lpC (τ := Int) (fun i16 => (iI code :: .any :: .ptr 0 0 :: .any :: .p (.slice 5 (Vo Qg.cells v1)) :: iI i16 :: a16 (a2 (.any :: [])) : List AV)) (fun _ => (.cells (iI 0 :: iI 0 :: iI 0 :: .p (.bool false) :: .p (.bool false) :: []) :: [] : List AObj)) (fun n0 i16 => X2 N code v1 n0 i16) (0) h (fun i => i) ⟨(rE rfl <| rA <| rE rfl <| rA <| rE rfl <| rE rfl <| rX <| rX <| rW <| rA <| rN), (hE rfl <| hN), rfl, rfl, (roE rfl <| roN)⟩ fun n0 i16 h => ?_
 simp only [X2] at h
 apply iU h <;> intro h
 ·refine xR h fun y18 h => ?_
  apply iU h <;> intro h
  ·refine xR h fun y21 h => ?_
   obtain rfl := Qm h; exact (Frz.tuple' (.cons (Frz.agg' p5) p1))
  ·show Exists _
   exact ⟨(n0, (IntKind.wrap .i64 (i16 + 1))), h, Nat.lt_succ_self _, (fun i => i), ⟨(rE rfl <| rA <| rE rfl <| rA <| rE rfl <| rE rfl <| rX <| rX <| rW <| rA <| rN), (hE rfl <| hN), rfl, rfl, (roE rfl <| roN)⟩⟩
 ·obtain rfl := Qm h; exact (Frz.tuple' (.cons (Frz.agg' p5) p1))
def Xa (N : Nat) (code : Int) (v : Q0) : Option (Bool) :=
 (Ym N code).bind fun v1 =>
 cond (!v1.2)
 (some false)
 (cond (Q5 .neq v1.1.Kind v.Kind)
 (some false)
 ((Y7 N v).bind fun v5 =>
 cond (Q5 .neq v5 0)
 (some false)
 (cond (Q5 .eql code 65)
 (some (Q5 .eql v.N' 1))
 (cond (Q5 .eql v1.1.Width 0)
 (some (Q5 .eql v.N' 0))
 (cond v1.1.Sized
 (cond (Q5 .eql v1.1.Width 1)
 (some (Q5 .lss (v.Text.length : Int) 256))
 (cond (Q5 .eql code 82)
 (some (Q5 .lss v.N' 256))
 (cond (Q5 .eql code 83)
 (some (Q5 .lss v.N' 256))
 (cond (Q5 .eql code 84)
 ((Z7 N v.N' 8).bind fun v15 =>
 some v15)
 (cond (Q5 .eql code 85)
 ((Z7 N v.N' 8).bind fun v18 =>
 some v18)
 (some true))))))
 (cond (Q5 .eql code 82)
 (some (Q5 .lss v.N' 256))
 (cond (Q5 .eql code 83)
 (some (Q5 .lss v.N' 256))
 (cond (Q5 .eql code 84)
 ((Z7 N v.N' 8).bind fun v23 =>
 some v23)
 (cond (Q5 .eql code 85)
 ((Z7 N v.N' 8).bind fun v26 =>
 some v26)
 (some true))))))))))
theorem Ux {N} {code} {v} {r} (h : Xa N code v = some r) : Y9 Tryd.prog G1 84 [.int .i64 code, .agg (Q0.cells v)] (.bool r) := by
 refine Q6 k84 ?_
 unfold Xa at h
 refine cP h Wt p1 fun v1 h => ?_
 apply iU h <;> intro h
 ·cases h; exact (.p _)
 ·apply iU h <;> intro h
  ·cases h; exact (.p _)
  ·refine cP h V1 (.cons q4 .nil) fun v5 h => ?_
   apply iU h <;> intro h
   ·cases h; exact (.p _)
   ·apply iU h <;> intro h
    ·cases h; exact (.p _)
    ·apply iU h <;> intro h
     ·cases h; exact (.p _)
     ·apply iU h <;> intro h
      ·apply iU h <;> intro h
       ·cases h; exact (.p _)
       ·apply iU h <;> intro h
        ·cases h; exact (.p _)
        ·apply iU h <;> intro h
         ·cases h; exact (.p _)
         ·apply iU h <;> intro h
          ·refine cP h Yv p2 fun v15 h => ?_
           cases h; exact (.p _)
          ·apply iU h <;> intro h
           ·refine cP h Yv p2 fun v18 h => ?_
            cases h; exact (.p _)
           ·cases h; exact (.p _)
      ·apply iU h <;> intro h
       ·cases h; exact (.p _)
       ·apply iU h <;> intro h
        ·cases h; exact (.p _)
        ·apply iU h <;> intro h
         ·refine cP h Yv p2 fun v23 h => ?_
          cases h; exact (.p _)
         ·apply iU h <;> intro h
          ·refine cP h Yv p2 fun v26 h => ?_
           cases h; exact (.p _)
          ·cases h; exact (.p _)
def Yk (N : Nat) (code : Int) (v : Q0) (in_2 : List UInt8) : Option (Bool) :=
 (Ym N code).bind fun v1 =>
 cond (!v1.1.Items)
 ((Xa N code v).bind fun v4 =>
 some v4)
 (cond (Q5 .eql v1.1.Width 0)
 (some (Q5 .eql ((Q0.rows v.Items).length : Int) 0))
 (cond (Q5 .eql v1.1.Width 4)
 (some true)
 (cond (Q5 .lss ((Q0.rows v.Items).length : Int) 256)
 (some (Q5 .lss (IntKind.wrap .i64 ((in_2.length : Int) + 1)) 256))
 (some false))))
theorem Q0r {N} {code} {v} {in_2} {r} (h : Yk N code v in_2 = some r) : Y9 Tryd.prog G1 60 [.int .i64 code, .agg (Q0.cells v), .str in_2] (.bool r) := by
 refine Q6 k60 ?_
 unfold Yk at h
 refine cP h Wt p1 fun v1 h => ?_
 apply iU h <;> intro h
 ·refine cP h Ux (.cons (.p _) (.cons q4 .nil)) fun v4 h => ?_
  cases h; exact (.p _)
 ·apply iU h <;> intro h
  ·cases h; exact (.p _)
  ·apply iU h <;> intro h
   ·cases h; exact (.p _)
   ·apply iU h <;> intro h
    ·cases h; exact (.p _)
    ·cases h; exact (.p _)
def Y3 (N : Nat) (k0 : Int → Option (Int)) (items : List Q0) (in_2 : List (List UInt8)) (v1 : List Int) (i78 : Int) : Nat → Bool → Int → Option (Int)
 | 0, _, _ => none
 | n + 1, all101, Qh3 =>
  cond (Q5 .lss Qh3 ((Q0.rows items).length : Int))
  (cond all101
  ((idx v1 i78).bind fun y105 =>
  (idx items Qh3).bind fun y107 =>
  (idx in_2 Qh3).bind fun y109 =>
  (Yk N y105 y107 y109).bind fun v111 =>
  Y3 N k0 items in_2 v1 i78 n v111 (IntKind.wrap .i64 (Qh3 + 1)))
  (k0 (IntKind.wrap .i64 (i78 + 1))))
  (cond all101
  ((idx v1 i78).bind fun y114 =>
  some y114)
  (k0 (IntKind.wrap .i64 (i78 + 1))))
def Z9 (N : Nat) (items : List Q0) (in_2 : List (List UInt8)) (v1 : List Int) : Nat → Int → Option (Int)
 | 0, _ => none
 | n + 1, i78 =>
  cond (Q5 .lss i78 ((Vo (cI .i64) v1).length : Int))
  (Y3 N (Z9 N items in_2 v1 n) items in_2 v1 i78 N true 0)
  (some 0)
def X4 (N : Nat) (kind : Int) (items : List Q0) (in_2 : List (List UInt8)) : Option (Int) :=
 (Xv N kind).bind fun v1 =>
 Z9 N items in_2 v1 N 0
theorem Uf {N} {kind} {items} {in_2} {r} (h : X4 N kind items in_2 = some r) : Y9 Tryd.prog G1 44 [.int .i64 kind, .slice 4 (Q0.rows items), .slice 1 (Vo cS in_2)] (.int .i64 r) := by
 refine Q6 k44 ?_
 unfold X4 at h
 refine cP h Q0c p1 fun v1 h => ?_
 refine lpC (τ := Int) (fun i78 => (.any :: .p (.slice 4 (Q0.rows items)) :: .p (.slice 1 (Vo cS in_2)) :: a4 (.p (.slice 1 (Vo (cI .i64) v1)) :: iI i78 :: a16 (a16 (a4 (.any :: [])))) : List AV)) (fun _ => ([] : List AObj)) (fun n0 i78 => Z9 N items in_2 v1 n0 i78) (0) h (fun i => i) ⟨(rA <| rE rfl <| rE rfl <| rV <| rE rfl <| rE rfl <| rX <| rX <| rX <| rX <| rV <| rA <| rN), (hN), rfl, rfl, (roN)⟩ fun n0 i78 h => ?_
 simp only [Z9] at h
 apply iU h <;> intro h
 ·refine lpC (τ := Bool × Int) (fun ⟨all101, Qh3⟩ => (.any :: .p (.slice 4 (Q0.rows items)) :: .p (.slice 1 (Vo cS in_2)) :: a4 (.p (.slice 1 (Vo (cI .i64) v1)) :: iI i78 :: .p (.bool all101) :: iI Qh3 :: a16 (a16 (a2 (.any :: [])))) : List AV)) (fun ⟨_, _⟩ => ([] : List AObj)) (fun n1 ⟨all101, Qh3⟩ => Y3 N (Z9 N items in_2 v1 n0) items in_2 v1 i78 n1 all101 Qh3) (true, 0) h (fun i => i) ⟨(rA <| rE rfl <| rE rfl <| rV <| rE rfl <| rE rfl <| rE rfl <| rE rfl <| rX <| rX <| rX <| rX <| rW <| rA <| rN), (hN), rfl, rfl, (roN)⟩ fun n1 ⟨all101, Qh3⟩ h => ?_
  simp only [Y3] at h
  apply iU h <;> intro h
  ·refine ifO h (fun hc104 h => ?_) (fun hc104 h => ?_)
   ·refine Qd ?_
    refine xR h fun y105 h => ?_
    refine Q0.xR h fun y107 h => ?_
    refine xR h fun y109 h => ?_
    refine cD h Q0r (.cons (.p _) (.cons q4 p1)) fun v111 h => ?_
    show Exists _
    exact ⟨(n1, v111, (IntKind.wrap .i64 (Qh3 + 1))), h, Nat.lt_succ_self _, (fun i => i), ⟨(rA <| rE rfl <| rE rfl <| rV <| rE rfl <| rE rfl <| rE rfl <| rE rfl <| rX <| rX <| rX <| rX <| rW <| rA <| rN), (hN), rfl, rfl, (roN)⟩⟩
   ·refine ifF hc104 ?_
    show Exists _
    exact ⟨(n0, (IntKind.wrap .i64 (i78 + 1))), h, Nat.lt_succ_self _, (fun i => i), ⟨(rA <| rE rfl <| rE rfl <| rV <| rE rfl <| rE rfl <| rX <| rX <| rX <| rX <| rV <| rA <| rN), (hN), rfl, rfl, (roN)⟩⟩
  ·apply iU h <;> intro h
   ·refine xR h fun y114 h => ?_
    cases h; exact (.p _)
   ·show Exists _
    exact ⟨(n0, (IntKind.wrap .i64 (i78 + 1))), h, Nat.lt_succ_self _, (fun i => i), ⟨(rA <| rE rfl <| rE rfl <| rV <| rE rfl <| rE rfl <| rX <| rX <| rX <| rX <| rV <| rA <| rN), (hN), rfl, rfl, (roN)⟩⟩
 ·cases h; exact (.p _)
def Yq (N : Nat) (width : Int) : Nat → Int → (List UInt8) → Int → Option (List UInt8)
 | 0, _, _, _ => none
 | n + 1, n8, out9, i10 =>
  cond (Q5 .lss i10 width)
  (cond (Nat.ble ([UInt8.ofNat (IntKind.wrap .u8 n8).toNat].length + out9.length) 4611686018427387904) (Yq N width n (Q21 .u64 n8 8) ([UInt8.ofNat (IntKind.wrap .u8 n8).toNat] ++ out9) (IntKind.wrap .i64 (i10 + 1))) none)
  (some out9)
def Zg (N : Nat) (n_0 : Int) (width : Int) : Option (List UInt8) :=
 Yq N width N n_0 [] 0
theorem Ys {N} {n_0} {width} {r} (h : Zg N n_0 width = some r) : Y9 Tryd.prog G1 12 [.int .u64 n_0, .int .i64 width] (.str r) := by
 refine Q6 k12 ?_
 unfold Zg at h
 refine lpC (τ := Int × (List UInt8) × Int) (fun ⟨n8, out9, i10⟩ => (iW n8 :: iI width :: a2 (.any :: iS out9 :: iI i10 :: a8 (a4 (a2 ([])))) : List AV)) (fun ⟨_, _, _⟩ => ([] : List AObj)) (fun n0 ⟨n8, out9, i10⟩ => Yq N width n0 n8 out9 i10) (n_0, [], 0) h (fun i => i) ⟨(rE rfl <| rE rfl <| rW <| rA <| rE rfl <| rE rfl <| rX <| rV <| rW <| rN), (hN), rfl, rfl, (roN)⟩ fun n0 ⟨n8, out9, i10⟩ h => ?_
 simp only [Yq] at h
 apply iU h <;> intro h
 ·refine kU h fun h => ?_
  show Exists _
  exact ⟨(n0, (Q21 .u64 n8 8), ([UInt8.ofNat (IntKind.wrap .u8 n8).toNat] ++ out9), (IntKind.wrap .i64 (i10 + 1))), h, Nat.lt_succ_self _, (fun i => i), ⟨(rE rfl <| rE rfl <| rW <| rA <| rE rfl <| rE rfl <| rX <| rV <| rW <| rN), (hN), rfl, rfl, (roN)⟩⟩
 ·cases h; exact (.p _)
def Wj (N : Nat) (code : Int) (v : Q0) : Option ((List UInt8) × Int) :=
 (Y7 N v).bind fun v1 =>
 cond (Q5 .neq v1 0)
 (some ([], v1))
 ((Xa N code v).bind fun v4 =>
 cond (!v4)
 (some ([], 2))
 ((Ym N code).bind fun v7 =>
 cond v7.1.Sized
 ((Zg N (IntKind.wrap .u64 (v.Text.length : Int)) v7.1.Width).bind fun v10 =>
 cond (Nat.ble (v10.length + v.Text.length) 4611686018427387904) (some ((v10 ++ v.Text), 0)) none)
 (cond (Q5 .eql v7.1.Width 16)
 (some (v.Text, 0))
 ((Zg N v.N' v7.1.Width).bind fun v14 =>
 some (v14, 0)))))
theorem Q1i {N} {code} {v} {r} (h : Wj N code v = some r) : Y9 Tryd.prog G1 62 [.int .i64 code, .agg (Q0.cells v)] (.tuple [.str r.1, .int .i64 r.2]) := by
 refine Q6 k62 ?_
 unfold Wj at h
 refine cP h V1 (.cons q4 .nil) fun v1 h => ?_
 apply iU h <;> intro h
 ·obtain rfl := Qm h; exact u2
 ·refine cP h Ux (.cons (.p _) (.cons q4 .nil)) fun v4 h => ?_
  apply iU h <;> intro h
  ·obtain rfl := Qm h; exact u2
  ·refine cP h Wt p1 fun v7 h => ?_
   apply iU h <;> intro h
   ·refine Qd ?_
    refine cD h Ys p2 fun v10 h => ?_
    refine kU h fun h => ?_
    obtain rfl := Qm h; exact u2
   ·apply iU h <;> intro h
    ·obtain rfl := Qm h; exact u2
    ·refine cP h Ys p2 fun v14 h => ?_
     obtain rfl := Qm h; exact u2
def Yl (N : Nat) (code : Int) (v : Q0) (in_2 : List UInt8) : Option (List UInt8) :=
 (Ym N code).bind fun v1 =>
 cond (!v1.1.Items)
 ((Wj N code v).bind fun v4 =>
 some v4.1)
 (cond (!v1.1.Sized)
 (some [])
 ((Zg N (IntKind.wrap .u64 (IntKind.wrap .i64 ((in_2.length : Int) + v1.1.Width))) v1.1.Width).bind fun v7 =>
 (Zg N (IntKind.wrap .u64 ((Q0.rows v.Items).length : Int)) v1.1.Width).bind fun v9 =>
 cond (Nat.ble (v7.length + v9.length) 4611686018427387904) (cond (Nat.ble ((v7 ++ v9).length + in_2.length) 4611686018427387904) (some ((v7 ++ v9) ++ in_2)) none) none))
theorem Un {N} {code} {v} {in_2} {r} (h : Yl N code v in_2 = some r) : Y9 Tryd.prog G1 45 [.int .i64 code, .agg (Q0.cells v), .str in_2] (.str r) := by
 refine Q6 k45 ?_
 unfold Yl at h
 refine cP h Wt p1 fun v1 h => ?_
 apply iU h <;> intro h
 ·refine cP h Q1i (.cons (.p _) (.cons q4 .nil)) fun v4 h => ?_
  cases h; exact (.p _)
 ·apply iU h <;> intro h
  ·cases h; exact (.p _)
  ·refine Qd ?_
   refine cD h Ys p2 fun v7 h => ?_
   refine cD h Ys p2 fun v9 h => ?_
   refine kU h fun h => ?_
   refine kU h fun h => ?_
   cases h; exact (.p _)
def Xn (R_polyglotref18_bytes : Q0 → Option (List UInt8)) (R_polyglotref18_within : Q0 → Option (List UInt8)) (R_polyglotref18_inner : (List Q0) → Option (List (List UInt8))) (N : Nat) (v : Q0) : Option (List UInt8) :=
 cond (Q5 .eql v.Kind 25)
 ((idx v.Items 0).bind fun y2 =>
 (R_polyglotref18_bytes y2).bind fun v4 =>
 cond (Nat.ble ([0].length + v4.length) 4611686018427387904) ((idx v.Items 1).bind fun y7 =>
 (R_polyglotref18_bytes y7).bind fun v9 =>
 cond (Nat.ble (([0] ++ v4).length + v9.length) 4611686018427387904) (some (([0] ++ v4) ++ v9)) none) none)
 ((R_polyglotref18_within v).bind fun v12 =>
 (X4 N v.Kind [v] [v12]).bind fun v14 =>
 (Yl N v14 v v12).bind fun v16 =>
 cond (Nat.ble ([UInt8.ofNat (IntKind.wrap .u8 v14).toNat].length + v16.length) 4611686018427387904) (some ([UInt8.ofNat (IntKind.wrap .u8 v14).toNat] ++ v16)) none)
theorem Q0l {R_polyglotref18_bytes : Q0 → Option (List UInt8)} {R_polyglotref18_within : Q0 → Option (List UInt8)} {R_polyglotref18_inner : (List Q0) → Option (List (List UInt8))} (hR_polyglotref18_bytes : ∀ {v} {r}, R_polyglotref18_bytes v = some r → Y9 Tryd.prog G1 33 [.agg (Q0.cells v)] (.str r)) (hR_polyglotref18_within : ∀ {v} {r}, R_polyglotref18_within v = some r → Y9 Tryd.prog G1 43 [.agg (Q0.cells v)] (.str r)) (hR_polyglotref18_inner : ∀ {l} {r}, R_polyglotref18_inner l = some r → Y9 Tryd.prog G1 58 [.slice 4 (Q0.rows l)] (.slice 1 (Vo cS r))) {N} {v} {r} (h : Xn R_polyglotref18_bytes R_polyglotref18_within R_polyglotref18_inner N v = some r) : Y9 Tryd.prog G1 33 [.agg (Q0.cells v)] (.str r) := by
 refine Q6 k33 ?_
 unfold Xn at h
 apply iU h <;> intro h
 ·refine Qd ?_
  refine Q0.xR h fun y2 h => ?_
  refine cD h hR_polyglotref18_bytes (.cons q4 .nil) fun v4 h => ?_
  refine kU h fun h => ?_
  refine Q0.xR h fun y7 h => ?_
  refine cD h hR_polyglotref18_bytes (.cons q4 .nil) fun v9 h => ?_
  refine kU h fun h => ?_
  cases h; exact (.p _)
 ·refine cP h hR_polyglotref18_within (.cons q4 .nil) fun v12 h => ?_
  refine cK h Uf (.cons (.p _) (.cons (Q0.frz_own (l := [v]) rfl trivial (by simp)) (.cons (frz_own (c := cS) (l := ([v12] : List (List UInt8))) (fun _ => rfl) rfl trivial (by simp)) .nil))) fun v14 h => ?_
  refine Qd ?_
  refine cD h Un (.cons (.p _) (.cons q4 p1)) fun v16 h => ?_
  refine kU h fun h => ?_
  cases h; exact (.p _)
def Zv (N : Nat) (v : Q0) (v2 : List (List UInt8)) (v4 : Int) : Nat → (List UInt8) → Int → Option (List UInt8)
 | 0, _, _ => none
 | n + 1, out24, i25 =>
  cond (Q5 .lss i25 ((Q0.rows v.Items).length : Int))
  ((idx v.Items i25).bind fun y27 =>
  (idx v2 i25).bind fun y29 =>
  (Yl N v4 y27 y29).bind fun v31 =>
  cond (Nat.ble (out24.length + v31.length) 4611686018427387904) (Zv N v v2 v4 n (out24 ++ v31) (IntKind.wrap .i64 (i25 + 1))) none)
  (some out24)
def Zh (R_polyglotref18_bytes : Q0 → Option (List UInt8)) (N : Nat) (v : Q0) : Nat → (List UInt8) → Int → Option (List UInt8)
 | 0, _, _ => none
 | n + 1, out50, i51 =>
  cond (Q5 .lss i51 ((Q0.rows v.Items).length : Int))
  (cond (Q5 .neq v.Kind 25)
  ((idx v.Items i51).bind fun y54 =>
  (R_polyglotref18_bytes y54).bind fun v56 =>
  cond (Nat.ble (out50.length + v56.length) 4611686018427387904) (Zh R_polyglotref18_bytes N v n (out50 ++ v56) (IntKind.wrap .i64 (i51 + 1))) none)
  (some out50))
  (some out50)
def Xf (R_polyglotref18_bytes : Q0 → Option (List UInt8)) (R_polyglotref18_within : Q0 → Option (List UInt8)) (R_polyglotref18_inner : (List Q0) → Option (List (List UInt8))) (N : Nat) (v : Q0) : Option (List UInt8) :=
 cond (Q5 .eql v.Kind 24)
 ((R_polyglotref18_inner v.Items).bind fun v2 =>
 (X4 N (IntKind.wrap .i64 v.N') v.Items v2).bind fun v4 =>
 Zv N v v2 v4 N [UInt8.ofNat (IntKind.wrap .u8 v4).toNat] 0)
 (Zh R_polyglotref18_bytes N v N [] 0)
theorem Q02 {R_polyglotref18_bytes : Q0 → Option (List UInt8)} {R_polyglotref18_within : Q0 → Option (List UInt8)} {R_polyglotref18_inner : (List Q0) → Option (List (List UInt8))} (hR_polyglotref18_bytes : ∀ {v} {r}, R_polyglotref18_bytes v = some r → Y9 Tryd.prog G1 33 [.agg (Q0.cells v)] (.str r)) (hR_polyglotref18_within : ∀ {v} {r}, R_polyglotref18_within v = some r → Y9 Tryd.prog G1 43 [.agg (Q0.cells v)] (.str r)) (hR_polyglotref18_inner : ∀ {l} {r}, R_polyglotref18_inner l = some r → Y9 Tryd.prog G1 58 [.slice 4 (Q0.rows l)] (.slice 1 (Vo cS r))) {N} {v} {r} (h : Xf R_polyglotref18_bytes R_polyglotref18_within R_polyglotref18_inner N v = some r) : Y9 Tryd.prog G1 43 [.agg (Q0.cells v)] (.str r) := by
 refine Q6 k43 ?_
 unfold Xf at h
 apply iU h <;> intro h
 ·refine cP h hR_polyglotref18_inner p1 fun v2 h => ?_
  refine cP h Uf p3 fun v4 h => ?_
  refine lpC (τ := (List UInt8) × Int) (fun ⟨out24, i25⟩ => (.any :: .ptr 0 0 :: .any :: iS out24 :: .p (.slice 1 (Vo cS v2)) :: iI v4 :: iI i25 :: a16 (a16 (a16 (a8 (a4 ([]))))) : List AV)) (fun ⟨_, _⟩ => (.cells (iI v.Kind :: iW v.N' :: iS v.Text :: .p (.slice 4 (Q0.rows v.Items)) :: []) :: .cells (.p (.int .u8 (IntKind.wrap .u8 v4)) :: []) :: [] : List AObj)) (fun n0 ⟨out24, i25⟩ => Zv N v v2 v4 n0 out24 i25) ([UInt8.ofNat (IntKind.wrap .u8 v4).toNat], 0) h (fun i => i) ⟨(rA <| rE rfl <| rA <| rE rfl <| rE rfl <| rE rfl <| rE rfl <| rX <| rX <| rX <| rX <| rX <| rX <| rX <| rV <| rN), (hE rfl <| hE rfl <| hN), rfl, rfl, (roE rfl <| roE rfl <| roN)⟩ fun n0 ⟨out24, i25⟩ h => ?_
  simp only [Zv] at h
  apply iU h <;> intro h
  ·refine Qd ?_
   refine Q0.xR h fun y27 h => ?_
   refine xR h fun y29 h => ?_
   refine cD h Un (.cons (.p _) (.cons q4 p1)) fun v31 h => ?_
   refine kU h fun h => ?_
   show Exists _
   exact ⟨(n0, (out24 ++ v31), (IntKind.wrap .i64 (i25 + 1))), h, Nat.lt_succ_self _, (fun i => i), ⟨(rA <| rE rfl <| rA <| rE rfl <| rE rfl <| rE rfl <| rE rfl <| rX <| rX <| rX <| rX <| rX <| rX <| rX <| rV <| rN), (hE rfl <| hE rfl <| hN), rfl, rfl, (roE rfl <| roE rfl <| roN)⟩⟩
  ·cases h; exact (.p _)
 ·refine lpC (τ := (List UInt8) × Int) (fun ⟨out50, i51⟩ => (.any :: .ptr 0 0 :: .any :: iS out50 :: a2 (.any :: iI i51 :: a16 (a16 (a16 (a8 (a2 (.any :: [])))))) : List AV)) (fun ⟨_, _⟩ => (.cells (iI v.Kind :: iW v.N' :: iS v.Text :: .p (.slice 4 (Q0.rows v.Items)) :: []) :: [] : List AObj)) (fun n1 ⟨out50, i51⟩ => Zh R_polyglotref18_bytes N v n1 out50 i51) ([], 0) h (fun i => i) ⟨(rA <| rE rfl <| rA <| rE rfl <| rW <| rA <| rE rfl <| rX <| rX <| rX <| rX <| rX <| rX <| rX <| rW <| rA <| rN), (hE rfl <| hN), rfl, rfl, (roE rfl <| roN)⟩ fun n1 ⟨out50, i51⟩ h => ?_
  simp only [Zh] at h
  apply iU h <;> intro h
  ·apply iU h <;> intro h
   ·refine Q0.xR h fun y54 h => ?_
    refine cP h hR_polyglotref18_bytes (.cons q4 .nil) fun v56 h => ?_
    refine kU h fun h => ?_
    show Exists _
    exact ⟨(n1, (out50 ++ v56), (IntKind.wrap .i64 (i51 + 1))), h, Nat.lt_succ_self _, (fun i => i), ⟨(rA <| rE rfl <| rA <| rE rfl <| rW <| rA <| rE rfl <| rX <| rX <| rX <| rX <| rX <| rX <| rX <| rW <| rA <| rN), (hE rfl <| hN), rfl, rfl, (roE rfl <| roN)⟩⟩
   ·cases h; exact (.p _)
  ·cases h; exact (.p _)
def Zy (R_polyglotref18_within : Q0 → Option (List UInt8)) (N : Nat) (l : List Q0) : Nat → Int → (List (List UInt8)) → Option (List (List UInt8))
 | 0, _, _ => none
 | n + 1, i14, l15 =>
  cond (Q5 .lss i14 ((Q0.rows l).length : Int))
  ((idx l i14).bind fun y17 =>
  (R_polyglotref18_within y17).bind fun v19 =>
  cond (Nat.ble ((l15.length + 1 + 4096) * 16) 17592186044416) (Zy R_polyglotref18_within N l n (IntKind.wrap .i64 (i14 + 1)) (l15 ++ [v19])) none)
  (some l15)
def Vv (R_polyglotref18_bytes : Q0 → Option (List UInt8)) (R_polyglotref18_within : Q0 → Option (List UInt8)) (R_polyglotref18_inner : (List Q0) → Option (List (List UInt8))) (N : Nat) (l : List Q0) : Option (List (List UInt8)) :=
 Zy R_polyglotref18_within N l N 0 []
theorem Q0m {R_polyglotref18_bytes : Q0 → Option (List UInt8)} {R_polyglotref18_within : Q0 → Option (List UInt8)} {R_polyglotref18_inner : (List Q0) → Option (List (List UInt8))} (hR_polyglotref18_bytes : ∀ {v} {r}, R_polyglotref18_bytes v = some r → Y9 Tryd.prog G1 33 [.agg (Q0.cells v)] (.str r)) (hR_polyglotref18_within : ∀ {v} {r}, R_polyglotref18_within v = some r → Y9 Tryd.prog G1 43 [.agg (Q0.cells v)] (.str r)) (hR_polyglotref18_inner : ∀ {l} {r}, R_polyglotref18_inner l = some r → Y9 Tryd.prog G1 58 [.slice 4 (Q0.rows l)] (.slice 1 (Vo cS r))) {N} {l} {r} (h : Vv R_polyglotref18_bytes R_polyglotref18_within R_polyglotref18_inner N l = some r) : Y9 Tryd.prog G1 58 [.slice 4 (Q0.rows l)] (.slice 1 (Vo cS r)) := by
 refine Q6 k58 ?_
 unfold Vv at h
 refine lpC (τ := Int × (List (List UInt8))) (fun ⟨i14, l15⟩ => (.p (.slice 4 (Q0.rows l)) :: .any :: .any :: .slice 1 0 0 l15.length :: iI i14 :: a8 (a4 (a2 (.any :: []))) : List AV)) (fun ⟨_, l15⟩ => (.cells (Ud cS l15) :: [] : List AObj)) (fun n0 ⟨i14, l15⟩ => Zy R_polyglotref18_within N l n0 i14 l15) (0, []) h (fun i => i) ⟨(rE rfl <| rW <| rS <| rE rfl <| rX <| rV <| rW <| rA <| rN), (hV lb <| hN), rfl, rfl, (roE (Qp _ _ _) <| roN)⟩ fun n0 ⟨i14, l15⟩ h => ?_
 simp only [Zy] at h
 apply iU h <;> intro h
 ·refine Q0.xR h fun y17 h => ?_
  refine cP h hR_polyglotref18_within (.cons q4 .nil) fun v19 h => ?_
  obtain ⟨hk21, h⟩ := Q81 h
  refine Q3m (V2 (c := cS) (e := 1) (fun _ => rfl) (by simp) hk21) ?_
  refine Uh (c := cS) [v19] rfl ?_
  show Exists _
  exact ⟨(n0, (IntKind.wrap .i64 (i14 + 1)), (l15 ++ [v19])), h, Nat.lt_succ_self _, (rho [2]), ⟨(rE rfl <| rW <| rL (by simp) rfl <| rE rfl <| rX <| rV <| rW <| rA <| rN), (hO rfl <| hN), rfl, rfl, (roE (Qp _ _ _) <| roN)⟩⟩
 ·obtain rfl := Qm h; exact (frz_own (c := cS) (l := (l15 : List (List UInt8))) (fun _ => rfl) rfl trivial (by simp))
def Qc : Nat → (Q0 → Option (List UInt8)) × (Q0 → Option (List UInt8)) × ((List Q0) → Option (List (List UInt8)))
 | 0 => (fun _ => none, fun _ => none, fun _ => none)
 | N + 1 => (Xn ((Qc N).1) ((Qc N).2.1) ((Qc N).2.2) N, Xf ((Qc N).1) ((Qc N).2.1) ((Qc N).2.2) N, Vv ((Qc N).1) ((Qc N).2.1) ((Qc N).2.2) N)
def Y5 (N : Nat) : Q0 → Option (List UInt8) := (Qc N).1
def Yr (N : Nat) : Q0 → Option (List UInt8) := (Qc N).2.1
def Vm (N : Nat) : (List Q0) → Option (List (List UInt8)) := (Qc N).2.2
theorem Q0n : ∀ N, (∀ {v : Q0} {r : List UInt8}, (Qc N).1 v = some r → Y9 Tryd.prog G1 33 [.agg (Q0.cells v)] (.str r)) ∧ (∀ {v : Q0} {r : List UInt8}, (Qc N).2.1 v = some r → Y9 Tryd.prog G1 43 [.agg (Q0.cells v)] (.str r)) ∧ (∀ {l : List Q0} {r : List (List UInt8)}, (Qc N).2.2 l = some r → Y9 Tryd.prog G1 58 [.slice 4 (Q0.rows l)] (.slice 1 (Vo cS r))) := by
 intro N
 induction N with
 | zero => exact ⟨(fun h => by simp [Qc] at h), (fun h => by simp [Qc] at h), (fun h => by simp [Qc] at h)⟩
 | succ N ih => exact ⟨(fun h => Q0l (N := N) (fun h => ih.1 h) (fun h => ih.2.1 h) (fun h => ih.2.2 h) h), (fun h => Q02 (N := N) (fun h => ih.1 h) (fun h => ih.2.1 h) (fun h => ih.2.2 h) h), (fun h => Q0m (N := N) (fun h => ih.1 h) (fun h => ih.2.1 h) (fun h => ih.2.2 h) h)⟩
theorem Q07 {N : Nat} {v : Q0} {r : List UInt8} (h : Y5 N v = some r) : Y9 Tryd.prog G1 33 [.agg (Q0.cells v)] (.str r) := (Q0n N).1 h
def Xr (N : Nat) (v : Q0) (most : Int) : Option ((List UInt8) × Int) :=
 (Xp N v most).bind fun v1 =>
 cond (Q5 .neq v1 0)
 (some ([], v1))
 ((Zl N v).bind fun v4 =>
 (Y5 N v4).bind fun v6 =>
 some (v6, 0))
theorem Q05 {N} {v} {most} {r} (h : Xr N v most = some r) : Y9 Tryd.prog G1 10 [.agg (Q0.cells v), .int .i64 most] (.tuple [.str r.1, .int .i64 r.2]) := by
 refine Q6 k10 ?_
 unfold Xr at h
 refine cP h Q04 (.cons q4 p1) fun v1 h => ?_
 apply iU h <;> intro h
 ·obtain rfl := Qm h; exact u2
 ·refine cP h Uz (.cons q4 .nil) fun v4 h => ?_
  refine cP h Q07 p1 fun v6 h => ?_
  obtain rfl := Qm h; exact u2
def Xz (R_amqvalue_Same : Q0 → Q0 → Option (Bool)) (N : Nat) (a : Q0) (b : Q0) : Nat → Int → Option (Bool)
 | 0, _ => none
 | n + 1, s22 =>
  cond (Q5 .lss s22 ((Q0.rows a.Items).length : Int))
  ((idx a.Items s22).bind fun y24 =>
  (idx b.Items s22).bind fun y26 =>
  (R_amqvalue_Same y24 y26).bind fun v28 =>
  cond (!v28)
  (some false)
  (Xz R_amqvalue_Same N a b n (IntKind.wrap .i64 (s22 + 1))))
  (some true)
def Uo (R_amqvalue_Same : Q0 → Q0 → Option (Bool)) (N : Nat) (a : Q0) (b : Q0) : Option (Bool) :=
 cond (Q5 .neq a.Kind b.Kind)
 (some false)
 (cond (Q5 .neq a.N' b.N')
 (some false)
 (cond (Q66 .neq a.Text b.Text)
 (some false)
 (cond (Q5 .neq ((Q0.rows a.Items).length : Int) ((Q0.rows b.Items).length : Int))
 (some false)
 (Xz R_amqvalue_Same N a b N 0))))
theorem Q3w {R_amqvalue_Same : Q0 → Q0 → Option (Bool)} (hR_amqvalue_Same : ∀ {a} {b} {r}, R_amqvalue_Same a b = some r → Y9 Tryd.prog G1 13 [.agg (Q0.cells a), .agg (Q0.cells b)] (.bool r)) {N} {a} {b} {r} (h : Uo R_amqvalue_Same N a b = some r) : Y9 Tryd.prog G1 13 [.agg (Q0.cells a), .agg (Q0.cells b)] (.bool r) := by
 refine Q6 k13 ?_
 unfold Uo at h
 apply iU h <;> intro h
 ·cases h; exact (.p _)
 ·apply iU h <;> intro h
  ·cases h; exact (.p _)
  ·apply iU h <;> intro h
   ·cases h; exact (.p _)
   ·apply iU h <;> intro h
    ·cases h; exact (.p _)
    ·refine lpC (τ := Int) (fun s22 => (.any :: .any :: .ptr 0 0 :: .ptr 1 0 :: a16 (a16 (iI ((Q0.rows a.Items).length : Int) :: iI s22 :: a8 (a4 (a2 (.any :: []))))) : List AV)) (fun _ => (.cells (iI a.Kind :: iW a.N' :: iS a.Text :: .p (.slice 4 (Q0.rows a.Items)) :: []) :: .cells (iI b.Kind :: iW b.N' :: iS b.Text :: .p (.slice 4 (Q0.rows b.Items)) :: []) :: [] : List AObj)) (fun n0 s22 => Xz R_amqvalue_Same N a b n0 s22) (0) h (fun i => i) ⟨(rW <| rE rfl <| rE rfl <| rX <| rX <| rX <| rX <| rE rfl <| rE rfl <| rX <| rV <| rW <| rA <| rN), (hE rfl <| hE rfl <| hN), rfl, rfl, (roE rfl <| roE rfl <| roN)⟩ fun n0 s22 h => ?_
     simp only [Xz] at h
     apply iU h <;> intro h
     ·refine Qd ?_
      refine Q0.xR h fun y24 h => ?_
      refine Q0.xR h fun y26 h => ?_
      refine cD h hR_amqvalue_Same (.cons q4 (.cons q4 .nil)) fun v28 h => ?_
      apply iU h <;> intro h
      ·cases h; exact (.p _)
      ·show Exists _
       exact ⟨(n0, (IntKind.wrap .i64 (s22 + 1))), h, Nat.lt_succ_self _, (fun i => i), ⟨(rW <| rE rfl <| rE rfl <| rX <| rX <| rX <| rX <| rE rfl <| rE rfl <| rX <| rV <| rW <| rA <| rN), (hE rfl <| hE rfl <| hN), rfl, rfl, (roE rfl <| roE rfl <| roN)⟩⟩
     ·cases h; exact (.p _)
def Yu : Nat → Q0 → Q0 → Option (Bool)
 | 0 => fun _ _ => none
 | N + 1 => Uo (Yu N) N
theorem Vj {N} {a} {b} {r} (h : Yu N a b = some r) : Y9 Tryd.prog G1 13 [.agg (Q0.cells a), .agg (Q0.cells b)] (.bool r) := by
 induction N generalizing a b r with
 | zero => simp [Yu] at h
 | succ N ih => exact Q3w (fun h => ih h) h
def Xk (R_amqvalue_Count : Q0 → Option (Int)) (N : Nat) (v : Q0) : Nat → Int → Int → Option (Int)
 | 0, _, _ => none
 | n + 1, n13, s14 =>
  cond (Q5 .lss s14 ((Q0.rows v.Items).length : Int))
  ((idx v.Items s14).bind fun y16 =>
  (R_amqvalue_Count y16).bind fun v18 =>
  Xk R_amqvalue_Count N v n (IntKind.wrap .i64 (n13 + v18)) (IntKind.wrap .i64 (s14 + 1)))
  (some n13)
def Ji (R_amqvalue_Count : Q0 → Option (Int)) (N : Nat) (v : Q0) : Option (Int) :=
 Xk R_amqvalue_Count N v N 1 0
theorem Q3a {R_amqvalue_Count : Q0 → Option (Int)} (hR_amqvalue_Count : ∀ {v} {r}, R_amqvalue_Count v = some r → Y9 Tryd.prog G1 14 [.agg (Q0.cells v)] (.int .i64 r)) {N} {v} {r} (h : Ji R_amqvalue_Count N v = some r) : Y9 Tryd.prog G1 14 [.agg (Q0.cells v)] (.int .i64 r) := by
 refine Q6 k14 ?_
 unfold Ji at h
 refine lpC (τ := Int × Int) (fun ⟨n13, s14⟩ => (a2 (.any :: iI n13 :: a2 (.any :: .p (.slice 4 (Q0.rows v.Items)) :: iI ((Q0.rows v.Items).length : Int) :: iI s14 :: a8 (.any :: []))) : List AV)) (fun ⟨_, _⟩ => (.cells (iI v.Kind :: iW v.N' :: iS v.Text :: .p (.slice 4 (Q0.rows v.Items)) :: []) :: [] : List AObj)) (fun n0 ⟨n13, s14⟩ => Xk R_amqvalue_Count N v n0 n13 s14) (1, 0) h (fun i => i) ⟨(rW <| rA <| rE rfl <| rW <| rA <| rE rfl <| rE rfl <| rE rfl <| rX <| rA <| rN), (hE rfl <| hN), rfl, rfl, (roE rfl <| roN)⟩ fun n0 ⟨n13, s14⟩ h => ?_
 simp only [Xk] at h
 apply iU h <;> intro h
 ·refine Q0.xR h fun y16 h => ?_
  refine cP h hR_amqvalue_Count (.cons q4 .nil) fun v18 h => ?_
  show Exists _
  exact ⟨(n0, (IntKind.wrap .i64 (n13 + v18)), (IntKind.wrap .i64 (s14 + 1))), h, Nat.lt_succ_self _, (fun i => i), ⟨(rW <| rA <| rE rfl <| rW <| rA <| rE rfl <| rE rfl <| rE rfl <| rX <| rA <| rN), (hE rfl <| hN), rfl, rfl, (roE rfl <| roN)⟩⟩
 ·cases h; exact (.p _)
def W1 : Nat → Q0 → Option (Int)
 | 0 => fun _ => none
 | N + 1 => Ji (W1 N) N
theorem Gk {N} {v} {r} (h : W1 N v = some r) : Y9 Tryd.prog G1 14 [.agg (Q0.cells v)] (.int .i64 r) := by
 induction N generalizing v r with
 | zero => simp [W1] at h
 | succ N ih => exact Q3a (fun h => ih h) h
def Yn (R_amqvalue_Copy : Q0 → Option (Q0)) (N : Nat) (v : Q0) : Nat → Int → (List Q0) → Option (Q0)
 | 0, _, _ => none
 | n + 1, s14, l15 =>
  cond (Q5 .lss s14 ((Q0.rows v.Items).length : Int))
  ((idx v.Items s14).bind fun y17 =>
  (R_amqvalue_Copy y17).bind fun v19 =>
  cond (Nat.ble ((l15.length + 1 + 4096) * 56) 17592186044416) (Yn R_amqvalue_Copy N v n (IntKind.wrap .i64 (s14 + 1)) (l15 ++ [v19])) none)
  (some (⟨v.Kind, v.N', v.Text, l15⟩ : Q0))
def Vt (R_amqvalue_Copy : Q0 → Option (Q0)) (N : Nat) (v : Q0) : Option (Q0) :=
 Yn R_amqvalue_Copy N v N 0 []
theorem Q3i {R_amqvalue_Copy : Q0 → Option (Q0)} (hR_amqvalue_Copy : ∀ {v} {r}, R_amqvalue_Copy v = some r → Y9 Tryd.prog G1 15 [.agg (Q0.cells v)] (.agg (Q0.cells r))) {N} {v} {r} (h : Vt R_amqvalue_Copy N v = some r) : Y9 Tryd.prog G1 15 [.agg (Q0.cells v)] (.agg (Q0.cells r)) := by
 refine Q6 k15 ?_
 unfold Vt at h
 refine lpC (τ := Int × (List Q0)) (fun ⟨s14, _⟩ => (.any :: .any :: .ptr 1 0 :: .ptr 2 0 :: a8 (a2 (.p (.slice 4 (Q0.rows v.Items)) :: iI ((Q0.rows v.Items).length : Int) :: iI s14 :: a8 (a4 ([])))) : List AV)) (fun ⟨_, l15⟩ => (.cells (iI v.Kind :: iW v.N' :: iS v.Text :: .p (.slice 4 (Q0.rows v.Items)) :: []) :: .cells (iI 0 :: iW 0 :: iS [] :: .p .nilSlice :: []) :: .cells (iI v.Kind :: iW v.N' :: iS v.Text :: .slice 4 3 0 l15.length :: []) :: .cells (Ud Q0.cells l15) :: [] : List AObj)) (fun n0 ⟨s14, l15⟩ => Yn R_amqvalue_Copy N v n0 s14 l15) (0, []) h (fun i => i) ⟨(rW <| rE rfl <| rE rfl <| rX <| rW <| rE rfl <| rE rfl <| rE rfl <| rX <| rV <| rN), (hE rfl <| hE rfl <| hC rfl (rE rfl <| rE rfl <| rE rfl <| rS <| rN) <| hV lb <| hN), rfl, rfl, (roE rfl <| roE rfl <| roE rfl <| roE (Qp _ _ _) <| roN)⟩ fun n0 ⟨s14, l15⟩ h => ?_
 simp only [Yn] at h
 apply iU h <;> intro h
 ·refine Q0.xR h fun y17 h => ?_
  refine Qd ?_
  refine cD h hR_amqvalue_Copy (.cons q4 .nil) fun v19 h => ?_
  obtain ⟨hk21, h⟩ := Q81 h
  refine Q3m (V2 (c := Q0.cells) (e := 4) (fun _ => rfl) (by simp) hk21) ?_
  refine Uh (c := Q0.cells) [v19] rfl ?_
  show Exists _
  exact ⟨(n0, (IntKind.wrap .i64 (s14 + 1)), (l15 ++ [v19])), h, Nat.lt_succ_self _, (rho [0, 1, 2, 6]), ⟨(rW <| rE rfl <| rE rfl <| rX <| rW <| rE rfl <| rE rfl <| rE rfl <| rX <| rV <| rN), (hE rfl <| hE rfl <| hC rfl (rE rfl <| rE rfl <| rE rfl <| rL (by simp) rfl <| rN) <| hO rfl <| hN), rfl, rfl, (roE rfl <| roE rfl <| roE rfl <| roE (Qp _ _ _) <| roN)⟩⟩
 ·obtain rfl := Qm h; exact (Frz.agg' (.cons (.p _) (.cons (.p _) (.cons (.p _) (.cons (Q0.frz_own (l := l15) rfl trivial (by simp)) .nil)))))
def Xm : Nat → Q0 → Option (Q0)
 | 0 => fun _ => none
 | N + 1 => Vt (Xm N) N
theorem Q3r {N} {v} {r} (h : Xm N v = some r) : Y9 Tryd.prog G1 15 [.agg (Q0.cells v)] (.agg (Q0.cells r)) := by
 induction N generalizing v r with
 | zero => simp [Xm] at h
 | succ N ih => exact Q3i (fun h => ih h) h
theorem Q39 {R_amqvalue_Copy : Q0 → Option (Q0)} (hR_amqvalue_Copy : ∀ {v} {r}, R_amqvalue_Copy v = some r → Y9 Tryd.prog G1 15 [.agg (Q0.cells v)] (.agg (Q0.cells r))) {N} {v} {r} (h : Vt R_amqvalue_Copy N v = some r) : GC Tryd.prog G1 15 (.p (.agg (Q0.cells v)) :: []) [] (.agg [.p (.int .i64 r.Kind), .p (.int .u64 r.N'), .p (.str r.Text), .slice 4 0 0 r.Items.length]) (.cells (Ud Q0.cells r.Items) :: []) := by
 refine Qes k15 (Nat.le_of_ble_eq_true rfl) ?_
 unfold Vt at h
 refine lpC (τ := Int × (List Q0)) (fun ⟨s14, _⟩ => (.any :: .any :: .ptr 1 0 :: .ptr 2 0 :: a8 (a2 (.p (.slice 4 (Q0.rows v.Items)) :: iI ((Q0.rows v.Items).length : Int) :: iI s14 :: a8 (a4 ([])))) : List AV)) (fun ⟨_, l15⟩ => (.cells (iI v.Kind :: iW v.N' :: iS v.Text :: .p (.slice 4 (Q0.rows v.Items)) :: []) :: .cells (iI 0 :: iW 0 :: iS [] :: .p .nilSlice :: []) :: .cells (iI v.Kind :: iW v.N' :: iS v.Text :: .slice 4 3 0 l15.length :: []) :: .cells (Ud Q0.cells l15) :: [] : List AObj)) (fun n0 ⟨s14, l15⟩ => Yn R_amqvalue_Copy N v n0 s14 l15) (0, []) h (fun i => i) ⟨(rW <| rE rfl <| rE rfl <| rX <| rW <| rE rfl <| rE rfl <| rE rfl <| rX <| rV <| rN), (hE rfl <| hE rfl <| hC rfl (rE rfl <| rE rfl <| rE rfl <| rS <| rN) <| hV lb <| hN), rfl, rfl, (roE rfl <| roE rfl <| roE rfl <| roE (Qp _ _ _) <| roN)⟩ fun n0 ⟨s14, l15⟩ h => ?_
 simp only [Yn] at h
 apply iU h <;> intro h
 ·refine Q0.xR h fun y17 h => ?_
  refine Qd ?_
  refine cD h hR_amqvalue_Copy (.cons q4 .nil) fun v19 h => ?_
  obtain ⟨hk21, h⟩ := Q81 h
  refine Q3m (V2 (c := Q0.cells) (e := 4) (fun _ => rfl) (by simp) hk21) ?_
  refine Uh (c := Q0.cells) [v19] rfl ?_
  show Exists _
  exact ⟨(n0, (IntKind.wrap .i64 (s14 + 1)), (l15 ++ [v19])), h, Nat.lt_succ_self _, (rho [0, 1, 2, 6]), ⟨(rW <| rE rfl <| rE rfl <| rX <| rW <| rE rfl <| rE rfl <| rE rfl <| rX <| rV <| rN), (hE rfl <| hE rfl <| hC rfl (rE rfl <| rE rfl <| rE rfl <| rL (by simp) rfl <| rN) <| hO rfl <| hN), rfl, rfl, (roE rfl <| roE rfl <| roE rfl <| roE (Qp _ _ _) <| roN)⟩⟩
 ·obtain rfl := Qm h
  show Exists _
  exact ⟨(rho [3]), ⟨(rG (rE rfl <| rE rfl <| rE rfl <| rE rfl <| rN) <| rN), (hO rfl <| hN), rfl, rfl, (roE (Qp _ _ _) <| roN)⟩⟩
theorem Q38 {N} {v} {r} (h : Xm N v = some r) : GC Tryd.prog G1 15 (.p (.agg (Q0.cells v)) :: []) [] (.agg [.p (.int .i64 r.Kind), .p (.int .u64 r.N'), .p (.str r.Text), .slice 4 0 0 r.Items.length]) (.cells (Ud Q0.cells r.Items) :: []) := by
 cases N with
 | zero => simp [Xm] at h
 | succ N => exact Q39 (fun h => Q3r h) h
def Qy (N : Nat) (l : List Q0) (v67 : Q0 × Int × Int) : Nat → Int → Int → Option (Bool)
 | 0, _, _ => none
 | n + 1, count99, i100 =>
  cond (Q5 .lss i100 ((Q0.rows l).length : Int))
  ((idx v67.1.Items i100).bind fun y102 =>
  (idx l i100).bind fun y104 =>
  (Yu N y102 y104).bind fun v106 =>
  cond (!v106)
  (some false)
  ((idx l i100).bind fun y109 =>
  (W1 N y109).bind fun v111 =>
  Qy N l v67 n (IntKind.wrap .i64 (count99 + v111)) (IntKind.wrap .i64 (i100 + 1))))
  ((Xm N v67.1).bind fun v113 =>
  (Yu N v113 v67.1).bind fun v115 =>
  cond (!v115)
  (some false)
  ((W1 N v67.1).bind fun v118 =>
  cond (Q5 .neq v118 count99)
  (some false)
  (cond (Q5 .gtr ((Q0.rows l).length : Int) 0)
  ((idx (v113.Items : List Q0) 0).bind fun y122 =>
  (idx v67.1.Items 0).bind fun y124 =>
  (idx l 0).bind fun y126 =>
  (Yu N y124 y126).bind fun v128 =>
  cond v128
  ((Yu N (⟨v113.Kind, v113.N', v113.Text, ((v113.Items : List Q0).set (Int.toNat 0) (⟨99, 0, [], []⟩ : Q0))⟩ : Q0) v67.1).bind fun v131 =>
  some (!v131))
  (some false))
  (some true))))
def Qz (N : Nat) (l : List Q0) : Nat → (List UInt8) → Int → Option (Bool)
 | 0, _, _ => none
 | n + 1, all41, i42 =>
  cond (Q5 .lss i42 ((Q0.rows l).length : Int))
  ((idx l i42).bind fun y44 =>
  (X3 N y44).bind fun v46 =>
  cond (!v46)
  (some true)
  ((idx l i42).bind fun y49 =>
  (Xg N y49).bind fun v51 =>
  cond (!v51)
  (some true)
  ((idx l i42).bind fun y54 =>
  (Xr N y54 8).bind fun v56 =>
  cond (Q5 .neq v56.2 0)
  (some true)
  (cond (Nat.ble (all41.length + v56.1.length) 4611686018427387904) (Qz N l n (all41 ++ v56.1) (IntKind.wrap .i64 (i42 + 1))) none))))
  ((Zg N (IntKind.wrap .u64 (IntKind.wrap .i64 ((all41.length : Int) + 4))) 4).bind fun v60 =>
  cond (Nat.ble ([208].length + v60.length) 4611686018427387904) ((Zg N (IntKind.wrap .u64 ((Q0.rows l).length : Int)) 4).bind fun v63 =>
  cond (Nat.ble (([208] ++ v60).length + v63.length) 4611686018427387904) (cond (Nat.ble ((([208] ++ v60) ++ v63).length + all41.length) 4611686018427387904) ((Zn N ((([208] ++ v60) ++ v63) ++ all41) 9).bind fun v67 =>
  cond (Q5 .neq v67.2.2 0)
  (some false)
  (cond (Q5 .neq v67.2.1 (IntKind.wrap .i64 ((IntKind.wrap .i64 ((all41.length : Int) + 4)) + 5)))
  (some false)
  (cond (Q5 .neq v67.1.Kind 22)
  (some false)
  (cond (Q5 .neq ((Q0.rows v67.1.Items).length : Int) ((Q0.rows l).length : Int))
  (some false)
  (Qy N l v67 N 1 0))))) none) none) none)
def Zu (N : Nat) (l : List Q0) : Option (Bool) :=
 (Xt N).bind fun v1 =>
 cond (!v1)
 (some false)
 (cond (Q5 .gtr ((Q0.rows l).length : Int) 12)
 (some true)
 (Qz N l N [] 0))
theorem J4 {N} {l} {r} (h : Zu N l = some r) : Y9 Tryd.prog G1 3 [.slice 4 (Q0.rows l)] (.bool r) := by
 refine Q6 k3 ?_
 unfold Zu at h
 refine cP h Q0k p0 fun v1 h => ?_
 apply iU h <;> intro h
 ·cases h; exact (.p _)
 ·apply iU h <;> intro h
  ·cases h; exact (.p _)
  ·refine lpC (τ := (List UInt8) × Int) (fun ⟨all41, i42⟩ => (.p (.slice 4 (Q0.rows l)) :: .any :: .any :: iS all41 :: iI i42 :: a16 (a16 (a16 (a16 (a16 (a16 (a16 (a16 (a16 ([]))))))))) : List AV)) (fun ⟨_, _⟩ => ([] : List AObj)) (fun n0 ⟨all41, i42⟩ => Qz N l n0 all41 i42) ([], 0) h (fun i => i) ⟨(rE rfl <| rW <| rE rfl <| rE rfl <| rX <| rX <| rX <| rX <| rX <| rX <| rX <| rX <| rX <| rX <| rX <| rX <| rX <| rX <| rX <| rX <| rX <| rX <| rN), (hN), rfl, rfl, (roN)⟩ fun n0 ⟨all41, i42⟩ h => ?_
   simp only [Qz] at h
   apply iU h <;> intro h
   ·refine Q0.xR h fun y44 h => ?_
    refine cP h G9 (.cons q4 .nil) fun v46 h => ?_
    apply iU h <;> intro h
    ·cases h; exact (.p _)
    ·refine Q0.xR h fun y49 h => ?_
     refine cP h Q01 (.cons q4 .nil) fun v51 h => ?_
     apply iU h <;> intro h
     ·cases h; exact (.p _)
     ·refine Q0.xR h fun y54 h => ?_
      refine cP h Q05 (.cons q4 p1) fun v56 h => ?_
      apply iU h <;> intro h
      ·cases h; exact (.p _)
      ·refine kU h fun h => ?_
       show Exists _
       exact ⟨(n0, (all41 ++ v56.1), (IntKind.wrap .i64 (i42 + 1))), h, Nat.lt_succ_self _, (fun i => i), ⟨(rE rfl <| rW <| rE rfl <| rE rfl <| rX <| rX <| rX <| rX <| rX <| rX <| rX <| rX <| rX <| rX <| rX <| rX <| rX <| rX <| rX <| rX <| rX <| rX <| rN), (hN), rfl, rfl, (roN)⟩⟩
   ·refine cP h Ys p2 fun v60 h => ?_
    refine kU h fun h => ?_
    refine cP h Ys p2 fun v63 h => ?_
    refine kU h fun h => ?_
    refine kU h fun h => ?_
    refine cP h Uu p2 fun v67 h => ?_
    apply iU h <;> intro h
    ·cases h; exact (.p _)
    ·apply iU h <;> intro h
     ·cases h; exact (.p _)
     ·apply iU h <;> intro h
      ·cases h; exact (.p _)
      ·apply iU h <;> intro h
       ·cases h; exact (.p _)
       ·refine lpC (τ := Int × Int) (fun ⟨count99, i100⟩ => (.p (.slice 4 (Q0.rows l)) :: a4 (a2 (.any :: .ptr 0 0 :: .any :: .any :: iI count99 :: iI i100 :: a16 (a16 (a16 (a16 (a16 (a16 (a16 (a16 (a8 ([]))))))))))) : List AV)) (fun ⟨_, _⟩ => (.cells (iI v67.1.Kind :: iW v67.1.N' :: iS v67.1.Text :: .p (.slice 4 (Q0.rows v67.1.Items)) :: []) :: [] : List AObj)) (fun n1 ⟨count99, i100⟩ => Qy N l v67 n1 count99 i100) (1, 0) h (fun i => i) ⟨(rE rfl <| rV <| rW <| rA <| rE rfl <| rW <| rE rfl <| rE rfl <| rX <| rX <| rX <| rX <| rX <| rX <| rX <| rX <| rX <| rX <| rX <| rX <| rX <| rX <| rX <| rX <| rX <| rN), (hE rfl <| hN), rfl, rfl, (roE rfl <| roN)⟩ fun n1 ⟨count99, i100⟩ h => ?_
        simp only [Qy] at h
        apply iU h <;> intro h
        ·refine Qd ?_
         refine Q0.xR h fun y102 h => ?_
         refine Q0.xR h fun y104 h => ?_
         refine cD h Vj (.cons q4 (.cons q4 .nil)) fun v106 h => ?_
         apply iU h <;> intro h
         ·cases h; exact (.p _)
         ·refine Q0.xR h fun y109 h => ?_
          refine cP h Gk (.cons q4 .nil) fun v111 h => ?_
          show Exists _
          exact ⟨(n1, (IntKind.wrap .i64 (count99 + v111)), (IntKind.wrap .i64 (i100 + 1))), h, Nat.lt_succ_self _, (fun i => i), ⟨(rE rfl <| rV <| rW <| rA <| rE rfl <| rW <| rE rfl <| rE rfl <| rX <| rX <| rX <| rX <| rX <| rX <| rX <| rX <| rX <| rX <| rX <| rX <| rX <| rX <| rX <| rX <| rX <| rN), (hE rfl <| hN), rfl, rfl, (roE rfl <| roN)⟩⟩
        ·refine cG h Q38 fun v113 h => ?_
         refine ⟨fun i => i, (.cells (iI v67.1.Kind :: iW v67.1.N' :: iS v67.1.Text :: .p (.slice 4 (Q0.rows v67.1.Items)) :: []) :: .cells (Ud Q0.cells v113.Items) :: []), .agg [iI v113.Kind, iW v113.N', iS v113.Text, .slice 4 1 0 v113.Items.length], ⟨(rF q4 <| rN), hN, rfl, rfl, roN, rfl, (fK rfl rfl <| fO 0 rfl rfl rfl <| fN), rfl⟩, ?_⟩
         refine cK h Vj (.cons (Frz.agg' (.cons (.p _) (.cons (.p _) (.cons (.p _) (.cons (Q0.frz_own (l := v113.Items) rfl trivial (by simp)) .nil))))) (.cons q4 .nil)) fun v115 h => ?_
         apply iU h <;> intro h
         ·cases h; exact (.p _)
         ·refine cP h Gk (.cons q4 .nil) fun v118 h => ?_
          apply iU h <;> intro h
          ·cases h; exact (.p _)
          ·apply iU h <;> intro h
           ·obtain ⟨y122, hy123, h⟩ := Q58 h
            refine Q3m (Qa9 hy123 (by simp)) ?_
            refine Q3m (Qcl (c := Q0.cells) (e := 4) (fun _ => rfl) hy123 (off := 0) (by omega) rfl (by decide)) ?_
            refine Qbf (c := Q0.cells) (e := 4) (fun _ => rfl) hy123 (⟨99, 0, [], []⟩ : Q0) (off := 0) (by first | omega | (simp only [Gf, orI, Qpb, Qan, Jq, Q21]; omega)) rfl (by simp) ?_
            refine Qd ?_
            refine Q0.xR h fun y124 h => ?_
            refine Q0.xR h fun y126 h => ?_
            refine cD h Vj (.cons q4 (.cons q4 .nil)) fun v128 h => ?_
            apply iU h <;> intro h
            ·refine dL h Vj [1] (.cons (Frz.agg' (.cons (.p _) (.cons (.p _) (.cons (.p _) (.cons (Q0.frz_own (l := ((v113.Items : List Q0).set (Int.toNat 0) (⟨99, 0, [], []⟩ : Q0))) rfl (by simp) (by simp)) .nil))))) (.cons q4 .nil)) fun v131 h => ?_
             cases h; exact (.p _)
            ·cases h; exact (.p _)
           ·cases h; exact (.p _)
end
end
end Go.Av
