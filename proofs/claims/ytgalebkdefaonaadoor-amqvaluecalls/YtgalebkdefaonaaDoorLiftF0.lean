/- The law. Part of a proof of a given statement: for every input the law returns true and the arguments read as before; no condition beyond the given row. -/
import Derived.Test.YtgalebkdefaonaaDoorLiftTy
import Derived.Test.YtgalebkdefaonaaDoorChks
import Derived.Test.YtgalebkdefaonaaDoorSeat1
import Derived.Test.YtgalebkdefaonaaDoorLiftG
import Derived.Test.YtgalebkdefaonaaDoorMan16
import Derived.Test.YtgalebkdefaonaaDoorMan16b
namespace Go.Av
noncomputable section
open Go.Proofs
set_option maxRecDepth 100000
set_option maxHeartbeats 4000000
attribute [local irreducible] dcallP CallsA LoopA DrawA cmpI cmpS
section
def Fapbits (_N : Nat) (kind : Int) : Option (Int × Bool) :=
 cond (cmpI .eql kind 2)
 (some (1, false))
 (cond (cmpI .eql kind 3)
 (some (8, false))
 (cond (cmpI .eql kind 4)
 (some (16, false))
 (cond (cmpI .eql kind 5)
 (some (32, false))
 (cond (cmpI .eql kind 11)
 (some (32, false))
 (cond (cmpI .eql kind 13)
 (some (32, false))
 (cond (cmpI .eql kind 16)
 (some (32, false))
 (cond (cmpI .eql kind 6)
 (some (64, false))
 (cond (cmpI .eql kind 12)
 (some (64, false))
 (cond (cmpI .eql kind 14)
 (some (64, false))
 (cond (cmpI .eql kind 7)
 (some (8, true))
 (cond (cmpI .eql kind 8)
 (some (16, true))
 (cond (cmpI .eql kind 9)
 (some (32, true))
 (cond (cmpI .eql kind 10)
 (some (64, true))
 (cond (cmpI .eql kind 17)
 (some (64, true))
 (some (0, false))))))))))))))))
theorem Fapbits_ok {N : Nat} {kind : Int} {r : Int × Bool} (h : Fapbits N kind = some r) : Pure Tryd.prog G1 59 [.int .i64 kind] (.tuple [.int .i64 r.1, .bool r.2]) := by
 refine pure_of_ev k59 ?_
 unfold Fapbits at h
 refine ifO h (fun hc1 h => ?_) (fun hc1 h => ?_)
 ·obtain rfl := someO h
  exact (Frz.tuple' (.cons (.p _) (.cons (.p _) .nil)))
 ·refine ifO h (fun hc2 h => ?_) (fun hc2 h => ?_)
  ·obtain rfl := someO h
   exact (Frz.tuple' (.cons (.p _) (.cons (.p _) .nil)))
  ·refine ifO h (fun hc3 h => ?_) (fun hc3 h => ?_)
   ·obtain rfl := someO h
    exact (Frz.tuple' (.cons (.p _) (.cons (.p _) .nil)))
   ·refine ifO h (fun hc4 h => ?_) (fun hc4 h => ?_)
    ·refine ifT hc4 ?_
     obtain rfl := someO h
     exact (Frz.tuple' (.cons (.p _) (.cons (.p _) .nil)))
    ·refine ifO h (fun hc5 h => ?_) (fun hc5 h => ?_)
     ·refine ifT hc5 ?_
      obtain rfl := someO h
      exact (Frz.tuple' (.cons (.p _) (.cons (.p _) .nil)))
     ·refine ifO h (fun hc6 h => ?_) (fun hc6 h => ?_)
      ·refine ifT hc6 ?_
       obtain rfl := someO h
       exact (Frz.tuple' (.cons (.p _) (.cons (.p _) .nil)))
      ·refine ifO h (fun hc7 h => ?_) (fun hc7 h => ?_)
       ·obtain rfl := someO h
        exact (Frz.tuple' (.cons (.p _) (.cons (.p _) .nil)))
       ·refine ifO h (fun hc8 h => ?_) (fun hc8 h => ?_)
        ·refine ifT hc8 ?_
         obtain rfl := someO h
         exact (Frz.tuple' (.cons (.p _) (.cons (.p _) .nil)))
        ·refine ifO h (fun hc9 h => ?_) (fun hc9 h => ?_)
         ·refine ifT hc9 ?_
          obtain rfl := someO h
          exact (Frz.tuple' (.cons (.p _) (.cons (.p _) .nil)))
         ·refine ifO h (fun hc10 h => ?_) (fun hc10 h => ?_)
          ·obtain rfl := someO h
           exact (Frz.tuple' (.cons (.p _) (.cons (.p _) .nil)))
          ·refine ifO h (fun hc11 h => ?_) (fun hc11 h => ?_)
           ·obtain rfl := someO h
            exact (Frz.tuple' (.cons (.p _) (.cons (.p _) .nil)))
           ·refine ifO h (fun hc12 h => ?_) (fun hc12 h => ?_)
            ·obtain rfl := someO h
             exact (Frz.tuple' (.cons (.p _) (.cons (.p _) .nil)))
            ·refine ifO h (fun hc13 h => ?_) (fun hc13 h => ?_)
             ·obtain rfl := someO h
              exact (Frz.tuple' (.cons (.p _) (.cons (.p _) .nil)))
             ·refine ifO h (fun hc14 h => ?_) (fun hc14 h => ?_)
              ·refine ifT hc14 ?_
               obtain rfl := someO h
               exact (Frz.tuple' (.cons (.p _) (.cons (.p _) .nil)))
              ·refine ifO h (fun hc15 h => ?_) (fun hc15 h => ?_)
               ·obtain rfl := someO h
                exact (Frz.tuple' (.cons (.p _) (.cons (.p _) .nil)))
               ·obtain rfl := someO h
                exact (Frz.tuple' (.cons (.p _) (.cons (.p _) .nil)))
def FapfitsBits (_N : Nat) (n_0 : Int) (bits : Int) (signed : Bool) : Option (Bool) :=
 cond signed
 (cond (decide (0 ≤ (IntKind.wrap .i64 (bits - 1)))) (cond (cmpI .geq (IntKind.wrap .i64 n_0) (shlI .i64 (-1) (IntKind.wrap .i64 (bits - 1))))
 (some (cmpI .leq (IntKind.wrap .i64 n_0) (IntKind.wrap .i64 (0 - (IntKind.wrap .i64 ((shlI .i64 (-1) (IntKind.wrap .i64 (bits - 1))) + 1))))))
 (some false)) none)
 (cond (cmpI .eql bits 64)
 (some true)
 (cond (decide (0 ≤ bits)) (some (cmpI .eql (shrI .u64 n_0 bits) 0)) none))
theorem FapfitsBits_ok {N : Nat} {n_0 : Int} {bits : Int} {signed : Bool} {r : Bool} (h : FapfitsBits N n_0 bits signed = some r) : Pure Tryd.prog G1 60 [.int .u64 n_0, .int .i64 bits, .bool signed] (.bool r) := by
 refine pure_of_ev k60 ?_
 unfold FapfitsBits at h
 refine ifO h (fun hc1 h => ?_) (fun hc1 h => ?_)
 ·obtain ⟨hk2, h⟩ := chkO h
  refine chkP hk2 ?_
  refine ifO h (fun hc3 h => ?_) (fun hc3 h => ?_)
  ·obtain rfl := someO h
   exact (.p _)
  ·obtain rfl := someO h
   exact (.p _)
 ·refine ifO h (fun hc4 h => ?_) (fun hc4 h => ?_)
  ·obtain rfl := someO h
   exact (.p _)
  ·obtain ⟨hk5, h⟩ := chkO h
   refine chkP hk5 ?_
   obtain rfl := someO h
   exact (.p _)
def F_unicode_utf8_ValidRune (_N : Nat) (r_0 : Int) : Option (Bool) :=
 cond (cmpI .leq 0 r_0)
 (cond (cmpI .lss r_0 55296)
 (some true)
 (cond (cmpI .lss 57343 r_0)
 (cond (cmpI .leq r_0 1114111)
 (some true)
 (some false))
 (some false)))
 (cond (cmpI .lss 57343 r_0)
 (cond (cmpI .leq r_0 1114111)
 (some true)
 (some false))
 (some false))
theorem F_unicode_utf8_ValidRune_ok {N : Nat} {r_0 : Int} {r : Bool} (h : F_unicode_utf8_ValidRune N r_0 = some r) : Pure Tryd.prog G1 101 [.int .i32 r_0] (.bool r) := by
 refine pure_of_ev k101 ?_
 unfold F_unicode_utf8_ValidRune at h
 refine ifO h (fun hc1 h => ?_) (fun hc1 h => ?_)
 ·refine ifO h (fun hc2 h => ?_) (fun hc2 h => ?_)
  ·obtain rfl := someO h
   exact (.p _)
  ·refine ifO h (fun hc3 h => ?_) (fun hc3 h => ?_)
   ·refine ifO h (fun hc4 h => ?_) (fun hc4 h => ?_)
    ·obtain rfl := someO h
     exact (.p _)
    ·obtain rfl := someO h
     exact (.p _)
   ·obtain rfl := someO h
    exact (.p _)
 ·refine ifO h (fun hc5 h => ?_) (fun hc5 h => ?_)
  ·refine ifO h (fun hc6 h => ?_) (fun hc6 h => ?_)
   ·obtain rfl := someO h
    exact (.p _)
   ·obtain rfl := someO h
    exact (.p _)
  ·obtain rfl := someO h
   exact (.p _)
def FapcodePoint (N : Nat) (n_0 : Int) : Option (Bool) :=
 cond (cmpI .leq n_0 1114111)
 ((F_unicode_utf8_ValidRune N (IntKind.wrap .i32 n_0)).bind fun v2 =>
 some v2)
 (some false)
theorem FapcodePoint_ok {N : Nat} {n_0 : Int} {r : Bool} (h : FapcodePoint N n_0 = some r) : Pure Tryd.prog G1 61 [.int .u64 n_0] (.bool r) := by
 refine pure_of_ev k61 ?_
 unfold FapcodePoint at h
 refine ifO h (fun hc1 h => ?_) (fun hc1 h => ?_)
 ·obtain ⟨v2, hv3, h⟩ := bindO h
  refine call_pure (F_unicode_utf8_ValidRune_ok hv3) (.cons (.p _) .nil) ?_
  obtain rfl := someO h
  exact (.p _)
 ·obtain rfl := someO h
  exact (.p _)
def Faptextual (_N : Nat) (kind : Int) : Option (Bool) :=
 cond (cmpI .eql kind 15)
 (some true)
 (cond (cmpI .eql kind 18)
 (some true)
 (cond (cmpI .eql kind 19)
 (some true)
 (cond (cmpI .eql kind 20)
 (some true)
 (cond (cmpI .eql kind 21)
 (some true)
 (some false)))))
theorem Faptextual_ok {N : Nat} {kind : Int} {r : Bool} (h : Faptextual N kind = some r) : Pure Tryd.prog G1 62 [.int .i64 kind] (.bool r) := by
 refine pure_of_ev k62 ?_
 unfold Faptextual at h
 refine ifO h (fun hc1 h => ?_) (fun hc1 h => ?_)
 ·refine ifT hc1 ?_
  obtain rfl := someO h
  exact (.p _)
 ·refine ifO h (fun hc2 h => ?_) (fun hc2 h => ?_)
  ·refine ifT hc2 ?_
   obtain rfl := someO h
   exact (.p _)
  ·refine ifO h (fun hc3 h => ?_) (fun hc3 h => ?_)
   ·refine ifT hc3 ?_
    obtain rfl := someO h
    exact (.p _)
   ·refine ifO h (fun hc4 h => ?_) (fun hc4 h => ?_)
    ·refine ifT hc4 ?_
     obtain rfl := someO h
     exact (.p _)
    ·refine ifO h (fun hc5 h => ?_) (fun hc5 h => ?_)
     ·obtain rfl := someO h
      exact (.p _)
     ·obtain rfl := someO h
      exact (.p _)
def F_unicode_utf8_word_string (_N : Nat) (s_0 : List UInt8) : Option (Int) :=
 (idx s_0 0).bind fun b1 =>
 (idx s_0 1).bind fun b3 =>
 (idx s_0 2).bind fun b5 =>
 (idx s_0 3).bind fun b7 =>
 (idx s_0 4).bind fun b9 =>
 (idx s_0 5).bind fun b11 =>
 (idx s_0 6).bind fun b13 =>
 (idx s_0 7).bind fun b15 =>
 some (orI .u64 (orI .u64 (orI .u64 (orI .u64 (orI .u64 (orI .u64 (orI .u64 (IntKind.wrap .u64 (b1.toNat : Int)) (shlI .u64 (IntKind.wrap .u64 (b3.toNat : Int)) 8)) (shlI .u64 (IntKind.wrap .u64 (b5.toNat : Int)) 16)) (shlI .u64 (IntKind.wrap .u64 (b7.toNat : Int)) 24)) (shlI .u64 (IntKind.wrap .u64 (b9.toNat : Int)) 32)) (shlI .u64 (IntKind.wrap .u64 (b11.toNat : Int)) 40)) (shlI .u64 (IntKind.wrap .u64 (b13.toNat : Int)) 48)) (shlI .u64 (IntKind.wrap .u64 (b15.toNat : Int)) 56))
theorem F_unicode_utf8_word_string_ok {N : Nat} {s_0 : List UInt8} {r : Int} (h : F_unicode_utf8_word_string N s_0 = some r) : Pure Tryd.prog G1 124 [.str s_0] (.int .u64 r) := by
 refine pure_of_ev k124 ?_
 unfold F_unicode_utf8_word_string at h
 refine draw_rule ?_
 obtain ⟨b1, hy2, h⟩ := bindO h
 refine idxP (x := b1) hy2 ?_
 obtain ⟨b3, hy4, h⟩ := bindO h
 refine idxP (x := b3) hy4 ?_
 obtain ⟨b5, hy6, h⟩ := bindO h
 refine idxP (x := b5) hy6 ?_
 obtain ⟨b7, hy8, h⟩ := bindO h
 refine idxP (x := b7) hy8 ?_
 obtain ⟨b9, hy10, h⟩ := bindO h
 refine idxP (x := b9) hy10 ?_
 obtain ⟨b11, hy12, h⟩ := bindO h
 refine idxP (x := b11) hy12 ?_
 obtain ⟨b13, hy14, h⟩ := bindO h
 refine idxP (x := b13) hy14 ?_
 obtain ⟨b15, hy16, h⟩ := bindO h
 refine idxP (x := b15) hy16 ?_
 obtain rfl := someO h
 exact (.p _)
def F_unicode_utf8_ValidString_L1 (N : Nat) (k0 : (List UInt8) → Option (Bool)) : Nat → (List UInt8) → Option (Bool)
 | 0, _ => none
 | n + 1, s272 =>
  cond (cmpI .gtr (s272.length : Int) 32)
  ((F_unicode_utf8_word_string N s272).bind fun v274 =>
  cond (Nat.ble 8 s272.length && Nat.ble s272.length s272.length) ((F_unicode_utf8_word_string N ((s272.take s272.length).drop 8)).bind fun v277 =>
  cond (Nat.ble 16 s272.length && Nat.ble s272.length s272.length) ((F_unicode_utf8_word_string N ((s272.take s272.length).drop 16)).bind fun v280 =>
  cond (Nat.ble 24 s272.length && Nat.ble s272.length s272.length) ((F_unicode_utf8_word_string N ((s272.take s272.length).drop 24)).bind fun v283 =>
  cond (cmpI .eql (andI .u64 (orI .u64 (orI .u64 v274 v277) (orI .u64 v280 v283)) 9259542123273814144) 0)
  (cond (Nat.ble 32 s272.length && Nat.ble s272.length s272.length) (F_unicode_utf8_ValidString_L1 N k0 n ((s272.take s272.length).drop 32)) none)
  (k0 s272)) none) none) none)
  (k0 s272)
def F_unicode_utf8_ValidString_L0 (N : Nat) : Nat → (List UInt8) → Option (Bool)
 | 0, _ => none
 | n + 1, s224 =>
  cond (cmpI .gtr (s224.length : Int) 0)
  ((idx s224 0).bind fun b226 =>
  cond (cmpI .lss (b226.toNat : Int) 128)
  (cond (Nat.ble 1 s224.length && Nat.ble s224.length s224.length) (cond (cmpI .gtr (((s224.take s224.length).drop 1).length : Int) 8)
  ((F_unicode_utf8_word_string N ((s224.take s224.length).drop 1)).bind fun v231 =>
  cond (cmpI .eql (andI .u64 v231 9259542123273814144) 0)
  (cond (Nat.ble 8 (((s224.take s224.length).drop 1).length) && Nat.ble (((s224.take s224.length).drop 1).length) ((s224.take s224.length).drop 1).length) (cond (cmpI .gtr (((((s224.take s224.length).drop 1).take (((s224.take s224.length).drop 1).length)).drop 8).length : Int) 16)
  ((F_unicode_utf8_word_string N ((((s224.take s224.length).drop 1).take (((s224.take s224.length).drop 1).length)).drop 8)).bind fun v236 =>
  cond (Nat.ble 8 (((((s224.take s224.length).drop 1).take (((s224.take s224.length).drop 1).length)).drop 8).length) && Nat.ble (((((s224.take s224.length).drop 1).take (((s224.take s224.length).drop 1).length)).drop 8).length) ((((s224.take s224.length).drop 1).take (((s224.take s224.length).drop 1).length)).drop 8).length) ((F_unicode_utf8_word_string N ((((((s224.take s224.length).drop 1).take (((s224.take s224.length).drop 1).length)).drop 8).take (((((s224.take s224.length).drop 1).take (((s224.take s224.length).drop 1).length)).drop 8).length)).drop 8)).bind fun v239 =>
  cond (cmpI .eql (andI .u64 (orI .u64 v236 v239) 9259542123273814144) 0)
  (cond (Nat.ble 16 (((((s224.take s224.length).drop 1).take (((s224.take s224.length).drop 1).length)).drop 8).length) && Nat.ble (((((s224.take s224.length).drop 1).take (((s224.take s224.length).drop 1).length)).drop 8).length) ((((s224.take s224.length).drop 1).take (((s224.take s224.length).drop 1).length)).drop 8).length) (F_unicode_utf8_ValidString_L1 N (F_unicode_utf8_ValidString_L0 N n) N ((((((s224.take s224.length).drop 1).take (((s224.take s224.length).drop 1).length)).drop 8).take (((((s224.take s224.length).drop 1).take (((s224.take s224.length).drop 1).length)).drop 8).length)).drop 16)) none)
  (F_unicode_utf8_ValidString_L0 N n ((((s224.take s224.length).drop 1).take (((s224.take s224.length).drop 1).length)).drop 8))) none)
  (F_unicode_utf8_ValidString_L0 N n ((((s224.take s224.length).drop 1).take (((s224.take s224.length).drop 1).length)).drop 8))) none)
  (F_unicode_utf8_ValidString_L0 N n ((s224.take s224.length).drop 1)))
  (F_unicode_utf8_ValidString_L0 N n ((s224.take s224.length).drop 1))) none)
  ((idx gtab0 (b226.toNat : Int)).bind fun y287 =>
  (idx gtab1 (shrI .u8 y287 4)).bind fun y289 =>
  cond (cmpI .eql (IntKind.wrap .i64 (andI .u8 y287 7)) 2)
  (cond (cmpI .lss (s224.length : Int) 2)
  (some false)
  ((idx s224 1).bind fun b293 =>
  cond (cmpI .lss (b293.toNat : Int) y289.1)
  (some false)
  ((idx s224 1).bind fun b296 =>
  cond (cmpI .lss y289.2 (b296.toNat : Int))
  (some false)
  (cond (Nat.ble 2 s224.length && Nat.ble s224.length s224.length) (F_unicode_utf8_ValidString_L0 N n ((s224.take s224.length).drop 2)) none))))
  (cond (cmpI .eql (IntKind.wrap .i64 (andI .u8 y287 7)) 3)
  (cond (cmpI .lss (s224.length : Int) 3)
  (some false)
  ((idx s224 1).bind fun b302 =>
  cond (cmpI .lss (b302.toNat : Int) y289.1)
  (some false)
  ((idx s224 1).bind fun b305 =>
  cond (cmpI .lss y289.2 (b305.toNat : Int))
  (some false)
  ((idx s224 2).bind fun b308 =>
  cond (cmpI .lss (b308.toNat : Int) 128)
  (some false)
  ((idx s224 2).bind fun b311 =>
  cond (cmpI .lss 191 (b311.toNat : Int))
  (some false)
  (cond (Nat.ble 3 s224.length && Nat.ble s224.length s224.length) (F_unicode_utf8_ValidString_L0 N n ((s224.take s224.length).drop 3)) none))))))
  (cond (cmpI .eql (IntKind.wrap .i64 (andI .u8 y287 7)) 4)
  (cond (cmpI .lss (s224.length : Int) 4)
  (some false)
  ((idx s224 1).bind fun b317 =>
  cond (cmpI .lss (b317.toNat : Int) y289.1)
  (some false)
  ((idx s224 1).bind fun b320 =>
  cond (cmpI .lss y289.2 (b320.toNat : Int))
  (some false)
  ((idx s224 2).bind fun b323 =>
  cond (cmpI .lss (b323.toNat : Int) 128)
  (some false)
  ((idx s224 2).bind fun b326 =>
  cond (cmpI .lss 191 (b326.toNat : Int))
  (some false)
  ((idx s224 3).bind fun b329 =>
  cond (cmpI .lss (b329.toNat : Int) 128)
  (some false)
  ((idx s224 3).bind fun b332 =>
  cond (cmpI .lss 191 (b332.toNat : Int))
  (some false)
  (cond (Nat.ble 4 s224.length && Nat.ble s224.length s224.length) (F_unicode_utf8_ValidString_L0 N n ((s224.take s224.length).drop 4)) none))))))))
  (some false)))))
  (some true)
def F_unicode_utf8_ValidString (N : Nat) (s_0 : List UInt8) : Option (Bool) :=
 F_unicode_utf8_ValidString_L0 N N s_0
theorem F_unicode_utf8_ValidString_ok {N : Nat} {s_0 : List UInt8} {r : Bool} (h : F_unicode_utf8_ValidString N s_0 = some r) : Pure Tryd.prog G1 102 [.str s_0] (.bool r) := by
 refine pure_of_ev k102 ?_
 unfold F_unicode_utf8_ValidString at h
 refine loop_ren (σ := Nat × (List UInt8)) (fun s => (.p (.str s.2) :: a16 (a16 (a16 (a16 (a16 (a16 (a16 (a16 (a16 (a16 (a8 ([]))))))))))) : List AV)) (fun s => ([] : List AObj)) (fun s => F_unicode_utf8_ValidString_L0 N s.1 s.2 = some r) (fun s => s.1) (N, s_0) h ⟨(fun i => i), ⟨(rJ <| trivial), (hN), rfl, rfl, (roN)⟩⟩ (fun _ _ => Nat.le_of_ble_eq_true rfl) ?_
 rintro ⟨n0, s224⟩ h
 rcases n0 with _ | n0
 ·simp [F_unicode_utf8_ValidString_L0] at h
 simp only [F_unicode_utf8_ValidString_L0] at h
 show ev (EP _ _) _ (.p (.str s224) :: a16 (a16 (a16 (a16 (a16 (a16 (a16 (a16 (a16 (a16 (a8 ([])))))))))))) ([]) _
 refine ifO h (fun hc225 h => ?_) (fun hc225 h => ?_)
 ·obtain ⟨b226, hy227, h⟩ := bindO h
  refine idxP (x := b226) hy227 ?_
  refine ifO h (fun hc228 h => ?_) (fun hc228 h => ?_)
  ·obtain ⟨hk229, h⟩ := chkO h
   refine chkP hk229 ?_
   refine ifO h (fun hc230 h => ?_) (fun hc230 h => ?_)
   ·obtain ⟨v231, hv232, h⟩ := bindO h
    refine call_pure (F_unicode_utf8_word_string_ok hv232) (.cons (.p _) .nil) ?_
    refine ifO h (fun hc233 h => ?_) (fun hc233 h => ?_)
    ·obtain ⟨hk234, h⟩ := chkO h
     refine chkP hk234 ?_
     refine draw_rule ?_
     refine ifO h (fun hc235 h => ?_) (fun hc235 h => ?_)
     ·obtain ⟨v236, hv237, h⟩ := bindO h
      refine dcall_pure (F_unicode_utf8_word_string_ok hv237) (.cons (.p _) .nil) ?_
      obtain ⟨hk238, h⟩ := chkO h
      refine chkP hk238 ?_
      obtain ⟨v239, hv240, h⟩ := bindO h
      refine dcall_pure (F_unicode_utf8_word_string_ok hv240) (.cons (.p _) .nil) ?_
      refine ifO h (fun hc241 h => ?_) (fun hc241 h => ?_)
      ·obtain ⟨hk242, h⟩ := chkO h
       refine chkP hk242 ?_
       refine loop_ren (σ := Nat × (List UInt8)) (fun s => (.p (.str s.2) :: a16 (a16 (a16 (a16 (a16 (a16 (a16 (a16 (a16 (a16 (a8 ([]))))))))))) : List AV)) (fun s => ([] : List AObj)) (fun s => F_unicode_utf8_ValidString_L1 N (F_unicode_utf8_ValidString_L0 N n0) s.1 s.2 = some r) (fun s => s.1) (N, ((((((s224.take s224.length).drop 1).take (((s224.take s224.length).drop 1).length)).drop 8).take (((((s224.take s224.length).drop 1).take (((s224.take s224.length).drop 1).length)).drop 8).length)).drop 16)) h ⟨(fun i => i), ⟨(rJ <| trivial), (hN), rfl, rfl, (roN)⟩⟩ (fun _ _ => Nat.le_of_ble_eq_true rfl) ?_
       rintro ⟨n1, s272⟩ h
       rcases n1 with _ | n1
       ·simp [F_unicode_utf8_ValidString_L1] at h
       simp only [F_unicode_utf8_ValidString_L1] at h
       show ev (EP _ _) _ (.p (.str s272) :: a16 (a16 (a16 (a16 (a16 (a16 (a16 (a16 (a16 (a16 (a8 ([])))))))))))) ([]) _
       refine draw_rule ?_
       refine ifO h (fun hc273 h => ?_) (fun hc273 h => ?_)
       ·obtain ⟨v274, hv275, h⟩ := bindO h
        refine dcall_pure (F_unicode_utf8_word_string_ok hv275) (.cons (.p _) .nil) ?_
        obtain ⟨hk276, h⟩ := chkO h
        refine chkP hk276 ?_
        obtain ⟨v277, hv278, h⟩ := bindO h
        refine dcall_pure (F_unicode_utf8_word_string_ok hv278) (.cons (.p _) .nil) ?_
        obtain ⟨hk279, h⟩ := chkO h
        refine chkP hk279 ?_
        obtain ⟨v280, hv281, h⟩ := bindO h
        refine dcall_pure (F_unicode_utf8_word_string_ok hv281) (.cons (.p _) .nil) ?_
        obtain ⟨hk282, h⟩ := chkO h
        refine chkP hk282 ?_
        obtain ⟨v283, hv284, h⟩ := bindO h
        refine dcall_pure (F_unicode_utf8_word_string_ok hv284) (.cons (.p _) .nil) ?_
        refine ifO h (fun hc285 h => ?_) (fun hc285 h => ?_)
        ·obtain ⟨hk286, h⟩ := chkO h
         refine chkP hk286 ?_
         show Exists _
         exact ⟨(n1, ((s272.take s272.length).drop 32)), h, Nat.lt_succ_self _, (fun i => i), ⟨(rJ <| trivial), (hN), rfl, rfl, (roN)⟩⟩
        ·show Exists _
         exact ⟨(n0, s272), h, Nat.lt_succ_self _, (fun i => i), ⟨(rJ <| trivial), (hN), rfl, rfl, (roN)⟩⟩
       ·show Exists _
        exact ⟨(n0, s272), h, Nat.lt_succ_self _, (fun i => i), ⟨(rJ <| trivial), (hN), rfl, rfl, (roN)⟩⟩
      ·show Exists _
       exact ⟨(n0, ((((s224.take s224.length).drop 1).take (((s224.take s224.length).drop 1).length)).drop 8)), h, Nat.lt_succ_self _, (fun i => i), ⟨(rJ <| trivial), (hN), rfl, rfl, (roN)⟩⟩
     ·show Exists _
      exact ⟨(n0, ((((s224.take s224.length).drop 1).take (((s224.take s224.length).drop 1).length)).drop 8)), h, Nat.lt_succ_self _, (fun i => i), ⟨(rJ <| trivial), (hN), rfl, rfl, (roN)⟩⟩
    ·show Exists _
     exact ⟨(n0, ((s224.take s224.length).drop 1)), h, Nat.lt_succ_self _, (fun i => i), ⟨(rJ <| trivial), (hN), rfl, rfl, (roN)⟩⟩
   ·show Exists _
    exact ⟨(n0, ((s224.take s224.length).drop 1)), h, Nat.lt_succ_self _, (fun i => i), ⟨(rJ <| trivial), (hN), rfl, rfl, (roN)⟩⟩
  ·obtain ⟨y287, hy288, h⟩ := bindO h
   refine chkP (idx_chk hy288 gtab0_len) ?_
   refine globIdx (c := (cI .u8)) (e := 1) (fun _ => rfl) gtab0_eq hy288 (off := 0) (by decide) (by first | omega | (simp only [andI, orI, xorI, andNotI, shlI, shrI]; omega)) ?_
   obtain ⟨y289, hy290, h⟩ := bindO h
   refine chkP (idx_chk hy290 gtab1_len) ?_
   refine globIdx (c := cUU) (e := 2) (fun _ => rfl) gtab1_eq hy290 (off := 0) (by decide) (by first | omega | (simp only [andI, orI, xorI, andNotI, shlI, shrI]; omega)) ?_
   refine ifO h (fun hc291 h => ?_) (fun hc291 h => ?_)
   ·refine draw_rule ?_
    refine ifO h (fun hc292 h => ?_) (fun hc292 h => ?_)
    ·obtain rfl := someO h
     exact (.p _)
    ·obtain ⟨b293, hy294, h⟩ := bindO h
     refine idxP (x := b293) hy294 ?_
     refine ifO h (fun hc295 h => ?_) (fun hc295 h => ?_)
     ·obtain rfl := someO h
      exact (.p _)
     ·obtain ⟨b296, hy297, h⟩ := bindO h
      refine idxP (x := b296) hy297 ?_
      refine ifO h (fun hc298 h => ?_) (fun hc298 h => ?_)
      ·obtain rfl := someO h
       exact (.p _)
      ·obtain ⟨hk299, h⟩ := chkO h
       refine chkP hk299 ?_
       show Exists _
       exact ⟨(n0, ((s224.take s224.length).drop 2)), h, Nat.lt_succ_self _, (fun i => i), ⟨(rJ <| trivial), (hN), rfl, rfl, (roN)⟩⟩
   ·refine ifO h (fun hc300 h => ?_) (fun hc300 h => ?_)
    ·refine draw_rule ?_
     refine ifO h (fun hc301 h => ?_) (fun hc301 h => ?_)
     ·obtain rfl := someO h
      exact (.p _)
     ·obtain ⟨b302, hy303, h⟩ := bindO h
      refine idxP (x := b302) hy303 ?_
      refine ifO h (fun hc304 h => ?_) (fun hc304 h => ?_)
      ·obtain rfl := someO h
       exact (.p _)
      ·obtain ⟨b305, hy306, h⟩ := bindO h
       refine idxP (x := b305) hy306 ?_
       refine ifO h (fun hc307 h => ?_) (fun hc307 h => ?_)
       ·obtain rfl := someO h
        exact (.p _)
       ·obtain ⟨b308, hy309, h⟩ := bindO h
        refine idxP (x := b308) hy309 ?_
        refine ifO h (fun hc310 h => ?_) (fun hc310 h => ?_)
        ·obtain rfl := someO h
         exact (.p _)
        ·obtain ⟨b311, hy312, h⟩ := bindO h
         refine idxP (x := b311) hy312 ?_
         refine ifO h (fun hc313 h => ?_) (fun hc313 h => ?_)
         ·obtain rfl := someO h
          exact (.p _)
         ·obtain ⟨hk314, h⟩ := chkO h
          refine chkP hk314 ?_
          show Exists _
          exact ⟨(n0, ((s224.take s224.length).drop 3)), h, Nat.lt_succ_self _, (fun i => i), ⟨(rJ <| trivial), (hN), rfl, rfl, (roN)⟩⟩
    ·refine ifO h (fun hc315 h => ?_) (fun hc315 h => ?_)
     ·refine draw_rule ?_
      refine ifO h (fun hc316 h => ?_) (fun hc316 h => ?_)
      ·obtain rfl := someO h
       exact (.p _)
      ·obtain ⟨b317, hy318, h⟩ := bindO h
       refine idxP (x := b317) hy318 ?_
       refine ifO h (fun hc319 h => ?_) (fun hc319 h => ?_)
       ·obtain rfl := someO h
        exact (.p _)
       ·obtain ⟨b320, hy321, h⟩ := bindO h
        refine idxP (x := b320) hy321 ?_
        refine ifO h (fun hc322 h => ?_) (fun hc322 h => ?_)
        ·obtain rfl := someO h
         exact (.p _)
        ·obtain ⟨b323, hy324, h⟩ := bindO h
         refine idxP (x := b323) hy324 ?_
         refine ifO h (fun hc325 h => ?_) (fun hc325 h => ?_)
         ·obtain rfl := someO h
          exact (.p _)
         ·obtain ⟨b326, hy327, h⟩ := bindO h
          refine idxP (x := b326) hy327 ?_
          refine ifO h (fun hc328 h => ?_) (fun hc328 h => ?_)
          ·obtain rfl := someO h
           exact (.p _)
          ·obtain ⟨b329, hy330, h⟩ := bindO h
           refine idxP (x := b329) hy330 ?_
           refine ifO h (fun hc331 h => ?_) (fun hc331 h => ?_)
           ·obtain rfl := someO h
            exact (.p _)
           ·obtain ⟨b332, hy333, h⟩ := bindO h
            refine idxP (x := b332) hy333 ?_
            refine ifO h (fun hc334 h => ?_) (fun hc334 h => ?_)
            ·obtain rfl := someO h
             exact (.p _)
            ·obtain ⟨hk335, h⟩ := chkO h
             refine chkP hk335 ?_
             show Exists _
             exact ⟨(n0, ((s224.take s224.length).drop 4)), h, Nat.lt_succ_self _, (fun i => i), ⟨(rJ <| trivial), (hN), rfl, rfl, (roN)⟩⟩
     ·obtain rfl := someO h
      exact (.p _)
 ·obtain rfl := someO h
  exact (.p _)
def Faptext_L0 (N : Nat) (v : SValue) : Nat → Int → Option (Int)
 | 0, _ => none
 | n + 1, s15 =>
  cond (cmpI .lss s15 (v.Text.length : Int))
  ((idx v.Text s15).bind fun b17 =>
  cond (cmpI .geq (b17.toNat : Int) 128)
  (some 6)
  (Faptext_L0 N v n (IntKind.wrap .i64 (s15 + 1))))
  (some 0)
def Faptext (N : Nat) (v : SValue) : Option (Int) :=
 cond (cmpI .eql v.Kind 20)
 ((F_unicode_utf8_ValidString N v.Text).bind fun v2 =>
 cond (!v2)
 (some 6)
 (some 0))
 (cond (cmpI .eql v.Kind 21)
 (Faptext_L0 N v N 0)
 (some 0))
theorem Faptext_ok {N : Nat} {v : SValue} {r : Int} (h : Faptext N v = some r) : Pure Tryd.prog G1 63 [.agg (SValue.cells v)] (.int .i64 r) := by
 refine pure_of_ev k63 ?_
 unfold Faptext at h
 refine ifO h (fun hc1 h => ?_) (fun hc1 h => ?_)
 ·obtain ⟨v2, hv3, h⟩ := bindO h
  refine call_pure (F_unicode_utf8_ValidString_ok hv3) (.cons (.p _) .nil) ?_
  refine ifO h (fun hc4 h => ?_) (fun hc4 h => ?_)
  ·obtain rfl := someO h
   exact (.p _)
  ·obtain rfl := someO h
   exact (.p _)
 ·refine ifO h (fun hc5 h => ?_) (fun hc5 h => ?_)
  ·refine loop_ren (σ := Nat × Int) (fun s => (.any :: .ptr 0 0 :: a8 (a4 (a2 (.p (.int .i64 (v.Text.length : Int)) :: .p (.int .i64 s.2) :: a8 ([])))) : List AV)) (fun s => (vC v :: [] : List AObj)) (fun s => Faptext_L0 N v s.1 s.2 = some r) (fun s => s.1) (N, 0) h ⟨(fun i => i), ⟨(rJ <| rJ <| rJ <| trivial), (hE rfl <| hN), rfl, rfl, (roE rfl <| roN)⟩⟩ (fun _ _ => Nat.le_of_ble_eq_true rfl) ?_
   rintro ⟨n0, s15⟩ h
   rcases n0 with _ | n0
   ·simp [Faptext_L0] at h
   simp only [Faptext_L0] at h
   show ev (EP _ _) _ (.any :: .ptr 0 0 :: a8 (a4 (a2 (.p (.int .i64 (v.Text.length : Int)) :: .p (.int .i64 s15) :: a8 ([]))))) (vC v :: []) _
   refine ifO h (fun hc16 h => ?_) (fun hc16 h => ?_)
   ·obtain ⟨b17, hy18, h⟩ := bindO h
    refine idxP (x := b17) hy18 ?_
    refine ifO h (fun hc19 h => ?_) (fun hc19 h => ?_)
    ·obtain rfl := someO h
     exact (.p _)
    ·show Exists _
     exact ⟨(n0, (IntKind.wrap .i64 (s15 + 1))), h, Nat.lt_succ_self _, (fun i => i), ⟨(rJ <| rJ <| rJ <| trivial), (hE rfl <| hN), rfl, rfl, (roE rfl <| roN)⟩⟩
   ·obtain rfl := someO h
    exact (.p _)
  ·obtain rfl := someO h
   exact (.p _)
def FapCheck (N : Nat) (v : SValue) : Option (Int) :=
 cond (cmpI .lss v.Kind 1)
 (some 8)
 (cond (cmpI .gtr v.Kind 21)
 (some 8)
 ((Fapbits N v.Kind).bind fun v3 =>
 (FapfitsBits N v.N' v3.1 v3.2).bind fun v5 =>
 cond (!v5)
 (some 2)
 (cond (cmpI .eql v.Kind 16)
 ((FapcodePoint N v.N').bind fun v9 =>
 cond (!v9)
 (some 2)
 (cond (cmpI .neq ((SValue.rows v.Items).length : Int) 0)
 (some 2)
 ((Faptextual N v.Kind).bind fun v13 =>
 cond (!v13)
 (cond (cmpS .neq v.Text [])
 (some 2)
 (some 0))
 (cond (cmpI .eql v.Kind 15)
 (cond (cmpI .neq (v.Text.length : Int) 16)
 (some 2)
 (cond (cmpI .gtr (v.Text.length : Int) 1048576)
 (some 4)
 ((Faptext N v).bind fun v20 =>
 some v20)))
 (cond (cmpI .eql v.Kind 18)
 (cond (cmpI .neq (v.Text.length : Int) 16)
 (some 2)
 (cond (cmpI .gtr (v.Text.length : Int) 1048576)
 (some 4)
 ((Faptext N v).bind fun v25 =>
 some v25)))
 (cond (cmpI .gtr (v.Text.length : Int) 1048576)
 (some 4)
 ((Faptext N v).bind fun v28 =>
 some v28)))))))
 (cond (cmpI .neq ((SValue.rows v.Items).length : Int) 0)
 (some 2)
 ((Faptextual N v.Kind).bind fun v31 =>
 cond (!v31)
 (cond (cmpS .neq v.Text [])
 (some 2)
 (some 0))
 (cond (cmpI .eql v.Kind 15)
 (cond (cmpI .neq (v.Text.length : Int) 16)
 (some 2)
 (cond (cmpI .gtr (v.Text.length : Int) 1048576)
 (some 4)
 ((Faptext N v).bind fun v38 =>
 some v38)))
 (cond (cmpI .eql v.Kind 18)
 (cond (cmpI .neq (v.Text.length : Int) 16)
 (some 2)
 (cond (cmpI .gtr (v.Text.length : Int) 1048576)
 (some 4)
 ((Faptext N v).bind fun v43 =>
 some v43)))
 (cond (cmpI .gtr (v.Text.length : Int) 1048576)
 (some 4)
 ((Faptext N v).bind fun v46 =>
 some v46)))))))))
theorem FapCheck_ok {N : Nat} {v : SValue} {r : Int} (h : FapCheck N v = some r) : Pure Tryd.prog G1 17 [.agg (SValue.cells v)] (.int .i64 r) := by
 refine pure_of_ev k17 ?_
 unfold FapCheck at h
 refine ifO h (fun hc1 h => ?_) (fun hc1 h => ?_)
 ·obtain rfl := someO h
  exact (.p _)
 ·refine ifO h (fun hc2 h => ?_) (fun hc2 h => ?_)
  ·obtain rfl := someO h
   exact (.p _)
  ·obtain ⟨v3, hv4, h⟩ := bindO h
   refine call_pure (Fapbits_ok hv4) (.cons (.p _) .nil) ?_
   obtain ⟨v5, hv6, h⟩ := bindO h
   refine call_pure (FapfitsBits_ok hv6) (.cons (.p _) (.cons (.p _) (.cons (.p _) .nil))) ?_
   refine ifO h (fun hc7 h => ?_) (fun hc7 h => ?_)
   ·obtain rfl := someO h
    exact (.p _)
   ·refine ifO h (fun hc8 h => ?_) (fun hc8 h => ?_)
    ·obtain ⟨v9, hv10, h⟩ := bindO h
     refine call_pure (FapcodePoint_ok hv10) (.cons (.p _) .nil) ?_
     refine ifO h (fun hc11 h => ?_) (fun hc11 h => ?_)
     ·obtain rfl := someO h
      exact (.p _)
     ·refine ifO h (fun hc12 h => ?_) (fun hc12 h => ?_)
      ·obtain rfl := someO h
       exact (.p _)
      ·obtain ⟨v13, hv14, h⟩ := bindO h
       refine call_pure (Faptextual_ok hv14) (.cons (.p _) .nil) ?_
       refine ifO h (fun hc15 h => ?_) (fun hc15 h => ?_)
       ·refine ifO h (fun hc16 h => ?_) (fun hc16 h => ?_)
        ·obtain rfl := someO h
         exact (.p _)
        ·obtain rfl := someO h
         exact (.p _)
       ·refine ifO h (fun hc17 h => ?_) (fun hc17 h => ?_)
        ·refine ifO h (fun hc18 h => ?_) (fun hc18 h => ?_)
         ·obtain rfl := someO h
          exact (.p _)
         ·refine ifO h (fun hc19 h => ?_) (fun hc19 h => ?_)
          ·obtain rfl := someO h
           exact (.p _)
          ·obtain ⟨v20, hv21, h⟩ := bindO h
           refine call_pure (Faptext_ok hv21) (.cons fV .nil) ?_
           obtain rfl := someO h
           exact (.p _)
        ·refine ifO h (fun hc22 h => ?_) (fun hc22 h => ?_)
         ·refine ifO h (fun hc23 h => ?_) (fun hc23 h => ?_)
          ·obtain rfl := someO h
           exact (.p _)
          ·refine ifO h (fun hc24 h => ?_) (fun hc24 h => ?_)
           ·obtain rfl := someO h
            exact (.p _)
           ·obtain ⟨v25, hv26, h⟩ := bindO h
            refine call_pure (Faptext_ok hv26) (.cons fV .nil) ?_
            obtain rfl := someO h
            exact (.p _)
         ·refine ifO h (fun hc27 h => ?_) (fun hc27 h => ?_)
          ·obtain rfl := someO h
           exact (.p _)
          ·obtain ⟨v28, hv29, h⟩ := bindO h
           refine call_pure (Faptext_ok hv29) (.cons fV .nil) ?_
           obtain rfl := someO h
           exact (.p _)
    ·refine ifO h (fun hc30 h => ?_) (fun hc30 h => ?_)
     ·obtain rfl := someO h
      exact (.p _)
     ·obtain ⟨v31, hv32, h⟩ := bindO h
      refine call_pure (Faptextual_ok hv32) (.cons (.p _) .nil) ?_
      refine ifO h (fun hc33 h => ?_) (fun hc33 h => ?_)
      ·refine ifO h (fun hc34 h => ?_) (fun hc34 h => ?_)
       ·obtain rfl := someO h
        exact (.p _)
       ·obtain rfl := someO h
        exact (.p _)
      ·refine ifO h (fun hc35 h => ?_) (fun hc35 h => ?_)
       ·refine ifO h (fun hc36 h => ?_) (fun hc36 h => ?_)
        ·obtain rfl := someO h
         exact (.p _)
        ·refine ifO h (fun hc37 h => ?_) (fun hc37 h => ?_)
         ·obtain rfl := someO h
          exact (.p _)
         ·obtain ⟨v38, hv39, h⟩ := bindO h
          refine call_pure (Faptext_ok hv39) (.cons fV .nil) ?_
          obtain rfl := someO h
          exact (.p _)
       ·refine ifO h (fun hc40 h => ?_) (fun hc40 h => ?_)
        ·refine ifO h (fun hc41 h => ?_) (fun hc41 h => ?_)
         ·obtain rfl := someO h
          exact (.p _)
         ·refine ifO h (fun hc42 h => ?_) (fun hc42 h => ?_)
          ·obtain rfl := someO h
           exact (.p _)
          ·obtain ⟨v43, hv44, h⟩ := bindO h
           refine call_pure (Faptext_ok hv44) (.cons fV .nil) ?_
           obtain rfl := someO h
           exact (.p _)
        ·refine ifO h (fun hc45 h => ?_) (fun hc45 h => ?_)
         ·obtain rfl := someO h
          exact (.p _)
         ·obtain ⟨v46, hv47, h⟩ := bindO h
          refine call_pure (Faptext_ok hv47) (.cons fV .nil) ?_
          obtain rfl := someO h
          exact (.p _)
def FktN (_N : Nat) (kind : Int) (n_1 : Int) : Option (SValue) :=
 some (⟨kind, n_1, [], []⟩ : SValue)
theorem FktN_ok {N : Nat} {kind : Int} {n_1 : Int} {r : SValue} (h : FktN N kind n_1 = some r) : Pure Tryd.prog G1 31 [.int .i64 kind, .int .u64 n_1] (.agg (SValue.cells r)) := by
 refine pure_of_ev k31 ?_
 unfold FktN at h
 obtain rfl := someO h
 exact (Frz.agg' (.cons (.p _) (.cons (.p _) (.cons (.p _) (.cons (.nil _) .nil)))))
def Bktnodes_L0 (Rktnodes : SValue → Int → Int → Option (Int)) (N : Nat) (v : SValue) (deep : Int) (most : Int) : Nat → Int → Int → Option (Int)
 | 0, _, _ => none
 | n + 1, n18, i19 =>
  cond (cmpI .lss i19 ((SValue.rows v.Items).length : Int))
  (cond (cmpI .leq n18 most)
  ((idx v.Items i19).bind fun y22 =>
  (Rktnodes y22 (IntKind.wrap .i64 (deep - 1)) (IntKind.wrap .i64 (most - n18))).bind fun v24 =>
  Bktnodes_L0 Rktnodes N v deep most n (IntKind.wrap .i64 (n18 + v24)) (IntKind.wrap .i64 (i19 + 1)))
  (some n18))
  (some n18)
def Bktnodes (Rktnodes : SValue → Int → Int → Option (Int)) (N : Nat) (v : SValue) (deep : Int) (most : Int) : Option (Int) :=
 cond (cmpI .lss deep 0)
 (some (IntKind.wrap .i64 (most + 1)))
 (cond (cmpI .gtr ((SValue.rows v.Items).length : Int) most)
 (some (IntKind.wrap .i64 (most + 1)))
 (cond (cmpI .gtr (v.Text.length : Int) 400)
 (some (IntKind.wrap .i64 (most + 1)))
 (Bktnodes_L0 Rktnodes N v deep most N 1 0)))
theorem Bktnodes_ok {Rktnodes : SValue → Int → Int → Option (Int)} (hRktnodes : ∀ {v : SValue} {deep : Int} {most : Int} {r : Int}, Rktnodes v deep most = some r → Pure Tryd.prog G1 54 [.agg (SValue.cells v), .int .i64 deep, .int .i64 most] (.int .i64 r)) {N : Nat} {v : SValue} {deep : Int} {most : Int} {r : Int} (h : Bktnodes Rktnodes N v deep most = some r) : Pure Tryd.prog G1 54 [.agg (SValue.cells v), .int .i64 deep, .int .i64 most] (.int .i64 r) := by
 refine pure_of_ev k54 ?_
 unfold Bktnodes at h
 refine ifO h (fun hc1 h => ?_) (fun hc1 h => ?_)
 ·obtain rfl := someO h
  exact (.p _)
 ·refine ifO h (fun hc2 h => ?_) (fun hc2 h => ?_)
  ·obtain rfl := someO h
   exact (.p _)
  ·refine ifO h (fun hc3 h => ?_) (fun hc3 h => ?_)
   ·obtain rfl := someO h
    exact (.p _)
   ·refine loop_ren (σ := Nat × Int × Int) (fun s => (.any :: .p (.int .i64 deep) :: .p (.int .i64 most) :: .ptr 0 0 :: a2 (.any :: .p (.int .i64 s.2.1) :: .p (.int .i64 s.2.2) :: a16 (a16 (a8 (a2 (.any :: []))))) : List AV)) (fun s => (vC v :: [] : List AObj)) (fun s => Bktnodes_L0 Rktnodes N v deep most s.1 s.2.1 s.2.2 = some r) (fun s => s.1) (N, 1, 0) h ⟨(fun i => i), ⟨(rJ <| rJ <| rJ <| rJ <| rJ <| trivial), (hE rfl <| hN), rfl, rfl, (roE rfl <| roN)⟩⟩ (fun _ _ => Nat.le_of_ble_eq_true rfl) ?_
    rintro ⟨n0, n18, i19⟩ h
    rcases n0 with _ | n0
    ·simp [Bktnodes_L0] at h
    simp only [Bktnodes_L0] at h
    show ev (EP _ _) _ (.any :: .p (.int .i64 deep) :: .p (.int .i64 most) :: .ptr 0 0 :: a2 (.any :: .p (.int .i64 n18) :: .p (.int .i64 i19) :: a16 (a16 (a8 (a2 (.any :: [])))))) (vC v :: []) _
    refine ifO h (fun hc20 h => ?_) (fun hc20 h => ?_)
    ·refine ifO h (fun hc21 h => ?_) (fun hc21 h => ?_)
     ·obtain ⟨y22, hy23, h⟩ := bindO h
      refine idxP (x := vP y22) (SValue.idx_rows hy23) ?_
      obtain ⟨v24, hv25, h⟩ := bindO h
      refine call_pure (hRktnodes hv25) (.cons fV (.cons (.p _) (.cons (.p _) .nil))) ?_
      show Exists _
      exact ⟨(n0, (IntKind.wrap .i64 (n18 + v24)), (IntKind.wrap .i64 (i19 + 1))), h, Nat.lt_succ_self _, (fun i => i), ⟨(rJ <| rJ <| rJ <| rJ <| rJ <| trivial), (hE rfl <| hN), rfl, rfl, (roE rfl <| roN)⟩⟩
     ·obtain rfl := someO h
      exact (.p _)
    ·obtain rfl := someO h
     exact (.p _)
def Fktnodes : Nat → SValue → Int → Int → Option (Int)
 | 0 => fun _ _ _ => none
 | N + 1 => Bktnodes (Fktnodes N) N
theorem Fktnodes_ok {N : Nat} {v : SValue} {deep : Int} {most : Int} {r : Int} (h : Fktnodes N v deep most = some r) : Pure Tryd.prog G1 54 [.agg (SValue.cells v), .int .i64 deep, .int .i64 most] (.int .i64 r) := by
 induction N generalizing v deep most r with
 | zero => simp [Fktnodes] at h
 | succ N ih => exact Bktnodes_ok (fun h => ih h) h
def FktLightValue (N : Nat) (v : SValue) : Option (Bool) :=
 (Fktnodes N v 6 40).bind fun v1 =>
 some (cmpI .leq v1 40)
theorem FktLightValue_ok {N : Nat} {v : SValue} {r : Bool} (h : FktLightValue N v = some r) : Pure Tryd.prog G1 15 [.agg (SValue.cells v)] (.bool r) := by
 refine pure_of_ev k15 ?_
 unfold FktLightValue at h
 obtain ⟨v1, hv2, h⟩ := bindO h
 refine call_pure (Fktnodes_ok hv2) (.cons fV (.cons (.p _) (.cons (.p _) .nil))) ?_
 obtain rfl := someO h
 exact (.p _)
def BktSameValue_L0 (RktSameValue : SValue → SValue → Option (Bool)) (N : Nat) (a : SValue) (b : SValue) : Nat → Int → Option (Bool)
 | 0, _ => none
 | n + 1, i22 =>
  cond (cmpI .lss i22 ((SValue.rows a.Items).length : Int))
  ((idx a.Items i22).bind fun y24 =>
  (idx b.Items i22).bind fun y26 =>
  (RktSameValue y24 y26).bind fun v28 =>
  cond (!v28)
  (some false)
  (BktSameValue_L0 RktSameValue N a b n (IntKind.wrap .i64 (i22 + 1))))
  (some true)
def BktSameValue (RktSameValue : SValue → SValue → Option (Bool)) (N : Nat) (a : SValue) (b : SValue) : Option (Bool) :=
 cond (cmpI .neq a.Kind b.Kind)
 (some false)
 (cond (cmpI .neq a.N' b.N')
 (some false)
 (cond (cmpS .neq a.Text b.Text)
 (some false)
 (cond (cmpI .neq ((SValue.rows a.Items).length : Int) ((SValue.rows b.Items).length : Int))
 (some false)
 (BktSameValue_L0 RktSameValue N a b N 0))))
theorem BktSameValue_ok {RktSameValue : SValue → SValue → Option (Bool)} (hRktSameValue : ∀ {a : SValue} {b : SValue} {r : Bool}, RktSameValue a b = some r → Pure Tryd.prog G1 22 [.agg (SValue.cells a), .agg (SValue.cells b)] (.bool r)) {N : Nat} {a : SValue} {b : SValue} {r : Bool} (h : BktSameValue RktSameValue N a b = some r) : Pure Tryd.prog G1 22 [.agg (SValue.cells a), .agg (SValue.cells b)] (.bool r) := by
 refine pure_of_ev k22 ?_
 unfold BktSameValue at h
 refine ifO h (fun hc1 h => ?_) (fun hc1 h => ?_)
 ·obtain rfl := someO h
  exact (.p _)
 ·refine ifO h (fun hc2 h => ?_) (fun hc2 h => ?_)
  ·obtain rfl := someO h
   exact (.p _)
  ·refine ifO h (fun hc3 h => ?_) (fun hc3 h => ?_)
   ·obtain rfl := someO h
    exact (.p _)
   ·refine ifO h (fun hc4 h => ?_) (fun hc4 h => ?_)
    ·obtain rfl := someO h
     exact (.p _)
    ·refine loop_ren (σ := Nat × Int) (fun s => (.any :: .any :: .ptr 0 0 :: .ptr 1 0 :: .any :: .p (.int .i64 s.2) :: a16 (a16 (a8 (a4 (a2 (.any :: []))))) : List AV)) (fun s => (vC a :: .cells (.p (.int .i64 b.Kind) :: .p (.int .u64 b.N') :: .p (.str b.Text) :: .p (.slice 4 (SValue.rows b.Items)) :: []) :: [] : List AObj)) (fun s => BktSameValue_L0 RktSameValue N a b s.1 s.2 = some r) (fun s => s.1) (N, 0) h ⟨(fun i => i), ⟨(rJ <| rJ <| rJ <| trivial), (hE rfl <| hE rfl <| hN), rfl, rfl, (roE rfl <| roE rfl <| roN)⟩⟩ (fun _ _ => Nat.le_of_ble_eq_true rfl) ?_
     rintro ⟨n0, i22⟩ h
     rcases n0 with _ | n0
     ·simp [BktSameValue_L0] at h
     simp only [BktSameValue_L0] at h
     show ev (EP _ _) _ (.any :: .any :: .ptr 0 0 :: .ptr 1 0 :: .any :: .p (.int .i64 i22) :: a16 (a16 (a8 (a4 (a2 (.any :: [])))))) (vC a :: .cells (.p (.int .i64 b.Kind) :: .p (.int .u64 b.N') :: .p (.str b.Text) :: .p (.slice 4 (SValue.rows b.Items)) :: []) :: []) _
     refine ifO h (fun hc23 h => ?_) (fun hc23 h => ?_)
     ·refine draw_rule ?_
      obtain ⟨y24, hy25, h⟩ := bindO h
      refine idxP (x := vP y24) (SValue.idx_rows hy25) ?_
      obtain ⟨y26, hy27, h⟩ := bindO h
      refine idxP (x := vP y26) (SValue.idx_rows hy27) ?_
      obtain ⟨v28, hv29, h⟩ := bindO h
      refine dcall_pure (hRktSameValue hv29) (.cons fV (.cons fV .nil)) ?_
      refine ifO h (fun hc30 h => ?_) (fun hc30 h => ?_)
      ·obtain rfl := someO h
       exact (.p _)
      ·show Exists _
       exact ⟨(n0, (IntKind.wrap .i64 (i22 + 1))), h, Nat.lt_succ_self _, (fun i => i), ⟨(rJ <| rJ <| rJ <| trivial), (hE rfl <| hE rfl <| hN), rfl, rfl, (roE rfl <| roE rfl <| roN)⟩⟩
     ·obtain rfl := someO h
      exact (.p _)
def FktSameValue : Nat → SValue → SValue → Option (Bool)
 | 0 => fun _ _ => none
 | N + 1 => BktSameValue (FktSameValue N) N
theorem FktSameValue_ok {N : Nat} {a : SValue} {b : SValue} {r : Bool} (h : FktSameValue N a b = some r) : Pure Tryd.prog G1 22 [.agg (SValue.cells a), .agg (SValue.cells b)] (.bool r) := by
 induction N generalizing a b r with
 | zero => simp [FktSameValue] at h
 | succ N ih => exact BktSameValue_ok (fun h => ih h) h
end
end
end Go.Av
