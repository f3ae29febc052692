/- Part of FrommqttCalls: the law returns true; no condition. -/
import Derived.Test.YtbcddiagcaddbaaGreatDoorKn1
import Derived.Test.YtbcddiagcaddbaaGreatDoorRound
import Derived.Test.YtbcddiagcaddbaaGreatDoorAvAbb
import Derived.KernelRfl
set_option linter.all false
open Go.IntKind (wrap)
namespace Go.Av
noncomputable section
open Go.Proofs
set_option maxRecDepth 1000000
set_option maxHeartbeats 4000000
attribute [local irreducible] Q06 Ue Qdu Qjw Qxl Qy1 Qj3
def rcodesT:List (Int×List Int) := [(2,[1,0,3198228479,0]),(4,[65537,0,42139785,0]),(5,[65537,0,42139785,0]),(6,[1,0,262144,0]),(7,[1,0,262144,0]),(9,[7,0,26852098185,0]),(11,[131073,0,163977,0]),(14,[17,0,34359339663,0]),(15,[50331649,0,0,0])]
theorem Qzl:Qd9 Tryz.prog G1 395 [.int .i64 2] (.agg [.int .u64 1,.int .u64 0,.int .u64 3198228479,.int .u64 0]):=Uu Qbb (N:=4000) (d:=60) (by kernel_rfl)
theorem Qzo:Qd9 Tryz.prog G1 395 [.int .i64 4] (.agg [.int .u64 65537,.int .u64 0,.int .u64 42139785,.int .u64 0]):=Uu Qbb (N:=4000) (d:=60) (by kernel_rfl)
theorem Qzy:Qd9 Tryz.prog G1 395 [.int .i64 5] (.agg [.int .u64 65537,.int .u64 0,.int .u64 42139785,.int .u64 0]):=Uu Qbb (N:=4000) (d:=60) (by kernel_rfl)
theorem Z04:Qd9 Tryz.prog G1 395 [.int .i64 6] (.agg [.int .u64 1,.int .u64 0,.int .u64 262144,.int .u64 0]):=Uu Qbb (N:=4000) (d:=60) (by kernel_rfl)
theorem Z0a:Qd9 Tryz.prog G1 395 [.int .i64 7] (.agg [.int .u64 1,.int .u64 0,.int .u64 262144,.int .u64 0]):=Uu Qbb (N:=4000) (d:=60) (by kernel_rfl)
theorem Qyh:Qd9 Tryz.prog G1 395 [.int .i64 9] (.agg [.int .u64 7,.int .u64 0,.int .u64 26852098185,.int .u64 0]):=Uu Qbb (N:=4000) (d:=60) (by kernel_rfl)
theorem Qva:Qd9 Tryz.prog G1 395 [.int .i64 11] (.agg [.int .u64 131073,.int .u64 0,.int .u64 163977,.int .u64 0]):=Uu Qbb (N:=4000) (d:=60) (by kernel_rfl)
theorem Qvj:Qd9 Tryz.prog G1 395 [.int .i64 14] (.agg [.int .u64 17,.int .u64 0,.int .u64 34359339663,.int .u64 0]):=Uu Qbb (N:=4000) (d:=60) (by kernel_rfl)
theorem Qvq:Qd9 Tryz.prog G1 395 [.int .i64 15] (.agg [.int .u64 50331649,.int .u64 0,.int .u64 0,.int .u64 0]):=Uu Qbb (N:=4000) (d:=60) (by kernel_rfl)
theorem eqX {k c:Int} (h:k≠c):Qmr .eql k c=false:=cF (by rw [show Q4 .eql k c=decide (k=c) by unfold Q4;by_cases e:k=c<;>simp [e]];exact Ab h)
theorem Qr0 {k:Int} (h:k≠2∧k≠4∧k≠5∧k≠6∧k≠7∧k≠9∧k≠11∧k≠14∧k≠15):Qd9 Tryz.prog G1 395 [.int .i64 k] (.agg [.int .u64 0,.int .u64 0,.int .u64 0,.int .u64 0]):=by
 refine Q0 Zp7 ?_;refine ifF (eqX h.1) ?_;refine ifF (eqX h.2.1) ?_;refine ifF (eqX h.2.2.1) ?_;refine ifF (eqX h.2.2.2.1) ?_;refine ifF (eqX h.2.2.2.2.1) ?_;refine ifF (eqX h.2.2.2.2.2.1) ?_;refine ifF (eqX h.2.2.2.2.2.2.1) ?_;refine ifF (eqX h.2.2.2.2.2.2.2.1) ?_;refine ifF (eqX h.2.2.2.2.2.2.2.2) ?_;exact q4
def Qgv (k:Int):List Int:=((rcodesT.find? fun q=>q.1 == k).map (·.2)).getD [0,0,0,0]
theorem Qk0 (k:Int):∃ a b c d:Int,Qgv k = [a,b,c,d]∧Qd9 Tryz.prog G1 395 [.int .i64 k] (.agg [.int .u64 a,.int .u64 b,.int .u64 c,.int .u64 d]):=by
 by_cases h2:k=2
 ·subst h2;exact ⟨_,_,_,_,rfl,Qzl⟩
 by_cases h4:k=4
 ·subst h4;exact ⟨_,_,_,_,rfl,Qzo⟩
 by_cases h5:k=5
 ·subst h5;exact ⟨_,_,_,_,rfl,Qzy⟩
 by_cases h6:k=6
 ·subst h6;exact ⟨_,_,_,_,rfl,Z04⟩
 by_cases h7:k=7
 ·subst h7;exact ⟨_,_,_,_,rfl,Z0a⟩
 by_cases h9:k=9
 ·subst h9;exact ⟨_,_,_,_,rfl,Qyh⟩
 by_cases h11:k=11
 ·subst h11;exact ⟨_,_,_,_,rfl,Qva⟩
 by_cases h14:k=14
 ·subst h14;exact ⟨_,_,_,_,rfl,Qvj⟩
 by_cases h15:k=15
 ·subst h15;exact ⟨_,_,_,_,rfl,Qvq⟩
 refine ⟨0,0,0,0,?_,Qr0 ⟨h2,h4,h5,h6,h7,h9,h11,h14,h15⟩⟩
 have e:(rcodesT.find? fun q=>q.1 == k)=none:=by
  rw [List.find?_eq_none];intro q hq;simp only [rcodesT,Ml,Bc,or_false] at hq
  rcases hq with rfl | rfl | rfl | rfl | rfl | rfl | rfl | rfl | rfl<;>simp<;>omega
 unfold Qgv;rw [e];rfl
def Z7k (w:List Int) (code:Int):Option Bool:=
 cond (Q4 .geq code 0) (cond (Q4 .lss code 256) ((idx w (wrap .i64 (code.tdiv 64))).bind fun x=>cond (decide (0≤wrap .u64 (code.tmod 64))) (some (Q4 .eql (Q7g .u64 (Qdb .u64 x (wrap .u64 (code.tmod 64))) 1) 1)) none) (some false)) (some false)
theorem Z68 {l:List Int} {i x:Int} (h:idx l i=some x):0≤i∧i<l.length:=by
 cases i with
 | ofNat n=>
  have:=(Lb.1 (show l[n]? = some x from h)).1;constructor
  ·exact Cv n
  show (n:Int)<_;omega
 | negSucc n=>cases h
theorem Z5e {a b c d code:Int} {r:Bool} (h:Z7k [a,b,c,d] code=some r):Qd9 Tryz.prog G1 396 [.agg [.int .u64 a,.int .u64 b,.int .u64 c,.int .u64 d],.int .i64 code] (.bool r):=by
 refine Q0 Zpx ?_;unfold Z7k at h;rw [cX] at h;apply iU h<;>intro h
 ·apply iU h<;>intro h
  ·obtain ⟨x,hx,h⟩:=Q3o h;have hi:=Z68 hx;have hi4:wrap .i64 (code.tdiv 64)<4:=hi.2;generalize hw:wrap .i64 (code.tdiv 64)=i at hx hi hi4;refine Q0r (b:=decide (0≤wrap .i64 (code.tdiv 64))&&decide (wrap .i64 (code.tdiv 64)<4)) (by rw [hw];simp;omega) ?_;rw [hw]
   have:i=0∨i=1∨i=2∨i=3:=by omega
   rcases this with rfl | rfl | rfl | rfl
   ·cases hx;refine kU h fun h=>?_;cases h;exact (.p _)
   ·cases hx;refine kU h fun h=>?_;cases h;exact (.p _)
   ·cases hx;refine kU h fun h=>?_;cases h;exact (.p _)
   cases hx;refine kU h fun h=>?_;cases h;exact (.p _)
  cases h;exact (.p _)
 cases h;exact (.p _)
def Qz7 (k code:Int):Option Bool:=Z7k (Qgv k) code
theorem Z4t {k code:Int} {r:Bool} (h:Qz7 k code=some r):Qd9 Tryz.prog G1 335 [.int .i64 k,.int .i64 code] (.bool r):=by
 obtain ⟨a,b,c,d,e,hp⟩:=Qk0 k;unfold Qz7 at h;rw [e] at h;refine Q0 Zmh ?_;refine Q6r hp p1 ?_;refine Q6r (Z5e h) p2 ?_;exact (.p _)
def Q13 (_N:Nat) (kind:Int) (code:Int):Option Bool:=Qz7 kind code
theorem Q34 {N} {kind code:Int} {r:Bool} (h:Q13 N kind code=some r):Qd9 Tryz.prog G1 335 [.int .i64 kind,.int .i64 code] (.bool r):=Z4t h
end
end Go.Av
