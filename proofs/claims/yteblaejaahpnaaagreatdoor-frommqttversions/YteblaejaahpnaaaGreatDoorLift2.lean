/- Part of the proof of FrommqttVersions: for every input the law returns true; no condition. -/
import Derived.Test.YteblaejaahpnaaaGreatDoorAvAbb
import Derived.Test.YteblaejaahpnaaaGreatDoorRound
set_option linter.all false
namespace Go.Av
noncomputable section
section
variable {P:Program} {Gl:Nat→Option (List PV)} {R T:Type}
def Qrg (c:T→PV) (tab:List (Int×T)):List (PV×PV):=tab.map fun q=>(.int .i64 q.1,c q.2)
def Qau:List (Int×T)→Int→Option T
 | [],_=>none
 | (k,v)::r,x=>bif x == k then some v else Qau r x
def optC (o:Option T) (f:T→Option R) (z:Option R):Option R:=match o with
 | some v=>f v
 | none=>z
theorem Ql5 {ks:List Nat} {xs ys:List AV} {b:Bool} {K:Bool→Prop} (h:Y1 ks xs ys=some b) (hk:K b):Q58 (EP P Gl) K ks xs ys:=by
 rw [Qbr,h];exact hk
theorem Qok {x:PV} {K:Option PV→Prop} (h:K none):Qa3 (EP P Gl) x [] K:=by
 unfold Qa3;rw [Qdr];exact h
theorem Qdw {x c:Int} {v:PV} {r:List (PV×PV)} {K:Option PV→Prop} (h1:(x == c)=true→K (some v)) (h2:(x == c)=false→Qa3 (EP P Gl) (.int .i64 x) r K) :
  Qa3 (EP P Gl) (.int .i64 x) ((.int .i64 c,v)::r) K:=by
 unfold Qa3 at h2 ⊢;rw [Qbb];have e:Vm (.int .i64 x) (.int .i64 c)=some (x == c):=rfl;rw [e]
 cases hb:x == c with
 | true=>exact h1 hb
 | false=>exact h2 hb
theorem Wl {x c:Int} {v:PV} {r:List (PV×PV)} {a b:Option R} {s:R} {K:Option PV→Prop} (h:cond (x == c) a b=some s) (h1:(x == c)=true→a=some s→K (some v)) (h2:(x == c)=false→b=some s→Qa3 (EP P Gl) (.int .i64 x) r K) :
  Qa3 (EP P Gl) (.int .i64 x) ((.int .i64 c,v)::r) K:=
 Qdw (fun e=>h1 e (by rw [e] at h;exact h)) (fun e=>h2 e (by rw [e] at h;exact h))
theorem Qh3 {c:T→PV} {x:Int}:∀ (tab:List (Int×T)) {K:Option PV→Prop},K ((Qau tab x).map c)→Qa3 (EP P Gl) (.int .i64 x) (Qrg c tab) K
 | [],K,h=>Qok h
 | (k,v)::r,K,h=>Qdw (fun e=>by simpa [Qau,e] using h) (fun e=>Qh3 r (by simpa [Qau,e] using h))
theorem Qnh {tab:List (Int×T)} {x:Int} {c:T→PV} {f:T→Option R} {z:Option R} {r:R} {K:Option PV→Prop} (h:optC (Qau tab x) f z=some r) (h1:∀ v,Qau tab x=some v→f v=some r→K (some (c v)))
  (h2:Qau tab x=none→z=some r→K none):Qa3 (EP P Gl) (.int .i64 x) (Qrg c tab) K:=by
 refine Qh3 tab ?_
 cases hl:Qau tab x with
 | none=>rw [hl] at h;exact h2 hl h
 | some v=>rw [hl] at h;exact h1 v hl h
end
end
end Go.Av
