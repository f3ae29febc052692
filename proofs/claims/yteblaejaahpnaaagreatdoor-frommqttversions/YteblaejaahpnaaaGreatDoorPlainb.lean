/- Part of the proof of FrommqttVersions: for every input the law returns true; no condition. -/
import Derived.Test.YteblaejaahpnaaaGreatDoorPlain
import Derived.Test.YteblaejaahpnaaaGreatDoorLiftF2
set_option linter.all false
namespace Go.Av
noncomputable section
open Go.Proofs
set_option maxRecDepth 100000
end
end Go.Av
namespace Go.Av
noncomputable section
open Go.Proofs
set_option maxRecDepth 100000
end
end Go.Av
namespace Go.Av
noncomputable section
open Go.Proofs
set_option maxRecDepth 100000
end
end Go.Av
namespace Go.Av
noncomputable section
open Go.Proofs
set_option maxRecDepth 100000
theorem Qb0 {R:Q3→Q3→Option Bool} {N:Nat} {a b:Q3} (hlen:a.Items.length=b.Items.length) (hb:a.Items.length<4611686018427387904)
  (hR:∀ y∈a.Items,∀ z,R y z=some (decide (y=z))):∀ (n i:Nat),i≤a.Items.length→a.Items.length - i<n →
  Zt R N a b n (i:Int)=some (decide (a.Items.drop i=b.Items.drop i))
 | 0,i,_,h=>by omega
 | n+1,i,h1,h2=>by
  simp only [Zt,Q5j,Qmb,Q6g]
  by_cases hi:i<a.Items.length
  ·rw [if_pos (by omega),Qa0,Qa0,Ld hi,Ld (show i<b.Items.length by omega)];simp only [Lg,hR _ (Nd hi)];rw [Q9q _ (by omega)];have ih:=Qb0 (N:=N) hlen hb hR n (i+1) (by omega) (by omega);rw [Nv hi,Nv (show i<b.Items.length by omega)]
   by_cases he:a.Items[i]=b.Items[i]
   ·rw [← he];simp only [decide_true,Bi,Lu,if_false,By,true_and]
    exact_mod_cast ih
   have hne:¬ (a.Items[i]::List.drop (i+1) a.Items=b.Items[i]::List.drop (i+1) b.Items):=fun e=>he (List.cons.inj e).1;simp only [he,decide_false,Bool.not_false,if_true];rw [decide_eq_false hne]
  rw [if_neg (by omega),Mk (by omega),Mk (by omega)];simp
theorem Qbn:∀ (N:Nat) (a b:Q3),a.sz<N→a.sz<1000000000→Yd N a b=some (decide (a=b))
 | 0,a,b,h,_=>by have:=a.sz_eq;omega
 | N+1,a,b,h,h2=>by
  have hs:=a.sz_eq;have hl:=Q3.szs_len a.Items;simp only [Yd,V6,Q5j,Qpr,Qge,Q6g]
  by_cases e1:a.Kind=b.Kind
  ·by_cases e2:a.N'=b.N'
   ·by_cases e3:a.Text=b.Text
    ·by_cases e4:a.Items.length=b.Items.length
     ·rw [if_neg (by simp [e1]),if_neg (by simp [e2]),if_neg (by simp [e3]),if_neg (by simp [e4])];have:=Qb0 (N:=N) (R:=Yd N) e4 (by omega) (fun y hy z=>Qbn N y z (by have:=Q3.szs_mem _ y hy;omega) (by have:=Q3.szs_mem _ y hy;omega)) N 0 (by omega) (by omega);rw [show (0:Int)=((0:Nat):Int) from rfl,this];cases a;cases b;simp_all
     rw [if_neg (by simp [e1]),if_neg (by simp [e2]),if_neg (by simp [e3]),if_pos (by omega)];have:a≠b:=fun e=>e4 (by rw [e]);simp [this]
    rw [if_neg (by simp [e1]),if_neg (by simp [e2]),if_pos (by simpa using e3)];have:a≠b:=fun e=>e3 (by rw [e]);simp [this]
   rw [if_neg (by simp [e1]),if_pos (by simpa using e2)];have:a≠b:=fun e=>e2 (by rw [e]);simp [this]
  rw [if_pos (by simpa using e1)];have:a≠b:=fun e=>e1 (by rw [e]);simp [this]
open Classical in
end
end Go.Av
namespace Go.Av
noncomputable section
open Go.Proofs
set_option maxRecDepth 100000
end
end Go.Av
namespace Go.Av
noncomputable section
open Go.Proofs
set_option maxRecDepth 100000
end
end Go.Av
namespace Go.Av
noncomputable section
open Go.Proofs
set_option maxRecDepth 100000
end
end Go.Av
namespace Go.Av
noncomputable section
open Go.Proofs
set_option maxRecDepth 100000
end
end Go.Av
namespace Go.Av
noncomputable section
open Go.Proofs
set_option maxRecDepth 100000
mutual
def Q3.wgt:Q3→Nat
 | .mk _ _ t is=>t.length+30+Q3.wgts is
def Q3.wgts:List Q3→Nat
 | []=>0
 | v::l=>v.wgt+Q3.wgts l
end
end
end Go.Av
namespace Go.Av
noncomputable section
open Go.Proofs
set_option maxRecDepth 100000
end
end Go.Av
namespace Go.Av
noncomputable section
open Go.Proofs
set_option maxRecDepth 100000
end
end Go.Av
namespace Go.Av
noncomputable section
open Go.Proofs
set_option maxRecDepth 100000
end
end Go.Av
