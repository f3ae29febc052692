/- Part of the proof of FrommqttVersions: for every input the law returns true; no condition. -/
import Derived.Test.YteblaejaahpnaaaGreatDoorAvBase
set_option linter.all false
namespace Go.Av
noncomputable section
universe u
def plc (hp:List AObj) (na:Nat) (o:AObj):List AObj:=if na=hp.length then hp ++ [o] else hp.set na o
theorem Q30 {H:List AObj} {na:Nat} (h:na≤H.length) (o:AObj) (x:Nat):(plc H na o)[x]? = if x=na then some o else H[x]? := by
 unfold plc
 by_cases hn:na=H.length
 ·subst hn;rw [if_pos rfl]
  by_cases hx:x=H.length
  ·subst hx;simp
  rw [if_neg hx]
  by_cases hlt:x<H.length
  ·rw [Ln hlt]
  rw [Ns (by simp;omega),Ns (by omega)]
 rw [if_neg hn]
 by_cases hx:x=na
 ·subst hx;rw [if_pos rfl,Lo (by omega)]
 rw [if_neg hx,Lj (fun e=>hx e.symm)]
theorem Q42 {H:List AObj} {na:Nat} (o:AObj):H.length≤(plc H na o).length∧(na≤H.length→na<(plc H na o).length):=by
 unfold plc
 split<;>simp<;>omega

section
variable {α:Type u} (E:Env α)

def Q2 (tm:List AV):Opd→AV
 | .t i=>tm.getD i .any
 | .c v => .p v
 | .g i => .gptr i 0
 | .f i => .p (.func (.func i) [] [])
 | .m tbl i=>Qcj tbl (tm.getD i .any)
 | .mm tbls i=>Qg3 tbls (tm.getD i .any)

theorem Q0m:∀ (l:List AV) (i:Nat) (k:AV → α),Qhu l i k=k (l.getD i .any)
 | [],i,k=>by show k .any=_;simp
 | v::vs,0,k=>by show k v=_;simp
 | v::vs,n+1,k=>by show Qhu vs n k=_;rw [Q0m vs n k];simp
theorem Q59:∀ (l:List AV) (i:Nat) (x:AV) (k:List AV → α),Qk1 l i x k=k (l.set i x)
 | [],i,x,k=>by show k []=_;simp
 | v::vs,0,x,k=>by show k (x::vs)=_;simp
 | v::vs,n+1,x,k=>by show Qk1 vs n x (fun vs=>k (v::vs))=_;rw [Q59 vs n x];simp
theorem Q6h {β:Type}:∀ (n:Nat) (l:List β) (k:List β → α),Qi5 n l k=k (l.take n)
 | 0,l,k=>by show k []=_;simp
 | n+1,[],k=>by show k []=_;simp
 | n+1,v::vs,k=>by show Qi5 n vs (fun vs=>k (v::vs))=_;rw [Q6h n vs];simp
theorem Gm {β:Type}:∀ (n:Nat) (l:List β) (k:List β → α),Q89 n l k=k (l.drop n)
 | 0,l,k=>by show k l=_;simp
 | n+1,[],k=>by show k []=_;simp
 | n+1,v::vs,k=>by show Q89 n vs k=_;rw [Gm n vs];simp
theorem Jw {β:Type}:∀ (a b:List β) (k:List β → α),Qdd a b k=k (a++b)
 | [],b,k=>by show k b=_;simp
 | v::vs,b,k=>by show Qdd vs b (fun r=>k (v::r))=_;rw [Jw vs];simp
theorem Xr {β γ:Type} (f : β → γ):∀ (a:List β) (k:List γ → α),Q6x f a k=k (a.map f)
 | [],k=>by show k []=_;simp
 | v::vs,k=>by show Q6x f vs (fun r=>k (f v::r))=_;rw [Xr f vs];simp
theorem Q3r:∀ (l:List AObj) (i:Nat) (x:AObj) (k:List AObj → α),Qiy l i x k=k (l.set i x)
 | [],i,x,k=>by show k []=_;simp
 | v::vs,0,x,k=>by show k (x::vs)=_;simp
 | v::vs,n+1,x,k=>by show Qiy vs n x (fun vs=>k (v::vs))=_;rw [Q3r vs n x];simp
theorem J4:∀ (l:List AObj) (i:Nat) (k:AObj → α),Qee E l i k=(match l[i]? with
  | some o=>k o
  | none=>E.fail)
 | [],i,k=>by show E.fail=_;simp
 | v::vs,0,k=>by show k v=_;simp
 | v::vs,n+1,k=>by show Qee E vs n k=_;rw [J4 vs n k];simp
theorem Qbt {β:Type} (x : β):∀ (n:Nat) (k:List β → α),Qnt x n k=k (List.replicate n x)
 | 0,k=>by show k []=_;simp
 | n+1,k=>by show Qnt x n (fun r=>k (x::r))=_;rw [Qbt x n];simp [List.replicate_succ]
theorem Qw (tm:List AV) (k:AV → α) (x:Opd):X8 tm k x=k (Q2 tm x):=by
 cases x<;>simp [X8,Q2,Q0m]
theorem Uj (tm:List AV):∀ (l:List Opd) (k:List AV → α),Qah tm l k=k (l.map (Q2 tm))
 | [],k=>by simp [Qjn]
 | x::r,k=>by simp [Qhv,Qw,Uj tm r]
theorem Qcx (tm:List AV) (k:Option AV → α) (x:Option Opd):Qiw tm k x=k (x.map (Q2 tm)):=by
 cases x<;>simp [Qiw,Qw]

theorem Qae (k:List AV → α) (v:AV):Qb9 E k v=(match v.cells? with
  | some cs=>k cs
  | none=>E.fail):=by
 unfold Qb9 AV.cells?
 split<;>simp_all [Xr]
theorem Ql1 (k:List AV → α) (v:AV):Qrl E k v=(match v.aggs? with
  | some cs=>k cs
  | none=>E.fail):=by
 unfold Qrl AV.aggs?
 split<;>simp_all [Xr]
end
end
end Go.Av
