/- Part of the proof of FrommqttBack: for every input the law returns true; no condition. -/
import Derived.Test.YteblaejaahpnaaaGreatDoorAvBase
set_option linter.all false
namespace Go.Av
noncomputable section
universe u
def plc (hp:List AObj) (na:Nat) (o:AObj):List AObj:=if na=hp.length then hp ++ [o] else hp.set na o
theorem Q9m {H:List AObj} {na:Nat} (h:na≤H.length) (o:AObj) (x:Nat):(plc H na o)[x]? = if x=na then some o else H[x]? := by
 unfold plc
 by_cases hn:na=H.length
 ·subst hn;rw [Af rfl]
  by_cases hx:x=H.length
  ·subst hx;simp
  rw [Ae hx]
  by_cases hlt:x<H.length
  ·rw [Lr hlt]
  rw [Bf (by simp;omega),Bf (by omega)]
 rw [Ae hn]
 by_cases hx:x=na
 ·subst hx;rw [Af rfl,Ls (by omega)]
 rw [Ae hx,Lp (fun e=>hx e.symm)]
theorem Qbh {H:List AObj} {na:Nat} (o:AObj):H.length≤(plc H na o).length∧(na≤H.length→na<(plc H na o).length):=by
 unfold plc
 split<;>simp<;>omega

section
variable {α:Type u} (E:Env α)

def Q8 (tm:List AV):Opd→AV
 | .t i=>tm.getD i .any
 | .c v => .p v
 | .g i => .gptr i 0
 | .f i => .p (.func (.func i) [] [])
 | .m tbl i=>Qlk tbl (tm.getD i .any)
 | .mm tbls i=>Qpi tbls (tm.getD i .any)

theorem Q70:∀ (l:List AV) (i:Nat) (k:AV → α),Qtb l i k=k (l.getD i .any)
 | [],i,k=>by show k .any=_;simp
 | v::vs,0,k=>by show k v=_;simp
 | v::vs,n+1,k=>by show Qtb vs n k=_;rw [Q70 vs n k];simp
theorem Qdc:∀ (l:List AV) (i:Nat) (x:AV) (k:List AV → α),Quv l i x k=k (l.set i x)
 | [],i,x,k=>by show k []=_;simp
 | v::vs,0,x,k=>by show k (x::vs)=_;simp
 | v::vs,n+1,x,k=>by show Quv vs n x (fun vs=>k (v::vs))=_;rw [Qdc vs n x];simp
theorem Qf9 {β:Type}:∀ (n:Nat) (l:List β) (k:List β → α),Qtc n l k=k (l.take n)
 | 0,l,k=>by show k []=_;simp
 | n+1,[],k=>by show k []=_;simp
 | n+1,v::vs,k=>by show Qtc n vs (fun vs=>k (v::vs))=_;rw [Qf9 n vs];simp
theorem Q3q {β:Type}:∀ (n:Nat) (l:List β) (k:List β → α),Qfo n l k=k (l.drop n)
 | 0,l,k=>by show k l=_;simp
 | n+1,[],k=>by show k []=_;simp
 | n+1,v::vs,k=>by show Qfo n vs k=_;rw [Q3q n vs];simp
theorem Q5i {β:Type}:∀ (a b:List β) (k:List β → α),Qn7 a b k=k (a++b)
 | [],b,k=>by show k b=_;simp
 | v::vs,b,k=>by show Qn7 vs b (fun r=>k (v::r))=_;rw [Q5i vs];simp
theorem J5 {β γ:Type} (f : β → γ):∀ (a:List β) (k:List γ → α),Qdm f a k=k (a.map f)
 | [],k=>by show k []=_;simp
 | v::vs,k=>by show Qdm f vs (fun r=>k (f v::r))=_;rw [J5 f vs];simp
theorem Qbw:∀ (l:List AObj) (i:Nat) (x:AObj) (k:List AObj → α),Qu8 l i x k=k (l.set i x)
 | [],i,x,k=>by show k []=_;simp
 | v::vs,0,x,k=>by show k (x::vs)=_;simp
 | v::vs,n+1,x,k=>by show Qu8 vs n x (fun vs=>k (v::vs))=_;rw [Qbw vs n x];simp
theorem Q3x:∀ (l:List AObj) (i:Nat) (k:AObj → α),Qns E l i k=(match l[i]? with
  | some o=>k o
  | none=>E.fail)
 | [],i,k=>by show E.fail=_;simp
 | v::vs,0,k=>by show k v=_;simp
 | v::vs,n+1,k=>by show Qns E vs n k=_;rw [Q3x vs n k];simp
theorem Qle {β:Type} (x : β):∀ (n:Nat) (k:List β → α),Z39 x n k=k (List.replicate n x)
 | 0,k=>by show k []=_;simp
 | n+1,k=>by show Z39 x n (fun r=>k (x::r))=_;rw [Qle x n];simp [List.replicate_succ]
theorem Zj (tm:List AV) (k:AV → α) (x:Opd):Ja tm k x=k (Q8 tm x):=by
 cases x<;>simp [Ja,Q8,Q70]
theorem Q34 (tm:List AV):∀ (l:List Opd) (k:List AV → α),Qk4 tm l k=k (l.map (Q8 tm))
 | [],k=>by simp [Qwt]
 | x::r,k=>by simp [Qth,Zj,Q34 tm r]
theorem Qlf (tm:List AV) (k:Option AV → α) (x:Option Opd):Qu7 tm k x=k (x.map (Q8 tm)):=by
 cases x<;>simp [Qu7,Zj]

theorem Qiz (k:List AV → α) (v:AV):Ql8 E k v=(match v.cells? with
  | some cs=>k cs
  | none=>E.fail):=by
 unfold Ql8 AV.cells?
 split<;>simp_all [J5]
theorem Qur (k:List AV → α) (v:AV):Z46 E k v=(match v.aggs? with
  | some cs=>k cs
  | none=>E.fail):=by
 unfold Z46 AV.aggs?
 split<;>simp_all [J5]
end
end
end Go.Av
