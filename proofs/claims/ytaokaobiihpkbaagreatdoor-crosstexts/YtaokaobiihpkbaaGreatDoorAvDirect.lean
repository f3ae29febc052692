/- Part of the proof of CrossTexts: for every input the law returns true; no condition. -/
import Derived.Test.YtaokaobiihpkbaaGreatDoorAvBase
set_option linter.all false
namespace Go.Av
noncomputable section
universe u
def plc (hp:List AObj) (na:Nat) (o:AObj):List AObj:=if na=hp.length then hp ++ [o] else hp.set na o
theorem Q56 {H:List AObj} {na:Nat} (h:na≤H.length) (o:AObj) (x:Nat):(plc H na o)[x]? = if x=na then some o else H[x]? := by
 unfold plc
 by_cases hn:na=H.length
 ·subst hn;rw [Af rfl]
  by_cases hx:x=H.length
  ·subst hx;simp
  rw [Ae hx]
  by_cases hlt:x<H.length
  ·rw [Lk hlt]
  rw [Mx (by simp;omega),Mx (by omega)]
 rw [Ae hn]
 by_cases hx:x=na
 ·subst hx;rw [Af rfl,Lo (by omega)]
 rw [Ae hx,Li (fun e=>hx e.symm)]
theorem Q6r {H:List AObj} {na:Nat} (o:AObj):H.length≤(plc H na o).length∧(na≤H.length→na<(plc H na o).length):=by
 unfold plc
 split<;>simp<;>omega

section
variable {α:Type u} (E:Env α)

def Q4 (tm:List AV):Opd→AV
 | .t i=>tm.getD i .any
 | .c v => .p v
 | .g i => .gptr i 0
 | .f i => .p (.func (.func i) [] [])
 | .m tbl i=>Qh1 tbl (tm.getD i .any)
 | .mm tbls i=>Qk2 tbls (tm.getD i .any)

theorem Q1p:∀ (l:List AV) (i:Nat) (k:AV → α),Qoj l i k=k (l.getD i .any)
 | [],i,k=>by show k .any=_;simp
 | v::vs,0,k=>by show k v=_;simp
 | v::vs,n+1,k=>by show Qoj vs n k=_;rw [Q1p vs n k];simp
theorem Q5k:∀ (l:List AV) (i:Nat) (x:AV) (k:List AV → α),Qrv l i x k=k (l.set i x)
 | [],i,x,k=>by show k []=_;simp
 | v::vs,0,x,k=>by show k (x::vs)=_;simp
 | v::vs,n+1,x,k=>by show Qrv vs n x (fun vs=>k (v::vs))=_;rw [Q5k vs n x];simp
theorem Q8u {β:Type}:∀ (n:Nat) (l:List β) (k:List β → α),Qnk n l k=k (l.take n)
 | 0,l,k=>by show k []=_;simp
 | n+1,[],k=>by show k []=_;simp
 | n+1,v::vs,k=>by show Qnk n vs (fun vs=>k (v::vs))=_;rw [Q8u n vs];simp
theorem Q21 {β:Type}:∀ (n:Nat) (l:List β) (k:List β → α),Qbe n l k=k (l.drop n)
 | 0,l,k=>by show k l=_;simp
 | n+1,[],k=>by show k []=_;simp
 | n+1,v::vs,k=>by show Qbe n vs k=_;rw [Q21 n vs];simp
theorem Q07 {β:Type}:∀ (a b:List β) (k:List β → α),Qh8 a b k=k (a++b)
 | [],b,k=>by show k b=_;simp
 | v::vs,b,k=>by show Qh8 vs b (fun r=>k (v::r))=_;rw [Q07 vs];simp
theorem V1 {β γ:Type} (f : β → γ):∀ (a:List β) (k:List γ → α),Q92 f a k=k (a.map f)
 | [],k=>by show k []=_;simp
 | v::vs,k=>by show Q92 f vs (fun r=>k (f v::r))=_;rw [V1 f vs];simp
theorem Q6f:∀ (l:List AObj) (i:Nat) (x:AObj) (k:List AObj → α),Qou l i x k=k (l.set i x)
 | [],i,x,k=>by show k []=_;simp
 | v::vs,0,x,k=>by show k (x::vs)=_;simp
 | v::vs,n+1,x,k=>by show Qou vs n x (fun vs=>k (v::vs))=_;rw [Q6f vs n x];simp
theorem Q0c:∀ (l:List AObj) (i:Nat) (k:AObj → α),Qio E l i k=(match l[i]? with
  | some o=>k o
  | none=>E.fail)
 | [],i,k=>by show E.fail=_;simp
 | v::vs,0,k=>by show k v=_;simp
 | v::vs,n+1,k=>by show Qio E vs n k=_;rw [Q0c vs n k];simp
theorem Qgl {β:Type} (x : β):∀ (n:Nat) (k:List β → α),Qxd x n k=k (List.replicate n x)
 | 0,k=>by show k []=_;simp
 | n+1,k=>by show Qxd x n (fun r=>k (x::r))=_;rw [Qgl x n];simp [List.replicate_succ]
theorem Qz (tm:List AV) (k:AV → α) (x:Opd):Wq tm k x=k (Q4 tm x):=by
 cases x<;>simp [Wq,Q4,Q1p]
theorem Gj (tm:List AV):∀ (l:List Opd) (k:List AV → α),Qed tm l k=k (l.map (Q4 tm))
 | [],k=>by simp [Qqk]
 | x::r,k=>by simp [Qof,Qz,Gj tm r]
theorem Qgj (tm:List AV) (k:Option AV → α) (x:Option Opd):Qoy tm k x=k (x.map (Q4 tm)):=by
 cases x<;>simp [Qoy,Qz]

theorem Qcu (k:List AV → α) (v:AV):Qf9 E k v=(match v.cells? with
  | some cs=>k cs
  | none=>E.fail):=by
 unfold Qf9 AV.cells?
 split<;>simp_all [V1]
theorem Qrk (k:List AV → α) (v:AV):Qzw E k v=(match v.aggs? with
  | some cs=>k cs
  | none=>E.fail):=by
 unfold Qzw AV.aggs?
 split<;>simp_all [V1]
end
end
end Go.Av
