/- Part of FromsnNames: the law returns true; no condition. -/
import Derived.Test.YtfgpphgmjcnleaaGreatDoorAvBase
set_option linter.all false
namespace Go.Av
noncomputable section
universe u
def plc (hp:List AObj) (na:Nat) (o:AObj):List AObj:=if na=hp.length then hp ++ [o] else hp.set na o
theorem Q2k {H:List AObj} {na:Nat} (h:na≤H.length) (o:AObj) (x:Nat):(plc H na o)[x]? = if x=na then some o else H[x]? := by
 unfold plc
 by_cases hn:na=H.length
 ·subst hn;rw [Af rfl]
  by_cases hx:x=H.length
  ·subst hx;simp
  rw [Ae hx]
  by_cases hlt:x<H.length
  ·rw [Lh hlt]
  rw [Md (by simp;omega),Md (by omega)]
 rw [Ae hn]
 by_cases hx:x=na
 ·subst hx;rw [Af rfl,Li (by omega)]
 rw [Ae hx,Lg (fun e=>hx e.symm)]
theorem Q3p {H:List AObj} {na:Nat} (o:AObj):H.length≤(plc H na o).length∧(na≤H.length->na<(plc H na o).length):=by
 unfold plc
 split<;>simp<;>omega

section
variable {α:Type u} (E:Env α)

def Q1 (tm:List AV):Opd->AV
 | .t i=>tm.getD i .any
 | .c v => .p v
 | .g i => .gptr i 0
 | .f i => .p (.func (.func i) [] [])
 | .m tbl i=>Qdd tbl (tm.getD i .any)
 | .mm tbls i=>Qg5 tbls (tm.getD i .any)
 | .d _ _ => .any

theorem Wl:∀ (l:List AV) (i:Nat) (k:AV->α),Qi8 l i k=k (l.getD i .any)
 | [],i,k=>by show k .any=_;simp
 | v::vs,0,k=>by show k v=_;simp
 | v::vs,n+1,k=>by show Qi8 vs n k=_;rw [Wl vs n k];simp
theorem Gt:∀ (l:List AV) (i:Nat) (x:AV) (k:List AV->α),Qk4 l i x k=k (l.set i x)
 | [],i,x,k=>by show k []=_;simp
 | v::vs,0,x,k=>by show k (x::vs)=_;simp
 | v::vs,n+1,x,k=>by show Qk4 vs n x (fun vs=>k (v::vs))=_;rw [Gt vs n x];simp
theorem Q67 {β:Type}:∀ (n:Nat) (l:List β) (k:List β->α),Qjd n l k=k (l.take n)
 | 0,l,k=>by show k []=_;simp
 | n+1,[],k=>by show k []=_;simp
 | n+1,v::vs,k=>by show Qjd n vs (fun vs=>k (v::vs))=_;rw [Q67 n vs];simp
theorem U8 {β:Type}:∀ (n:Nat) (l:List β) (k:List β->α),Q7o n l k=k (l.drop n)
 | 0,l,k=>by show k l=_;simp
 | n+1,[],k=>by show k []=_;simp
 | n+1,v::vs,k=>by show Q7o n vs k=_;rw [U8 n vs];simp
theorem Vn {β:Type}:∀ (a b:List β) (k:List β->α),Qb1 a b k=k (a++b)
 | [],b,k=>by show k b=_;simp
 | v::vs,b,k=>by show Qb1 vs b (fun r=>k (v::r))=_;rw [Vn vs];simp
theorem Zu {β γ:Type} (f : β->γ):∀ (a:List β) (k:List γ->α),Q54 f a k=k (a.map f)
 | [],k=>by show k []=_;simp
 | v::vs,k=>by show Q54 f vs (fun r=>k (f v::r))=_;rw [Zu f vs];simp
theorem Q3y:∀ (l:List AObj) (i:Nat) (x:AObj) (k:List AObj->α),Qjw l i x k=k (l.set i x)
 | [],i,x,k=>by show k []=_;simp
 | v::vs,0,x,k=>by show k (x::vs)=_;simp
 | v::vs,n+1,x,k=>by show Qjw vs n x (fun vs=>k (v::vs))=_;rw [Q3y vs n x];simp
theorem Uc:∀ (l:List AObj) (i:Nat) (k:AObj->α),Qeu E l i k=(match l[i]? with
  | some o=>k o
  | none=>E.fail)
 | [],i,k=>by show E.fail=_;simp
 | v::vs,0,k=>by show k v=_;simp
 | v::vs,n+1,k=>by show Qeu E vs n k=_;rw [Uc vs n k];simp
theorem Qdq {β:Type} (x : β):∀ (n:Nat) (k:List β->α),Qqf x n k=k (List.replicate n x)
 | 0,k=>by show k []=_;simp
 | n+1,k=>by show Qqf x n (fun r=>k (x::r))=_;rw [Qdq x n];simp [List.replicate_succ]
theorem Qi (tm:List AV) (k:AV->α) (x:Opd):Yg tm k x=k (Q1 tm x):=by
 cases x<;>simp [Yg,Q1,Wl]
theorem Ys (tm:List AV):∀ (l:List Opd) (k:List AV->α),Q8j tm l k=k (l.map (Q1 tm))
 | [],k=>by simp [Qlz]
 | x::r,k=>by simp [Qj4,Qi,Ys tm r]
theorem Qd9 (tm:List AV) (k:Option AV->α) (x:Option Opd):Qjx tm k x=k (x.map (Q1 tm)):=by
 cases x<;>simp [Qjx,Qi]

theorem Q9g (k:List AV->α) (v:AV):Qbm E k v=(match v.cells? with
  | some cs=>k cs
  | none=>E.fail):=by
 unfold Qbm AV.cells?
 split<;>simp_all [Zu]
theorem Qm8 (k:List AV->α) (v:AV):Qrn E k v=(match v.aggs? with
  | some cs=>k cs
  | none=>E.fail):=by
 unfold Qrn AV.aggs?
 split<;>simp_all [Zu]
end
end
end Go.Av
