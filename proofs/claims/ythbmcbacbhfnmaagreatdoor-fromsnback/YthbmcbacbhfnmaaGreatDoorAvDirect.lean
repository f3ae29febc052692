/- Part of FromsnBack: the law returns true; no condition. -/
import Derived.Test.YthbmcbacbhfnmaaGreatDoorAvBase
set_option linter.all false
namespace Go.Av
noncomputable section
set_option maxHeartbeats 4000000
universe u
def plc (hp:List AObj) (na:Nat) (o:AObj):List AObj:=if na=hp.length then hp ++ [o] else hp.set na o
theorem Qa0 {H:List AObj} {na:Nat} (h:na≤H.length) (o:AObj) (x:Nat):(plc H na o)[x]? = if x=na then some o else H[x]? := by
 grind [plc]
def Qba {H:List AObj} {na:Nat} (o:AObj):H.length≤(plc H na o).length∧(na≤H.length->na<(plc H na o).length):=by
 grind [plc]

section
variable {α:Type u} (E:Env α)

def Q9 (tm:List AV):Opd->AV
 | .t i=>tm.getD i .any
 | .c v => .p v
 | .g i => .gptr i 0
 | .f i => .p (.func (.func i) [] [])
 | .m tbl i=>Qmg tbl (tm.getD i .any)
 | .mm tbls i=>Qqt tbls (tm.getD i .any)
 | .d _ _ => .any

def Q41:∀ (l:List AV) (i:Nat) (k:AV->α),Qs6 l i k=k (l.getD i .any)
 | [],i,k=>by rfl
 | v::vs,0,k=>by rfl
 | v::vs,n+1,k=>by show Qs6 vs n k=_;rw [Q41 vs n k];simp
theorem Qa7:∀ (l:List AV) (i:Nat) (x:AV) (k:List AV->α),Qzi l i x k=k (l.set i x)
 | [],i,x,k=>by rfl
 | v::vs,0,x,k=>by rfl
 | v::vs,n+1,x,k=>by show Qzi vs n x (fun vs=>k (v::vs))=_;rw [Qa7 vs n x];simp
theorem Qeb {β:Type}:∀ (n:Nat) (l:List β) (k:List β->α),Qv1 n l k=k (l.take n)
 | 0,l,k=>by rfl
 | n+1,[],k=>by rfl
 | n+1,v::vs,k=>by show Qv1 n vs (fun vs=>k (v::vs))=_;rw [Qeb n vs];simp
theorem Q58 {β:Type}:∀ (n:Nat) (l:List β) (k:List β->α),Qet n l k=k (l.drop n)
 | 0,l,k=>by rfl
 | n+1,[],k=>by rfl
 | n+1,v::vs,k=>by show Qet n vs k=_;rw [Q58 n vs];simp
theorem Q40 {β:Type}:∀ (a b:List β) (k:List β->α),Qje a b k=k (a++b)
 | [],b,k=>by rfl
 | v::vs,b,k=>by show Qje vs b (fun r=>k (v::r))=_;rw [Q40 vs];simp
theorem Jr {β γ:Type} (f : β->γ):∀ (a:List β) (k:List γ->α),Qcb f a k=k (a.map f)
 | [],k=>by rfl
 | v::vs,k=>by show Qcb f vs (fun r=>k (f v::r))=_;rw [Jr f vs];simp
theorem Qav:∀ (l:List AObj) (i:Nat) (x:AObj) (k:List AObj->α),Qvg l i x k=k (l.set i x)
 | [],i,x,k=>by rfl
 | v::vs,0,x,k=>by rfl
 | v::vs,n+1,x,k=>by show Qvg vs n x (fun vs=>k (v::vs))=_;rw [Qav vs n x];simp
theorem Q42:∀ (l:List AObj) (i:Nat) (k:AObj->α),Qp1 E l i k=(match l[i]? with
  | some o=>k o
  | none=>E.fail)
 | [],i,k=>by rfl
 | v::vs,0,k=>by rfl
 | v::vs,n+1,k=>by show Qp1 E vs n k=_;rw [Q42 vs n k];simp
def Qn2 {β:Type} (x : β):∀ (n:Nat) (k:List β->α),Z6a x n k=k (List.replicate n x)
 | 0,k=>by rfl
 | n+1,k=>by show Z6a x n (fun r=>k (x::r))=_;rw [Qn2 x n];rfl
theorem Zg (tm:List AV) (k:AV->α) (x:Opd):Ji tm k x=k (Q9 tm x):=by
 cases x<;>simp [Ji,Q9,Q41]
def Q1x (tm:List AV):∀ (l:List Opd) (k:List AV->α),Qij tm l k=k (l.map (Q9 tm))
 | [],k=>by rfl
 | x::r,k=>by simp [Qu4,Zg,Q1x tm r]
def Qlt (tm:List AV) (k:Option AV->α) (x:Option Opd):Qvk tm k x=k (x.map (Q9 tm)):=by
 cases x<;>simp [Qvk,Zg]

theorem Qj5 (k:List AV->α) (v:AV):Ql3 E k v=(match v.cells? with
  | some cs=>k cs
  | none=>E.fail):=by
 unfold Ql3 AV.cells?
 grind [Jr]
def Qxm (k:List AV->α) (v:AV):Zas E k v=(match v.aggs? with
  | some cs=>k cs
  | none=>E.fail):=by
 unfold Zas AV.aggs?
 grind [Jr]
end
end
end Go.Av
