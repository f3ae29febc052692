/- Part of FrommqttCalls: the law returns true; no condition. -/
import Derived.Test.YtbcddiagcaddbaaGreatDoorAvCtr
import Derived.Test.YtbcddiagcaddbaaGreatDoorAvClosed4
set_option linter.all false
namespace Go.Av
noncomputable section
universe u
theorem cF {o:Cmp} {x y:Int} {b:Bool} (h:Q4 o x y=b):Qmr o x y=b:=by rw [cmpX_eq];exact h
theorem Env.c1 {α:Type u} (E:Env α):E.cmp.1=Q4:=E.cmp.2
section
variable {P:Program} {Gl:Nat->Option (List PV)}
theorem ifT {b:Bool} {X Y:Prop} (h:b=true) (hx:X) : @Bool.rec (fun _=>Prop) Y X b:=by subst h;exact hx
theorem ifF {b:Bool} {X Y:Prop} (h:b=false) (hy:Y) : @Bool.rec (fun _=>Prop) Y X b:=by subst h;exact hy
theorem Q0r {b:Bool} {X:Prop} (h:b=true) (h1:X) : @Bool.rec (fun _=>Prop) (EP P Gl).fail X b:=by subst h;exact h1
theorem Zoh {β:Type} {l:List β} {i:Int} {k : β->Prop} {x : β} (h:idx l i=some x) (hk:k x):Qy6 (EP P Gl) l i k:=by unfold Qy6;rw [h];exact hk
theorem Q52 {f:Nat} {args:List AV} {pargs:List PV} {r:PV} {H:List AObj} {k:AV->List AObj->List Nat->List Nat->Prop} (hp:Qd9 P Gl f pargs r) (hf:FrzL (fun _=>False) H args pargs) (hk:k (.p r) H [] []):Q06 P Gl f args H k:=
 .inl ⟨[],[],.p r,fun s h=>(by cases h),fun _ _=>Q6r hp (hf.K (fun _ _ h _=>h.elim)) ⟨rfl,rfl⟩,hk⟩
end
end
end Go.Av
namespace Go.Av
noncomputable section
section
variable {P:Program} {Gl:Nat->Option (List PV)}
theorem Q3o {α β:Type} {x:Option α} {f : α->Option β} {r : β} (h:x.bind f=some r):∃ v,x=some v∧f v=some r:=by
 cases x with
 | none=>cases h
 | some v=>exact ⟨v,rfl,h⟩
theorem ifO {b:Bool} {R:Type} {x y:Option R} {r:R} {X Y:Prop} (h:cond b x y=some r) (h1:b=true->x=some r->X) (h2:b=false->y=some r->Y) : @Bool.rec (fun _=>Prop) Y X b:=by
 cases b
 ·exact h2 rfl h
 exact h1 rfl h
theorem Q48 {b:Bool} {R:Type} {x:Option R} {r:R} (h:cond b x none=some r):b=true∧x=some r:=by
 cases b
 ·cases h
 exact ⟨rfl,h⟩
theorem Qi {α:Type} {a r : α} (h:some a=some r):a=r:=by cases h;rfl
theorem Z33 {b:Bool} (h:b=false):(!b)=true:=by rw [h];rfl
theorem Z7e {b:Bool} (h:b=true):(!b)=false:=by rw [h];rfl
def Q7 {T:Type} (c:T->List PV) (l:List T):List (List PV):=l.map c
theorem Q3 {T:Type} (c:T->List PV) (l:List T):(Q7 c l).length=l.length:=by simp [Q7]
theorem Z3g {α β:Type} {l:List α} {i:Int} {y : α} (f : α->β) (h:idx l i=some y):idx (l.map f) i=some (f y):=by
 cases i with
 | ofNat n=>simp only [idx,Lo] at h ⊢;rw [h];rfl
 | negSucc n=>cases h
theorem idx_rows {T:Type} {c:T->List PV} {l:List T} {i:Int} {y:T} (h:idx l i=some y):idx (Q7 c l) i=some (c y):=Z3g c h
@[reducible] def cI (k:IntKind) (n:Int):List PV := [.int k n]
@[reducible] def cU8 (b:UInt8):List PV := [.int .u8 (b.toNat:Int)]
@[reducible] def cB (b:Bool):List PV := [.bool b]
@[reducible] def cS (b:List UInt8):List PV := [.str b]
@[reducible] def cL {T:Type} (e:Nat) (c:T->List PV) (l:List T):List PV := [.slice e (Q7 c l)]
theorem wN:Z38 [] []:=trivial
abbrev Q7g (k:IntKind) (x y:Int):Int:=k.wrap (BitVec.ofInt k.bits x &&& BitVec.ofInt k.bits y).toNat
abbrev orI (k:IntKind) (x y:Int):Int:=k.wrap (BitVec.ofInt k.bits x ||| BitVec.ofInt k.bits y).toNat
abbrev Qoz (k:IntKind) (x y:Int):Int:=k.wrap (BitVec.ofInt k.bits x ^^^ BitVec.ofInt k.bits y).toNat
abbrev Q2x (k:IntKind) (x y:Int):Int:=k.wrap (BitVec.ofInt k.bits x &&& ~~~ BitVec.ofInt k.bits y).toNat
abbrev Qbp (k:IntKind) (x y:Int):Int:=k.wrap (x * 2 ^ (min y.toNat k.bits))
abbrev Qdb (k:IntKind) (x y:Int):Int:=x.fdiv (2 ^ (min y.toNat k.bits))
end
end
end Go.Av
