/- Part of FromsnNames: the law returns true; no condition. -/
import Derived.Test.YtfgpphgmjcnleaaGreatDoorAvCtr
import Derived.Test.YtfgpphgmjcnleaaGreatDoorAvClosed4
set_option linter.all false
namespace Go.Av
noncomputable section
universe u
theorem cF {o:Cmp} {x y:Int} {b:Bool} (h:Q6 o x y=b):Qme o x y=b:=by rw [cmpX_eq];exact h
theorem Env.c1 {α:Type u} (E:Env α):E.cmp.1=Q6:=E.cmp.2
section
variable {P:Program} {Gl:Nat->Option (List PV)}
theorem ifP {b:Bool} {X Y:Prop} (h1:b=true->X) (h2:b=false->Y) : @Bool.rec (fun _=>Prop) Y X b:=by
 cases b
 ·exact h2 rfl
 exact h1 rfl
theorem ifT {b:Bool} {X Y:Prop} (h:b=true) (hx:X) : @Bool.rec (fun _=>Prop) Y X b:=by subst h;exact hx
theorem ifF {b:Bool} {X Y:Prop} (h:b=false) (hy:Y) : @Bool.rec (fun _=>Prop) Y X b:=by subst h;exact hy
theorem Uo {b:Bool} {X:Prop} (h:b=true) (h1:X) : @Bool.rec (fun _=>Prop) (EP P Gl).fail X b:=by subst h;exact h1
theorem Z1w {β:Type} {l:List β} {i:Int} {k : β->Prop} {x : β} (h:idx l i=some x) (hk:k x):Qmf (EP P Gl) l i k:=by unfold Qmf;rw [h];exact hk
theorem Jm {f:Nat} {args:List AV} {pargs:List PV} {r:PV} {H:List AObj} {k:AV->List AObj->List Nat->List Nat->Prop} (hp:Q5r P Gl f pargs r) (hf:FrzL (fun _=>False) H args pargs) (hk:k (.p r) H [] []):Qv P Gl f args H k:=
 .inl ⟨[],[],.p r,fun s h=>(by cases h),fun _ _=>Y1 hp (hf.K (fun _ _ h _=>h.elim)) ⟨rfl,rfl⟩,hk⟩
end
end
end Go.Av
namespace Go.Av
noncomputable section
section
variable {P:Program} {Gl:Nat->Option (List PV)}
theorem Vd {α β:Type} {x:Option α} {f : α->Option β} {r : β} (h:x.bind f=some r):∃ v,x=some v∧f v=some r:=by
 cases x with
 | none=>cases h
 | some v=>exact ⟨v,rfl,h⟩
theorem ifO {b:Bool} {R:Type} {x y:Option R} {r:R} {X Y:Prop} (h:cond b x y=some r) (h1:b=true->x=some r->X) (h2:b=false->y=some r->Y) : @Bool.rec (fun _=>Prop) Y X b:=by
 cases b
 ·exact h2 rfl h
 exact h1 rfl h
theorem Q3x {b:Bool} {R:Type} {x:Option R} {r:R} (h:cond b x none=some r):b=true∧x=some r:=by
 cases b
 ·cases h
 exact ⟨rfl,h⟩
theorem Qb {α:Type} {a r : α} (h:some a=some r):a=r:=by cases h;rfl
theorem Qu4 {b:Bool} (h:b=false):(!b)=true:=by rw [h];rfl
theorem Qf2 {b:Bool} (h:(!b)=true):b=false:=by cases b<;>first | rfl | cases h
theorem Qtc {b:Bool} (h:b=true):(!b)=false:=by rw [h];rfl
def Qg {T:Type} (c:T->List PV) (l:List T):List (List PV):=l.map c
theorem Q3b {T:Type} (c:T->List PV) (l:List T):(Qg c l).length=l.length:=by simp [Qg]
theorem Qr0 {α β:Type} {l:List α} {i:Int} {y : α} (f : α->β) (h:idx l i=some y):idx (l.map f) i=some (f y):=by
 cases i with
 | ofNat n=>simp only [idx,Lk] at h ⊢;rw [h];rfl
 | negSucc n=>cases h
theorem idx_rows {T:Type} {c:T->List PV} {l:List T} {i:Int} {y:T} (h:idx l i=some y):idx (Qg c l) i=some (c y):=Qr0 c h
@[reducible] def cI (k:IntKind) (n:Int):List PV := [.int k n]
@[reducible] def cU8 (b:UInt8):List PV := [.int .u8 (b.toNat:Int)]
@[reducible] def cB (b:Bool):List PV := [.bool b]
@[reducible] def cS (b:List UInt8):List PV := [.str b]
@[reducible] def cL {T:Type} (e:Nat) (c:T->List PV) (l:List T):List PV := [.slice e (Qg c l)]
theorem wN:Qr6 [] []:=trivial
abbrev Q0w (k:IntKind) (x y:Int):Int:=k.wrap (BitVec.ofInt k.bits x &&& BitVec.ofInt k.bits y).toNat
abbrev orI (k:IntKind) (x y:Int):Int:=k.wrap (BitVec.ofInt k.bits x ||| BitVec.ofInt k.bits y).toNat
abbrev Qfs (k:IntKind) (x y:Int):Int:=k.wrap (BitVec.ofInt k.bits x ^^^ BitVec.ofInt k.bits y).toNat
abbrev V9 (k:IntKind) (x y:Int):Int:=k.wrap (BitVec.ofInt k.bits x &&& ~~~ BitVec.ofInt k.bits y).toNat
abbrev Q37 (k:IntKind) (x y:Int):Int:=k.wrap (x * 2 ^ (min y.toNat k.bits))
abbrev Qa7 (k:IntKind) (x y:Int):Int:=x.fdiv (2 ^ (min y.toNat k.bits))
end
end
end Go.Av
