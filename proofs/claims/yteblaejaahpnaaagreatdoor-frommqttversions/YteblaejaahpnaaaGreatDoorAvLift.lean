/- Part of the proof of FrommqttVersions: for every input the law returns true; no condition. -/
import Derived.Test.YteblaejaahpnaaaGreatDoorAvTac
set_option linter.all false
namespace Go.Av
noncomputable section
section
variable {P:Program} {Gl:Nat→Option (List PV)}
theorem Q54 {α β:Type} {x:Option α} {f : α→Option β} {r : β} (h:x.bind f=some r):∃ v,x=some v∧f v=some r:=by
 cases x with
 | none=>cases h
 | some v=>exact ⟨v,rfl,h⟩
theorem ifO {b:Bool} {R:Type} {x y:Option R} {r:R} {X Y:Prop} (h:cond b x y=some r) (h1:b=true→x=some r→X) (h2:b=false→y=some r→Y) : @Bool.rec (fun _=>Prop) Y X b:=by
 cases b
 ·exact h2 rfl h
 exact h1 rfl h
theorem Qi2 {b:Bool} {R:Type} {x:Option R} {r:R} (h:cond b x none=some r):b=true∧x=some r:=by
 cases b
 ·cases h
 exact ⟨rfl,h⟩
theorem Qk {α:Type} {a r : α} (h:some a=some r):a=r:=by cases h;rfl
theorem Qs9 {b:Bool} (h:b=false):(!b)=true:=by rw [h];rfl
def Qc {T:Type} (c:T→List PV) (l:List T):List (List PV):=l.map c
theorem Qa {T:Type} (c:T→List PV) (l:List T):(Qc c l).length=l.length:=by simp [Qc]
theorem Qov {α β:Type} {l:List α} {i:Int} {y : α} (f : α → β) (h:idx l i=some y):idx (l.map f) i=some (f y):=by
 cases i with
 | ofNat n=>simp only [idx,Lk] at h ⊢;rw [h];rfl
 | negSucc n=>cases h
theorem idx_rows {T:Type} {c:T→List PV} {l:List T} {i:Int} {y:T} (h:idx l i=some y):idx (Qc c l) i=some (c y):=Qov c h
@[reducible] def cI (k:IntKind) (n:Int):List PV := [.int k n]
@[reducible] def cU8 (b:UInt8):List PV := [.int .u8 (b.toNat:Int)]
@[reducible] def cB (b:Bool):List PV := [.bool b]
@[reducible] def cS (b:List UInt8):List PV := [.str b]
@[reducible] def cL {T:Type} (e:Nat) (c:T→List PV) (l:List T):List PV := [.slice e (Qc c l)]
theorem wN:Qoa [] []:=trivial
abbrev Qpz (k:IntKind) (x y:Int):Int:=k.wrap (BitVec.ofInt k.bits x &&& BitVec.ofInt k.bits y).toNat
abbrev orI (k:IntKind) (x y:Int):Int:=k.wrap (BitVec.ofInt k.bits x ||| BitVec.ofInt k.bits y).toNat
abbrev Qw9 (k:IntKind) (x y:Int):Int:=k.wrap (BitVec.ofInt k.bits x ^^^ BitVec.ofInt k.bits y).toNat
abbrev Qkt (k:IntKind) (x y:Int):Int:=k.wrap (BitVec.ofInt k.bits x &&& ~~~ BitVec.ofInt k.bits y).toNat
abbrev Qmk (k:IntKind) (x y:Int):Int:=k.wrap (x * 2 ^ (min y.toNat k.bits))
abbrev Qiz (k:IntKind) (x y:Int):Int:=x.fdiv (2 ^ (min y.toNat k.bits))
end
end
end Go.Av
