/- Part of the proof of FrommqttVersions: for every input the law returns true; no condition. -/
import Derived.Test.YteblaejaahpnaaaGreatDoorAvBridges
import Derived.Test.YteblaejaahpnaaaGreatDoorCards
import Derived.Test.YteblaejaahpnaaaGreatDoorTie
import Derived.KernelRfl
import Derived.Test.YteblaejaahpnaaaGreatDoorAvOwn
set_option linter.all false
namespace Go.Av
noncomputable section
open Go.Proofs Go.Proofs.YteblaejaahpnaaaGreatDoor
def G1:Nat→Option (List PV)
 | 1=>some (Go.Pinned.utf8FirstZ.map fun (n:Nat) => .int .u8 (n:Int))
 | 2=>some ([.int .u8 128,.int .u8 191,.int .u8 160,.int .u8 191,.int .u8 128,.int .u8 159,.int .u8 144,.int .u8 191,.int .u8 128,.int .u8 143,.int .u8 0,.int .u8 0,.int .u8 0,.int .u8 0,.int .u8 0,.int .u8 0,.int .u8 0,.int .u8 0,.int .u8 0,.int .u8 0,.int .u8 0,.int .u8 0,.int .u8 0,.int .u8 0,.int .u8 0,.int .u8 0,.int .u8 0,.int .u8 0,.int .u8 0,.int .u8 0,.int .u8 0,.int .u8 0])
 | _=>none
def T1:List TypeId := [3,4,5,9,22,24,25,26,28,29,31,33,34,36,38,62,89,91,94,96,98,352,354,355]
def L1:List (String×DataW Unit) := [("unicode/utf8.acceptRanges",Rows.laid_unicode_utf8_acceptRanges),("unicode/utf8.first",Rows.laid_unicode_utf8_first)]
theorem Qmz:Q7r Tryz.prog T1=true:=by kernel_rfl
theorem Qsx:laidOutB Tryz.prog=true:=by kernel_rfl
set_option maxRecDepth 100000 in
theorem Qil:Q6e Rows.laid_unicode_utf8_first=some (Go.Pinned.utf8FirstZ.map fun (n:Nat) => .int .u8 (n:Int)):=by kernel_rfl
theorem Qt6 (W:World) (h:laidMetH Tryz.prog L1 W):GlobOK G1 ⟨fun _=>none,fun _=>False⟩ [] W:=by
 refine Qdb (laid:=L1) Qmz (fun g cs hg=>?_) h
 match g,hg with
 | 1,hg=>cases hg;exact ⟨"unicode/utf8.first",Rows.laid_unicode_utf8_first,352,.tail _ (.head _),by kernel_rfl,by kernel_rfl,by decide,Qil⟩
 | 2,hg=>cases hg;exact ⟨"unicode/utf8.acceptRanges",Rows.laid_unicode_utf8_acceptRanges,355,.head _,by kernel_rfl,by kernel_rfl,by decide,by kernel_rfl⟩
 | 0,hg=>cases hg
 | n+3,hg=>cases hg
theorem Za7:ownKnob Tryz.prog.godebug=none:=by kernel_rfl
def Qpu (vs:Array Value):Obj→Obj
 | .cells _ t frozen => .cells vs t frozen
 | o=>o
def Qpm:Array Value := #[.int .u8 128,.int .u8 191,.int .u8 160,.int .u8 191,.int .u8 128,.int .u8 159,.int .u8 144,.int .u8 191,.int .u8 128,.int .u8 143,.int .u8 0,.int .u8 0,.int .u8 0,.int .u8 0,.int .u8 0,.int .u8 0,.int .u8 0,.int .u8 0,.int .u8 0,.int .u8 0,.int .u8 0,.int .u8 0,.int .u8 0,.int .u8 0,.int .u8 0,.int .u8 0,.int .u8 0,.int .u8 0,.int .u8 0,.int .u8 0,.int .u8 0,.int .u8 0]
def Qpy:Array Value:=(Go.Pinned.utf8FirstZ.map fun (n:Nat)=>Value.int .u8 (n:Int)).toArray
noncomputable def Q97 (os:Os):World:=
 { World.holding Tryz.prog os ⟨#[],#[],[]⟩ with heap:=(((World.holding Tryz.prog os ⟨#[],#[],[]⟩).heap.modify 1 (Qpu Qpy)).modify 2 (Qpu Qpm)) }
end
end Go.Av
namespace Go.Av
noncomputable section
@[reducible] def cUU (p:Int×Int):List PV := [.int .u8 p.1,.int .u8 p.2]
def Z8z:List (Int×Int) := [(128,191),(160,191),(128,159),(144,191),(128,143),(0,0),(0,0),(0,0),(0,0),(0,0),(0,0),(0,0),(0,0),(0,0),(0,0),(0,0)]
end
end Go.Av
