/- Part of FrommqttCalls: the law returns true; no condition. -/
import Derived.Test.YtbcddiagcaddbaaGreatDoorAvBridges
import Derived.Test.YtbcddiagcaddbaaGreatDoorCards
import Derived.Test.YtbcddiagcaddbaaGreatDoorTie
import Derived.KernelRfl
import Derived.Test.YtbcddiagcaddbaaGreatDoorAvOwn
set_option linter.all false
namespace Go.Av
noncomputable section
open Go.Proofs Go.Proofs.YtbcddiagcaddbaaGreatDoor
def G1:Nat->Option (List PV)
 | 1=>some (Go.Pinned.utf8FirstZ.map fun (n:Nat) => .int .u8 (n:Int))
 | 2=>some ([.int .u8 128,.int .u8 191,.int .u8 160,.int .u8 191,.int .u8 128,.int .u8 159,.int .u8 144,.int .u8 191,.int .u8 128,.int .u8 143,.int .u8 0,.int .u8 0,.int .u8 0,.int .u8 0,.int .u8 0,.int .u8 0,.int .u8 0,.int .u8 0,.int .u8 0,.int .u8 0,.int .u8 0,.int .u8 0,.int .u8 0,.int .u8 0,.int .u8 0,.int .u8 0,.int .u8 0,.int .u8 0,.int .u8 0,.int .u8 0,.int .u8 0,.int .u8 0])
 | _=>none
def T1:List TypeId := [3,4,5,9,22,24,25,26,28,29,31,33,34,36,38,40,58,78,80,83,85,87,328,330,331]
def L1:List (String×DataW Unit) := [("unicode/utf8.acceptRanges",Rows.laid_unicode_utf8_acceptRanges),("unicode/utf8.first",Rows.laid_unicode_utf8_first)]
theorem Z1a:Qhi Tryz.prog T1=true:=by kernel_rfl
theorem Z95:laidOutB Tryz.prog=true:=by kernel_rfl
set_option maxRecDepth 100000 in
theorem Qte:Qg2 Rows.laid_unicode_utf8_first=some (Go.Pinned.utf8FirstZ.map fun (n:Nat) => .int .u8 (n:Int)):=by kernel_rfl
theorem Z9v (W:World) (h:laidMetH Tryz.prog L1 W):GlobOK G1 ⟨fun _=>none,fun _=>False⟩ [] W:=by
 refine Qos (laid:=L1) Z1a (fun g cs hg=>?_) h
 match g,hg with
 | 1,hg=>cases hg;exact ⟨"unicode/utf8.first",Rows.laid_unicode_utf8_first,328,.tail _ (.head _),by kernel_rfl,by kernel_rfl,by decide,Qte⟩
 | 2,hg=>cases hg;exact ⟨"unicode/utf8.acceptRanges",Rows.laid_unicode_utf8_acceptRanges,331,.head _,by kernel_rfl,by kernel_rfl,by decide,by kernel_rfl⟩
 | 0,hg=>cases hg
 | n+3,hg=>cases hg
theorem Zuu:ownKnob Tryz.prog.godebug=none:=by kernel_rfl
def Z5t (vs:Array Value):Obj->Obj
 | .cells _ t frozen => .cells vs t frozen
 | o=>o
def Z4n:Array Value := #[.int .u8 128,.int .u8 191,.int .u8 160,.int .u8 191,.int .u8 128,.int .u8 159,.int .u8 144,.int .u8 191,.int .u8 128,.int .u8 143,.int .u8 0,.int .u8 0,.int .u8 0,.int .u8 0,.int .u8 0,.int .u8 0,.int .u8 0,.int .u8 0,.int .u8 0,.int .u8 0,.int .u8 0,.int .u8 0,.int .u8 0,.int .u8 0,.int .u8 0,.int .u8 0,.int .u8 0,.int .u8 0,.int .u8 0,.int .u8 0,.int .u8 0,.int .u8 0]
def Z65:Array Value:=(Go.Pinned.utf8FirstZ.map fun (n:Nat)=>Value.int .u8 (n:Int)).toArray
noncomputable def Qii (os:Os):World:=
 { World.holding Tryz.prog os ⟨#[],#[],[]⟩ with heap:=(((World.holding Tryz.prog os ⟨#[],#[],[]⟩).heap.modify 1 (Z5t Z65)).modify 2 (Z5t Z4n)) }
end
end Go.Av
namespace Go.Av
noncomputable section
def gtab0:List Int:=Go.Pinned.utf8FirstZ.map fun (n:Nat)=>(n:Int)
theorem Qwp:256=gtab0.length:=by kernel_rfl
theorem Qzj:Go.Pinned.utf8FirstZ.map (fun (n:Nat)=>PV.int .u8 (n:Int))=(Q7 (cI .u8) gtab0).flatten:=by kernel_rfl
@[reducible] def cUU (p:Int×Int):List PV := [.int .u8 p.1,.int .u8 p.2]
def gtab1:List (Int×Int) := [(128,191),(160,191),(128,159),(144,191),(128,143),(0,0),(0,0),(0,0),(0,0),(0,0),(0,0),(0,0),(0,0),(0,0),(0,0),(0,0)]
theorem Qvr:16=gtab1.length:=by kernel_rfl
theorem Qzx : [PV.int .u8 128,PV.int .u8 191,PV.int .u8 160,PV.int .u8 191,PV.int .u8 128,PV.int .u8 159,PV.int .u8 144,PV.int .u8 191,PV.int .u8 128,PV.int .u8 143,PV.int .u8 0,PV.int .u8 0,PV.int .u8 0,PV.int .u8 0,PV.int .u8 0,PV.int .u8 0,PV.int .u8 0,PV.int .u8 0,PV.int .u8 0,PV.int .u8 0,PV.int .u8 0,PV.int .u8 0,PV.int .u8 0,PV.int .u8 0,PV.int .u8 0,PV.int .u8 0,PV.int .u8 0,PV.int .u8 0,PV.int .u8 0,PV.int .u8 0,PV.int .u8 0,PV.int .u8 0]=(Q7 cUU gtab1).flatten:=by kernel_rfl
end
end Go.Av
