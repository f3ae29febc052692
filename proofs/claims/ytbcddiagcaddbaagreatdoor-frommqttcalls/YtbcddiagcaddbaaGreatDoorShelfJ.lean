/- Part of FrommqttCalls: the law returns true; no condition. -/
import Derived.Shelf.Strings.OnBuilder
import Derived.Test.YtbcddiagcaddbaaGreatDoorProg
import Derived.Test.YtbcddiagcaddbaaGreatDoorKn1
import Derived.Test.YtbcddiagcaddbaaGreatDoorRound
import Derived.Test.YtbcddiagcaddbaaGreatDoorAvAbb
import Derived.KernelRfl
set_option linter.all false
namespace Go.Proofs
open Go.Proofs.Tryz
open Go.Shelf
def Tryz.lays156_ren:Go.Shelf.Ren:=⟨fun | 156=>330 | 165=>392 | 166=>393 | 169=>394 | 240=>431 | 241=>432 | 276=>469 | 277=>470 | n=>n,fun | 31=>224 | 9=>9 | 3=>3 | 4=>4 | 0=>0 | 20=>20 | 72=>302 | 76=>306 | 70=>300 | 37=>151 | 75=>305 | 127=>341 | 164=>353 | 5=>5 | 80=>214 | n=>n,fun | n=>n⟩
theorem Tryz.lays156:Go.Proofs.Lays.n156 prog lays156_ren := {
 mixed:=by kernel_rfl
 f156:=func330.trans (congrArg some (by kernel_rfl))
 f165:=func392.trans (congrArg some (by kernel_rfl))
 f166:=func393.trans (congrArg some (by kernel_rfl))
 f169:=func394.trans (congrArg some (by kernel_rfl))
 f240:=func431.trans (congrArg some (by kernel_rfl))
 f241:=func432.trans (congrArg some (by kernel_rfl))
 f276:=func469.trans (congrArg some (by kernel_rfl))
 f277:=func470.trans (congrArg some (by kernel_rfl))
 t0:=underlying0
 a0:=isAgg0
 z0:=sizeOf0
 v0:=zeroValue0
 t3:=underlying3
 a3:=isAgg3
 z3:=sizeOf3
 v3:=zeroValue3
 t4:=underlying4
 a4:=isAgg4
 z4:=sizeOf4
 v4:=zeroValue4
 t9:=underlying9
 a9:=isAgg9
 z9:=sizeOf9
 v9:=zeroValue9
 t20:=underlying20
 a20:=isAgg20
 z20:=sizeOf20
 v20:=zeroValue20
 t31:=underlying224
 a31:=isAgg224
 z31:=sizeOf224
 v31:=zeroValue224
 t37:=underlying151
 a37:=isAgg151
 z37:=sizeOf151
 v37:=zeroValue151
 t70:=underlying300
 a70:=isAgg300
 z70:=sizeOf300
 v70:=zeroValue300
 t72:=underlying302
 a72:=isAgg302
 z72:=sizeOf302
 v72:=zeroValue302
 t75:=underlying305
 a75:=isAgg305
 z75:=sizeOf305
 v75:=zeroValue305
 t76:=underlying306
 a76:=isAgg306
 z76:=sizeOf306
 v76:=zeroValue306
 t127:=underlying341
 a127:=isAgg341
 z127:=sizeOf341
 v127:=zeroValue341
 t164:=underlying353
 a164:=isAgg353
 z164:=sizeOf353
 v164:=zeroValue353 }
theorem Tryz.Builder_Extra_156:Builder.Extra prog lays156_ren := {
 sizeBuilder:=by kernel_rfl
 liesBuilder:=by kernel_rfl
 t5:=underlying5
 a5:=isAgg5
 z5:=sizeOf5
 v5:=zeroValue5
 infoByte:=by kernel_rfl
 cellsByte:=by kernel_rfl
 sizeByte:=by kernel_rfl
 neB5:=by decide }
open Go.RowKit in
theorem Tryz.strings_Join_none (a:Option Addr) (c:Nat) (sep:ByteArray) (w:World) :
  Calls prog 330 #[.slice a 0 c,.string sep] w fun e w'=>e = .returned (.string ⟨#[]⟩)∧w'=w:=Any.strings_Join_none lays156 Builder_Extra_156 a c sep w
open Go.RowKit in
theorem Tryz.strings_Join (bk o c:Nat) (xs:List ByteArray) (sep:ByteArray) (w:World) (hcells:∀ (j:Nat) x,xs[j]? = some x->w.cell? ⟨bk,o+j,none⟩=some (.string x)) (hbk:bk<w.heap.size) (hN:xs.length≤140737488355328) (hcap:xs.length≤c) (hlen:(Lib.join (xs.map (·.data.toList)) sep.data.toList).length≤140737488355328) :
  Calls prog 330 #[.slice (some ⟨bk,o,none⟩) xs.length c,.string sep] w fun e w'=>e = .returned (.string ⟨(Lib.join (xs.map (·.data.toList)) sep.data.toList).toArray⟩)∧Below w.heap.size w w':=Any.strings_Join lays156 Builder_Extra_156 bk o c xs sep w hcells hbk hN hcap hlen
end Go.Proofs
namespace Go.Av
noncomputable section
open Go.Proofs
set_option maxRecDepth 1000000
theorem Qyd (l:List (List UInt8)):(l.map fun s=>(⟨⟨s⟩⟩:ByteArray)).map (·.data.toList)=l:=by
 induction l with
 | nil=>rfl
 | cons s r ih=>exact congrArg (s :: ·) ih
theorem Qwl {l:List (List UInt8)} {sep:List UInt8} (hN:l.length≤140737488355328) (hlen:(Go.Lib.join l sep).length≤140737488355328):Qd9 Tryz.prog G1 330 [.slice 1 (Q7 cS l),.str sep] (.str (Go.Lib.join l sep)):=by
 refine ⟨by unfold Z1s;rw [Tryz.func330];rfl,fun bad w cargs hb hs hr _=>?_⟩;obtain ⟨L⟩:=cargs
 match L,hs,hr with
 | [x,y],_,hr=>
  have h0:RelP (fun c=>¬ bad c) w (.slice 1 (Q7 cS l)) x:=hr 0 _ rfl;have h1:RelP (fun c=>¬ bad c) w (.str sep) y:=hr 1 _ rfl;cases h1;generalize hrows:Q7 cS l=rows at h0
  have hll:l.length=rows.length:=by rw [← hrows,Q3]
  by_cases hl:rows = []
  ·have:l = []:=Mh.1 (by rw [hll,hl];rfl);subst this
   have hx:∃ a c,x = .slice a 0 c:=by
    subst hl
    cases h0 with
    | sliceE a c _=>exact ⟨_,_,rfl⟩
    | slice _ _ blk off cap val=>exact ⟨_,_,rfl⟩
   obtain ⟨a,c,rfl⟩:=hx;refine (Tryz.strings_Join_none a c ⟨⟨sep⟩⟩ w).mono fun e w' h=>?_;obtain ⟨rfl,rfl⟩:=h;exact ⟨_,rfl,.str _,.refl _ _⟩
  cases h0 with
  | sliceE a c _=>exact absurd rfl hl
  | slice _ _ blk off cap val he hr hcap hS hc h1 hv=>
   have hat:∀ (j:Nat) (s:List UInt8),l[j]? = some s->w.cell? ⟨blk,off+j,none⟩=some (.string ⟨⟨s⟩⟩):=by
    intro j s hj
    have hrj:(rows:List (List PV))[j]? = some (cS s):=by rw [← hrows];simp [Q7,hj]
    have e1:=hc j _ hrj 0 (.str s) rfl;have e2:=hv j _ hrj 0 (.str s) rfl;generalize val j 0=v at e1 e2;cases e2;simpa using e1
   have hbk:blk<w.heap.size:=by
    obtain ⟨s,r,hsr⟩:∃ s r,l=s::r:=by
     cases l with
     | nil=>rw [← hrows] at hl;exact absurd rfl hl
     | cons s r=>exact ⟨s,r,rfl⟩
    have:=hat 0 s (by rw [hsr];rfl)
    by_cases hlt:blk<w.heap.size
    ·exact hlt
    simp [World.cell?,Array.getElem?_eq_none (by omega:w.heap.size≤blk)] at this
   have hx:(l.map fun s=>(⟨⟨s⟩⟩:ByteArray)).length=rows.length:=by rw [Mm,hll]
   have hm:(l.map fun s=>(⟨⟨s⟩⟩:ByteArray)).map (·.data.toList)=l:=Qyd l
   have:=Tryz.strings_Join blk off cap (l.map fun s=>(⟨⟨s⟩⟩:ByteArray)) ⟨⟨sep⟩⟩ w (fun j x hj=>by
    rw [Lo] at hj
    cases hlj:l[j]? with
    | none=>rw [hlj] at hj;cases hj
    | some s=>rw [hlj] at hj;cases hj;exact hat j s hlj) hbk (by rw [hx,← hll];exact hN) (by rw [hx];exact hcap) (by rw [hm];exact hlen)
   rw [hx,hm] at this;refine this.mono fun e w' h=>?_;obtain ⟨rfl,hb⟩:=h;exact ⟨_,rfl,.str _,hb⟩
def Q8w (_N:Nat) (l:List (List UInt8)) (sep:List UInt8):Option (List UInt8):=
 cond (Nat.ble l.length 140737488355328&&Nat.ble (Go.Lib.join l sep).length 140737488355328) (some (Go.Lib.join l sep)) none
theorem Qh1 {N} {l:List (List UInt8)} {sep r:List UInt8} (h:Q8w N l sep=some r):Qd9 Tryz.prog G1 330 [.slice 1 (Q7 cS l),.str sep] (.str r):=by
 obtain ⟨h2,h3⟩:=Q48 h;cases h3;simp only [La,Lm] at h2;exact Qwl h2.1 h2.2
end
end Go.Av
namespace Go.Av
noncomputable section
section
variable {P:Program} {Gl:Nat->Option (List PV)}
theorem Qar {f e:Nat} {H:List AObj} {Q:AV->List AObj->Prop} (h1:Ue P Gl f [.p .nilSlice] H Q) (h2:Ue P Gl f [.p .sliceS] H Q):Ue P Gl f [.p (.slice e [])] H Q:=by
 refine ⟨h1.1,fun θ w cargs ha hH hG=>?_⟩;have hs:cargs.size=1:=ha.1;have hr:=ha.2 0 _ rfl
 have key:cargs.getD 0 Zn = .slice none 0 0∨∃ a c,cargs.getD 0 Zn = .slice (some a) 0 c:=by
  generalize cargs.getD 0 Zn=v at hr
  cases hr with
  | p _ _ hp=>
   cases hp with
   | sliceE _ a c hn=>
    cases a with
    | none=>rw [hn rfl];exact .inl rfl
    | some a=>exact .inr ⟨a,c,rfl⟩
   | slice _ _ blk off cap val he hr hcap hS hc hone hv=>exact .inr ⟨_,cap,rfl⟩
 rcases key with e | ⟨a,c,e⟩
 ·refine h1.2 θ w cargs ⟨hs,fun i u hu=>?_⟩ hH hG
  cases i with
  | zero=>simp at hu;subst hu;rw [e];exact .p _ _ .nilSlice
  | succ i=>simp at hu
 refine h2.2 θ w cargs ⟨hs,fun i u hu=>?_⟩ hH hG
 cases i with
 | zero=>simp at hu;subst hu;rw [e];exact .p _ _ (.sliceS a c)
 | succ i=>simp at hu
end
end
end Go.Av
