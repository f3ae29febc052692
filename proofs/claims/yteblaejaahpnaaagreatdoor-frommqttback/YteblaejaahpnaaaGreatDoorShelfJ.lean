/- Part of the proof of FrommqttBack: for every input the law returns true; no condition. -/
import Derived.Shelf.Strings.OnBuilder
import Derived.Test.YteblaejaahpnaaaGreatDoorProg
import Derived.Test.YteblaejaahpnaaaGreatDoorKn1
import Derived.Test.YteblaejaahpnaaaGreatDoorRound
import Derived.Test.YteblaejaahpnaaaGreatDoorAvAbb
import Derived.KernelRfl
set_option linter.all false
namespace Go.Proofs
open Go.Proofs.Tryz
open Go.Shelf
def Tryz.lays156_ren:Go.Shelf.Ren:=⟨fun | 156=>366 | 165=>426 | 166=>427 | 169=>428 | 240=>458 | 241=>459 | 276=>493 | 277=>494 | n=>n,fun | 31=>207 | 9=>9 | 3=>3 | 4=>4 | 0=>0 | 20=>20 | 72=>326 | 76=>330 | 70=>324 | 37=>147 | 75=>329 | 127=>361 | 164=>372 | 5=>5 | 80=>206 | n=>n,fun | n=>n⟩
theorem Tryz.lays156:Go.Proofs.Lays.n156 prog lays156_ren := {
 mixed:=by kernel_rfl
 f156:=func366.trans (congrArg some (by kernel_rfl))
 f165:=func426.trans (congrArg some (by kernel_rfl))
 f166:=func427.trans (congrArg some (by kernel_rfl))
 f169:=func428.trans (congrArg some (by kernel_rfl))
 f240:=func458.trans (congrArg some (by kernel_rfl))
 f241:=func459.trans (congrArg some (by kernel_rfl))
 f276:=func493.trans (congrArg some (by kernel_rfl))
 f277:=func494.trans (congrArg some (by kernel_rfl))
 t0:=underlying0
 a0:=isAgg0
 z0:=sizeOf0
 v0:=zeroValue0
 t3:=underlying3
 a3:=isAgg3
 z3:=sizeOf3
 v3:=zeroValue3
 t4:=underlying4
 a4:=isAgg4
 z4:=sizeOf4
 v4:=zeroValue4
 t9:=underlying9
 a9:=isAgg9
 z9:=sizeOf9
 v9:=zeroValue9
 t20:=underlying20
 a20:=isAgg20
 z20:=sizeOf20
 v20:=zeroValue20
 t31:=underlying207
 a31:=isAgg207
 z31:=sizeOf207
 v31:=zeroValue207
 t37:=underlying147
 a37:=isAgg147
 z37:=sizeOf147
 v37:=zeroValue147
 t70:=underlying324
 a70:=isAgg324
 z70:=sizeOf324
 v70:=zeroValue324
 t72:=underlying326
 a72:=isAgg326
 z72:=sizeOf326
 v72:=zeroValue326
 t75:=underlying329
 a75:=isAgg329
 z75:=sizeOf329
 v75:=zeroValue329
 t76:=underlying330
 a76:=isAgg330
 z76:=sizeOf330
 v76:=zeroValue330
 t127:=underlying361
 a127:=isAgg361
 z127:=sizeOf361
 v127:=zeroValue361
 t164:=underlying372
 a164:=isAgg372
 z164:=sizeOf372
 v164:=zeroValue372 }
theorem Tryz.Builder_Extra_156:Builder.Extra prog lays156_ren := {
 sizeBuilder:=by kernel_rfl
 liesBuilder:=by kernel_rfl
 t5:=underlying5
 a5:=isAgg5
 z5:=sizeOf5
 v5:=zeroValue5
 infoByte:=by kernel_rfl
 cellsByte:=by kernel_rfl
 sizeByte:=by kernel_rfl
 neB5:=by decide }
open Go.RowKit in
theorem Tryz.strings_Join_none (a:Option Addr) (c:Nat) (sep:ByteArray) (w:World) :
  Calls prog 366 #[.slice a 0 c,.string sep] w fun e w'=>e = .returned (.string ⟨#[]⟩)∧w'=w:=Any.strings_Join_none lays156 Builder_Extra_156 a c sep w
open Go.RowKit in
theorem Tryz.strings_Join (bk o c:Nat) (xs:List ByteArray) (sep:ByteArray) (w:World) (hcells:∀ (j:Nat) x,xs[j]? = some x→w.cell? ⟨bk,o+j,none⟩=some (.string x)) (hbk:bk<w.heap.size) (hN:xs.length≤140737488355328) (hcap:xs.length≤c) (hlen:(Lib.join (xs.map (·.data.toList)) sep.data.toList).length≤140737488355328) :
  Calls prog 366 #[.slice (some ⟨bk,o,none⟩) xs.length c,.string sep] w fun e w'=>e = .returned (.string ⟨(Lib.join (xs.map (·.data.toList)) sep.data.toList).toArray⟩)∧Below w.heap.size w w':=Any.strings_Join lays156 Builder_Extra_156 bk o c xs sep w hcells hbk hN hcap hlen
end Go.Proofs
namespace Go.Av
noncomputable section
open Go.Proofs
set_option maxRecDepth 1000000
theorem Qz0 (l:List (List UInt8)):(l.map fun s=>(⟨⟨s⟩⟩:ByteArray)).map (·.data.toList)=l:=by
 induction l with
 | nil=>rfl
 | cons s r ih=>exact congrArg (s :: ·) ih
theorem Quo {l:List (List UInt8)} {sep:List UInt8} (hN:l.length≤140737488355328) (hlen:(Go.Lib.join l sep).length≤140737488355328):Qci Tryz.prog G1 366 [.slice 1 (Q6 cS l),.str sep] (.str (Go.Lib.join l sep)):=by
 refine ⟨by unfold Z0s;rw [Tryz.func366];rfl,fun bad w cargs hb hs hr _=>?_⟩;obtain ⟨L⟩:=cargs
 match L,hs,hr with
 | [x,y],_,hr=>
  have h0:RelP (fun c=>¬ bad c) w (.slice 1 (Q6 cS l)) x:=hr 0 _ rfl;have h1:RelP (fun c=>¬ bad c) w (.str sep) y:=hr 1 _ rfl;cases h1;generalize hrows:Q6 cS l=rows at h0
  have hll:l.length=rows.length:=by rw [← hrows,Q4]
  by_cases hl:rows = []
  ·have:l = []:=Mi.1 (by rw [hll,hl];rfl);subst this
   have hx:∃ a c,x = .slice a 0 c:=by
    subst hl
    cases h0 with
    | sliceE a c _=>exact ⟨_,_,rfl⟩
    | slice _ _ blk off cap val=>exact ⟨_,_,rfl⟩
   obtain ⟨a,c,rfl⟩:=hx;refine (Tryz.strings_Join_none a c ⟨⟨sep⟩⟩ w).mono fun e w' h=>?_;obtain ⟨rfl,rfl⟩:=h;exact ⟨_,rfl,.str _,.refl _ _⟩
  cases h0 with
  | sliceE a c _=>exact absurd rfl hl
  | slice _ _ blk off cap val he hr hcap hS hc h1 hv=>
   have hat:∀ (j:Nat) (s:List UInt8),l[j]? = some s→w.cell? ⟨blk,off+j,none⟩=some (.string ⟨⟨s⟩⟩):=by
    intro j s hj
    have hrj:(rows:List (List PV))[j]? = some (cS s):=by rw [← hrows];simp [Q6,hj]
    have e1:=hc j _ hrj 0 (.str s) rfl;have e2:=hv j _ hrj 0 (.str s) rfl;generalize val j 0=v at e1 e2;cases e2;simpa using e1
   have hbk:blk<w.heap.size:=by
    obtain ⟨s,r,hsr⟩:∃ s r,l=s::r:=by
     cases l with
     | nil=>rw [← hrows] at hl;exact absurd rfl hl
     | cons s r=>exact ⟨s,r,rfl⟩
    have:=hat 0 s (by rw [hsr];rfl)
    by_cases hlt:blk<w.heap.size
    ·exact hlt
    simp [World.cell?,Array.getElem?_eq_none (by omega:w.heap.size≤blk)] at this
   have hx:(l.map fun s=>(⟨⟨s⟩⟩:ByteArray)).length=rows.length:=by rw [Mm,hll]
   have hm:(l.map fun s=>(⟨⟨s⟩⟩:ByteArray)).map (·.data.toList)=l:=Qz0 l
   have:=Tryz.strings_Join blk off cap (l.map fun s=>(⟨⟨s⟩⟩:ByteArray)) ⟨⟨sep⟩⟩ w (fun j x hj=>by
    rw [Lo] at hj
    cases hlj:l[j]? with
    | none=>rw [hlj] at hj;cases hj
    | some s=>rw [hlj] at hj;cases hj;exact hat j s hlj) hbk (by rw [hx,← hll];exact hN) (by rw [hx];exact hcap) (by rw [hm];exact hlen)
   rw [hx,hm] at this;refine this.mono fun e w' h=>?_;obtain ⟨rfl,hb⟩:=h;exact ⟨_,rfl,.str _,hb⟩
def Q8g (_N:Nat) (l:List (List UInt8)) (sep:List UInt8):Option (List UInt8):=
 cond (Nat.ble l.length 140737488355328&&Nat.ble (Go.Lib.join l sep).length 140737488355328) (some (Go.Lib.join l sep)) none
theorem Qft {N} {l:List (List UInt8)} {sep r:List UInt8} (h:Q8g N l sep=some r):Qci Tryz.prog G1 366 [.slice 1 (Q6 cS l),.str sep] (.str r):=by
 obtain ⟨h2,h3⟩:=Q99 h;cases h3;simp only [La,Ln] at h2;exact Quo h2.1 h2.2
end
end Go.Av
namespace Go.Av
noncomputable section
section
variable {P:Program} {Gl:Nat→Option (List PV)}
theorem Q9s {f e:Nat} {H:List AObj} {Q:AV→List AObj→Prop} (h1:U7 P Gl f [.p .nilSlice] H Q) (h2:U7 P Gl f [.p .sliceS] H Q):U7 P Gl f [.p (.slice e [])] H Q:=by
 refine ⟨h1.1,fun θ w cargs ha hH hG=>?_⟩;have hs:cargs.size=1:=ha.1;have hr:=ha.2 0 _ rfl
 have key:cargs.getD 0 Zp = .slice none 0 0∨∃ a c,cargs.getD 0 Zp = .slice (some a) 0 c:=by
  generalize cargs.getD 0 Zp=v at hr
  cases hr with
  | p _ _ hp=>
   cases hp with
   | sliceE _ a c hn=>
    cases a with
    | none=>rw [hn rfl];exact .inl rfl
    | some a=>exact .inr ⟨a,c,rfl⟩
   | slice _ _ blk off cap val he hr hcap hS hc hone hv=>exact .inr ⟨_,cap,rfl⟩
 rcases key with e | ⟨a,c,e⟩
 ·refine h1.2 θ w cargs ⟨hs,fun i u hu=>?_⟩ hH hG
  cases i with
  | zero=>simp at hu;subst hu;rw [e];exact .p _ _ .nilSlice
  | succ i=>simp at hu
 refine h2.2 θ w cargs ⟨hs,fun i u hu=>?_⟩ hH hG
 cases i with
 | zero=>simp at hu;subst hu;rw [e];exact .p _ _ (.sliceS a c)
 | succ i=>simp at hu
end
end
end Go.Av
