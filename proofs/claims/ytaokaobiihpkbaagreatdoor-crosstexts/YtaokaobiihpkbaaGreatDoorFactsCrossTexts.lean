/- Part of the proof of CrossTexts: for every input the law returns true; no condition. -/
import Derived.Test.YtaokaobiihpkbaaGreatDoorSeat1
import Derived.Test.YtaokaobiihpkbaaGreatDoorAvBridges
import Derived.Test.YtaokaobiihpkbaaGreatDoorAvTac
import Derived.Test.YtaokaobiihpkbaaGreatDoorOks
set_option linter.all false
namespace Go.Proofs.YtaokaobiihpkbaaGreatDoor.CrossTexts
open Go.Av
set_option maxRecDepth 100000
theorem Z0j:(Rows.crossTextsRow.wf (OpenSpec.ofChange (OpenSpec.ofChange Rows.crossTextsSpec).bare))=true:=by kernel_rfl
theorem Z12:(laidOutB Tryz.prog)=true:=by kernel_rfl
theorem Z0r:(mapsRowed Tryz.prog)=true:=by kernel_rfl
theorem Z1d:(Tryz.f3.params.all (Tryz.prog.readableRec ·))=true:=by kernel_rfl
theorem Z1i:(namedTie Tryz.prog Rows.crossTextsRow.named (OpenSpec.ofChange Rows.crossTextsSpec).bare.vars)=true:=by kernel_rfl
theorem Z19:((Rows.crossTextsRow.stops == []))=true:=by kernel_rfl
theorem Z0u:((Tryz.prog.stops == []))=true:=by kernel_rfl
theorem Z16:((Rows.crossTextsRow.knobs == []))=true:=by kernel_rfl
theorem Z1a:((Tryz.prog.stopKnobs == []))=true:=by kernel_rfl
theorem Z1n:((Rows.crossTextsRow.inPlace == Tryz.prog.inPlace 3))=true:=by kernel_rfl
theorem Qyb:((Rows.crossTextsRow.unfollowed == Tryz.prog.unfollowed 3))=true:=by kernel_rfl
theorem Qzy:((Rows.crossTextsRow.recurses == Tryz.prog.recurses 3))=true:=by kernel_rfl
theorem Qxq:((Rows.crossTextsRow.named == Tryz.prog.varsNamed 3))=true:=by kernel_rfl
theorem Qy1:((Rows.crossTextsRow.maps == (Tryz.f3.params.toList++(OpenSpec.ofChange Rows.crossTextsSpec).bare.plain.varTypes Tryz.prog).any (Tryz.prog.mapsRec ·)))=true:=by kernel_rfl
theorem Qz8:((Rows.crossTextsRow.ifaces == (Tryz.f3.params.toList++(OpenSpec.ofChange Rows.crossTextsSpec).bare.plain.varTypes Tryz.prog).any (Tryz.prog.ifacesRec ·)))=true:=by kernel_rfl
theorem Qyu:((Rows.crossTextsRow.mapsOut == Tryz.prog.mapsAmong Tryz.f3.resultTypes.toList))=true:=by kernel_rfl
theorem Qy4:((Rows.crossTextsRow.loops == (Tryz.f3.params.toList++(OpenSpec.ofChange Rows.crossTextsSpec).bare.plain.varTypes Tryz.prog).any (Tryz.prog.loopsFrom ·)))=true:=by kernel_rfl
theorem Qz9:((Rows.crossTextsRow.wideKeys == (Tryz.f3.params.toList++(OpenSpec.ofChange Rows.crossTextsSpec).bare.plain.varTypes Tryz.prog++Tryz.f3.resultTypes.toList).any (Tryz.prog.wideKeysFrom ·)))=true:=by kernel_rfl
theorem Qxt:((OpenSpec.ofChange Rows.crossTextsSpec).bare.vars.all (Tryz.prog.varReadable ·))=true:=by kernel_rfl
theorem Qxv:(Tryz.f3.resultTypes.all (fun t=>Tryz.prog.readableRec t&&decide (t<Tryz.prog.types.size)))=true:=by kernel_rfl
theorem Qxo:((Rows.crossTextsRow.ifacesOut == Tryz.f3.resultTypes.toList.any (Tryz.prog.ifacesRec ·)))=true:=by kernel_rfl
theorem Qyp:((Rows.crossTextsRow.loopsOut == Tryz.f3.resultTypes.toList.any (Tryz.prog.loopsFrom ·)))=true:=by kernel_rfl
theorem Qzd:((Rows.crossTextsRow.plainKeys == Tryz.prog.plainKeys))=true:=by kernel_rfl
theorem Qz5:(Rows.crossTextsRow.shortTexts.isNone)=true:=by kernel_rfl
theorem Qzi:(Tryz.prog.stopsHeard)=true:=by kernel_rfl
theorem Qy5:(Tryz.prog.mayEnter)=true:=by kernel_rfl
theorem Qzc:((Rows.crossTextsRow.lifted == Tryz.prog.liftsFinal))=true:=by kernel_rfl
theorem Qz4:((Tryz.prog.make == some Rows.crossTextsRow.make))=true:=by kernel_rfl
theorem Qyr:((Rows.crossTextsRow.kinds == (if Rows.crossTextsRow.domain.isEmpty then [] else Tryz.f3.params.toList.map fun t=>match Tryz.prog.underlying t with | some (.int k)=>some k | _=>none)))=true:=by kernel_rfl
theorem Qy7:((Rows.crossTextsRow.pinned == Rows.crossTextsRow.pinnedBy))=true:=by kernel_rfl
theorem Qzt:((Rows.crossTextsRow.veiled == (Tryz.f3.params.toList++(OpenSpec.ofChange Rows.crossTextsSpec).bare.plain.varTypes Tryz.prog++Tryz.f3.resultTypes.toList).any (Tryz.prog.veiledRec ·)))=true:=by kernel_rfl
theorem Qzz:(Rows.crossTextsRow.veiledFits Tryz.prog Tryz.f3.params.toList (Tryz.f3.params.toList++(OpenSpec.ofChange Rows.crossTextsSpec).bare.plain.varTypes Tryz.prog++Tryz.f3.resultTypes.toList))=true:=by kernel_rfl
theorem Q80 {a b:Bool} (ha:a=true) (hb:b=true):(a&&b)=true:=by rw [ha,hb];rfl
theorem facts:joinedFacts Tryz.prog 3 Tryz.f3 (OpenSpec.ofChange Rows.crossTextsSpec).bare Rows.crossTextsRow=true:=by
 unfold joinedFacts
 exact Q80 (Q80 (Q80 (Q80 (Q80 (Q80 (Q80 (Q80 (Q80 (Q80 (Q80 (Q80 (Q80 (Q80 (Q80 (Q80 (Q80 (Q80 (Q80 (Q80 (Q80 (Q80 (Q80 (Q80 (Q80 (Q80 (Q80 (Q80 (Q80 (Q80 (Q80 (Z0j) Z12) Z0r) Z1d) Z1i) Z19) Z0u) Z16) Z1a) Z1n) Qyb) Qzy) Qxq) Qy1) Qz8) Qyu) Qy4) Qz9) Qxt) Qxv) Qxo) Qyp) Qzd) Qz5) Qzi) Qy5) Qzc) Qz4) Qyr) Qy7) Qzt) Qzz
end Go.Proofs.YtaokaobiihpkbaaGreatDoor.CrossTexts
namespace Go.Av
noncomputable section
section
variable {P:Program} {t e:TypeId}
theorem Qs6 {x:List PV} (hu:P.underlying t=some (.slice e)) (h:Sh P t x):∃ rows,x = [.slice (P.cellsOf e) rows]∧rows.length≤maxLen∧∀ r∈rows,Sh P e r:=by
 cases h with
 | bool _ h1 b=>rw [hu] at h1;cases h1
 | int _ k' n h1 h2 h3=>rw [hu] at h1;cases h1
 | str _ s h1 hl=>rw [hu] at h1;cases h1
 | slice _ e' rows h1 hl hr hs=>rw [hu] at h1;cases h1;exact ⟨rows,rfl,hl,hs⟩
 | struct _ fs cells h1 hn hf=>rw [hu] at h1;cases h1
 | array _ e n cells h1 hn hf=>rw [hu] at h1;cases h1
theorem Xz {k:IntKind} {x:List PV} (hu:P.underlying t=some (.int k)) (h:Sh P t x):∃ n,x=cI k n∧k.min≤n∧n≤k.max:=by
 cases h with
 | bool _ h1 b=>rw [hu] at h1;cases h1
 | int _ k' n h1 h2 h3=>rw [hu] at h1;cases h1;exact ⟨n,rfl,h2,h3⟩
 | str _ s h1 hl=>rw [hu] at h1;cases h1
 | slice _ e rows h1 hl hr hs=>rw [hu] at h1;cases h1
 | struct _ fs cells h1 hn hf=>rw [hu] at h1;cases h1
 | array _ e n cells h1 hn hf=>rw [hu] at h1;cases h1
theorem Jm {x:List PV} (hu:P.underlying t=some .string) (h:Sh P t x):∃ s,x=cS s∧s.length≤maxLen:=by
 cases h with
 | bool _ h1 b=>rw [hu] at h1;cases h1
 | int _ k' n h1 h2 h3=>rw [hu] at h1;cases h1
 | str _ s h1 hl=>exact ⟨s,rfl,hl⟩
 | slice _ e rows h1 hl hr hs=>rw [hu] at h1;cases h1
 | struct _ fs cells h1 hn hf=>rw [hu] at h1;cases h1
 | array _ e n cells h1 hn hf=>rw [hu] at h1;cases h1
theorem Ua {x:List PV} (hu:P.underlying t=some .bool) (h:Sh P t x):∃ b,x=cB b:=by
 cases h with
 | bool _ h1 b=>exact ⟨b,rfl⟩
 | int _ k' n h1 h2 h3=>rw [hu] at h1;cases h1
 | str _ s h1 hl=>rw [hu] at h1;cases h1
 | slice _ e rows h1 hl hr hs=>rw [hu] at h1;cases h1
 | struct _ fs cells h1 hn hf=>rw [hu] at h1;cases h1
 | array _ e n cells h1 hn hf=>rw [hu] at h1;cases h1
theorem Qfr {T:Type} {c:T→List PV} {Ok:T→Prop}:∀ (rows:List (List PV)),(∀ r∈rows,∃ v:T,r=c v∧Ok v)→∃ l:List T,rows=Q8 c l∧∀ v∈l,Ok v
 | [],_=>⟨[],rfl,fun _ h=>by cases h⟩
 | r::rows,h=>by
  obtain ⟨v,rfl,hv⟩:=h r (.head _);obtain ⟨l,rfl,hl⟩:=Qfr rows fun r hr=>h r (.tail _ hr)
  exact ⟨v::l,rfl,fun u hu=>by
   rcases Mm.1 hu with rfl | hu
   ·exact hv
   exact hl u hu⟩
theorem Qqc {T:Type} {c:T→List PV} {Ok:T→Prop} {x:List PV} (hu:P.underlying t=some (.slice e)) (h:Sh P t x) (hr:∀ r,Sh P e r→∃ v:T,r=c v∧Ok v) :
  ∃ l:List T,x = [.slice (P.cellsOf e) (Q8 c l)]∧l.length≤maxLen∧∀ v∈l,Ok v:=by
 obtain ⟨rows,rfl,hl,hs⟩:=Qs6 hu h;obtain ⟨l,rfl,ho⟩:=Qfr rows fun r h=>hr r (hs r h);exact ⟨l,rfl,by rwa [Q6] at hl,ho⟩
theorem Qs9 {T:Type} {c:T→List PV} {Ok:T→Prop} {x:PV} (hu:P.underlying t=some (.slice e)) (h:Q6q P t x) (hr:∀ r,Sh P e r→∃ v:T,r=c v∧Ok v) :
  ∃ l:List T,x = .slice (P.cellsOf e) (Q8 c l)∧l.length≤maxLen∧∀ v∈l,Ok v:=by
 unfold Q6q at h;rw [hu] at h;obtain ⟨l,hx,h1,h2⟩:=Qqc hu h hr;exact ⟨l,by simpa using hx,h1,h2⟩
end
end
end Go.Av
namespace Go.Av
noncomputable section
section
variable {P:Program} {t:TypeId}
theorem G7 {fs:Array Field} {cells:List PV} (hu:P.underlying t=some (.struct fs)) (h:Sh P t cells):cells.length=P.cellsOf t∧∀ f∈fs.toList,Sh P f.type ((cells.drop f.offset).take (P.cellsOf f.type)):=by
 cases h with
 | struct t fs' cells h hn hf=>rw [hu] at h;cases h;exact ⟨hn,hf⟩
 | bool t h b=>rw [hu] at h;cases h
 | int t k n h h1 h2=>rw [hu] at h;cases h
 | str t s h hl=>rw [hu] at h;cases h
 | slice t e rows h hl hr hs=>rw [hu] at h;cases h
 | array t e n cells h hn hf=>rw [hu] at h;cases h
theorem Yv {fs:Array Field} {cells:List PV} (hu:P.underlying t=some (.struct fs)) (h:Sh P t cells) {f:Field} (hf:f∈fs.toList) {n k:Nat} {u:TypeId} (hn:P.cellsOf u=n) (hk:f.offset=k) (ht:f.type=u):Sh P u ((cells.drop k).take n):=by
 subst hn hk ht;exact (G7 hu h).2 f hf
theorem Zb {xs a b:List PV} {k n:Nat} (h:(xs.drop k).take n=a) (r:xs.drop (k+n)=b):xs.drop k=a++b:=by
 rw [← h,← r,← Nl,Mt]
theorem Q45 {xs:List PV} {k:Nat} (h:xs.length=k):xs.drop k = []:=List.drop_eq_nil_of_le (by omega)
theorem Qoq {x:PV} {fs:Array Field} {T:Type} {c:T→List PV} {Ok:T→Prop} (hu:P.underlying t=some (.struct fs)) (h:Q6q P t x) (hs:∀ r,Sh P t r→∃ v:T,r=c v∧Ok v):∃ v:T,x = .agg (c v)∧Ok v:=by
 unfold Q6q at h;rw [hu] at h;obtain ⟨ps,hp,rfl⟩:=h;obtain ⟨v,rfl,hv⟩:=hs ps hp;exact ⟨v,rfl,hv⟩
theorem Q7e {T:Type} {c:T→List PV} {Ok:T→Prop} {x:List PV} {e:TypeId} {n:Nat} (hn:P.cellsOf e=n) (hu:P.underlying t=some (.slice e)) (h:Sh P t x) (hr:∀ r,Sh P e r→∃ v:T,r=c v∧Ok v) :
  ∃ l:List T,x = [.slice n (Q8 c l)]∧l.length≤maxLen∧∀ v∈l,Ok v:=by
 subst hn;exact Qqc hu h hr
end
end
end Go.Av
namespace Go.Av
noncomputable section
open Go.Proofs
set_option maxRecDepth 100000
theorem Qv3:Tryz.prog.cellsOf 108=4:=by kernel_rfl
theorem Qyq:Tryz.prog.cellsOf 3=1:=by kernel_rfl
theorem Qz2:Tryz.prog.cellsOf 106=1:=by kernel_rfl
theorem Qyt:Tryz.prog.cellsOf 9=1:=by kernel_rfl
theorem Qx2:Tryz.prog.cellsOf 35=1:=by kernel_rfl
theorem Qud {P:Program} {t:TypeId} {k:IntKind} {x:PV} (hu:P.underlying t=some (.int k)) (h:Sh P t [x]):∃ n,x = .int k n∧k.min≤n∧n≤k.max:=
 Qr2 hu (by unfold Q6q;rw [hu];exact h)
theorem Qxz {P:Program} {t:TypeId} {x:PV} (hu:P.underlying t=some .string) (h:Sh P t [x]):∃ s,x = .str s∧s.length≤maxLen:=
 Qp6 hu (by unfold Q6q;rw [hu];exact h)
theorem shV {t:TypeId} {ps:List PV} (h:Sh Tryz.prog t ps):(t=108→∃ v:Q0,ps=v.cells∧OkV v)∧(t=35→∃ l:List Q0,ps = [.slice 4 (Q0.rows l)]∧l.length≤maxLen∧∀ v∈l,OkV v):=by
 induction h with
 | bool t h b=>exact ⟨fun e=>(by subst e;rw [Tryz.underlying108] at h;cases h),fun e=>(by subst e;rw [Tryz.underlying35] at h;cases h)⟩
 | int t k n h h1 h2=>exact ⟨fun e=>(by subst e;rw [Tryz.underlying108] at h;cases h),fun e=>(by subst e;rw [Tryz.underlying35] at h;cases h)⟩
 | str t s h hl=>exact ⟨fun e=>(by subst e;rw [Tryz.underlying108] at h;cases h),fun e=>(by subst e;rw [Tryz.underlying35] at h;cases h)⟩
 | array t e n cells h hn hf ih=>exact ⟨fun e=>(by subst e;rw [Tryz.underlying108] at h;cases h),fun e=>(by subst e;rw [Tryz.underlying35] at h;cases h)⟩
 | slice t e rows h hl hr hs ih=>
  refine ⟨fun e=>(by subst e;rw [Tryz.underlying108] at h;cases h),fun e=>?_⟩;subst e;rw [Tryz.underlying35] at h;cases h;obtain ⟨l,rfl,hl2⟩:=Qsz rows (fun r hr=>(ih r hr).1 rfl);rw [Qv3];exact ⟨l,rfl,by rwa [Qi8] at hl,hl2⟩
 | struct t fs cells h hn hf ih=>
  refine ⟨fun e=>?_,fun e=>(by subst e;rw [Tryz.underlying35] at h;cases h)⟩;subst e;rw [Tryz.underlying108] at h;cases h;rw [Qv3] at hn
  match cells,hn with
  | [a,b,c,d],_=>
   have f0:=hf _ (.head _);have f1:=hf _ (.tail _ (.head _));have f2:=hf _ (.tail _ (.tail _ (.head _)));have f3:=(ih _ (.tail _ (.tail _ (.tail _ (.head _))))).2 rfl;simp only [Qyq,Qz2,Qyt,Qx2] at f0 f1 f2 f3;obtain ⟨k,rfl,k1,k2⟩:=Qud Tryz.underlying3 f0;obtain ⟨n,rfl,n1,n2⟩:=Qud Tryz.underlying106 f1;obtain ⟨s,rfl,hs⟩:=Qxz Tryz.underlying9 f2;obtain ⟨l,hd,hl,hl2⟩:=f3
   have hd:d = .slice 4 (Q0.rows l):=by simpa using hd
   subst hd;refine ⟨⟨k,n,s,l⟩,rfl,.mk k n s l ⟨k1,k2⟩ ⟨n1,?_⟩ hs hl hl2⟩
   have:IntKind.u64.max=18446744073709551615:=by decide
   omega
end
end Go.Av
