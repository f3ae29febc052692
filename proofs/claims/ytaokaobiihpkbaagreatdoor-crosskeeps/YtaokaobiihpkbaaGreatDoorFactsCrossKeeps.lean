/- Part of the proof of CrossKeeps: for every input the law returns true; no condition. -/
import Derived.Test.YtaokaobiihpkbaaGreatDoorSeat1
import Derived.Test.YtaokaobiihpkbaaGreatDoorAvBridges
import Derived.Test.YtaokaobiihpkbaaGreatDoorAvTac
import Derived.Test.YtaokaobiihpkbaaGreatDoorOks
set_option linter.all false
namespace Go.Proofs.YtaokaobiihpkbaaGreatDoor.CrossKeeps
open Go.Av
set_option maxRecDepth 100000
theorem Z1z:(Rows.crossKeepsRow.wf (OpenSpec.ofChange (OpenSpec.ofChange Rows.crossKeepsSpec).bare))=true:=by kernel_rfl
theorem Z2q:(laidOutB Tryz.prog)=true:=by kernel_rfl
theorem Z23:(mapsRowed Tryz.prog)=true:=by kernel_rfl
theorem Z2u:(Tryz.f5.params.all (Tryz.prog.readableRec ·))=true:=by kernel_rfl
theorem Z29:(namedTie Tryz.prog Rows.crossKeepsRow.named (OpenSpec.ofChange Rows.crossKeepsSpec).bare.vars)=true:=by kernel_rfl
theorem Z26:((Rows.crossKeepsRow.stops == []))=true:=by kernel_rfl
theorem Z2h:((Tryz.prog.stops == []))=true:=by kernel_rfl
theorem Z1x:((Rows.crossKeepsRow.knobs == []))=true:=by kernel_rfl
theorem Z2r:((Tryz.prog.stopKnobs == []))=true:=by kernel_rfl
theorem Z33:((Rows.crossKeepsRow.inPlace == Tryz.prog.inPlace 5))=true:=by kernel_rfl
theorem Qyy:((Rows.crossKeepsRow.unfollowed == Tryz.prog.unfollowed 5))=true:=by kernel_rfl
theorem Z05:((Rows.crossKeepsRow.recurses == Tryz.prog.recurses 5))=true:=by kernel_rfl
theorem Z0f:((Rows.crossKeepsRow.named == Tryz.prog.varsNamed 5))=true:=by kernel_rfl
theorem Z11:((Rows.crossKeepsRow.maps == (Tryz.f5.params.toList++(OpenSpec.ofChange Rows.crossKeepsSpec).bare.plain.varTypes Tryz.prog).any (Tryz.prog.mapsRec ·)))=true:=by kernel_rfl
theorem Z00:((Rows.crossKeepsRow.ifaces == (Tryz.f5.params.toList++(OpenSpec.ofChange Rows.crossKeepsSpec).bare.plain.varTypes Tryz.prog).any (Tryz.prog.ifacesRec ·)))=true:=by kernel_rfl
theorem Qzq:((Rows.crossKeepsRow.mapsOut == Tryz.prog.mapsAmong Tryz.f5.resultTypes.toList))=true:=by kernel_rfl
theorem Qyu:((Rows.crossKeepsRow.loops == (Tryz.f5.params.toList++(OpenSpec.ofChange Rows.crossKeepsSpec).bare.plain.varTypes Tryz.prog).any (Tryz.prog.loopsFrom ·)))=true:=by kernel_rfl
theorem Qzv:((Rows.crossKeepsRow.wideKeys == (Tryz.f5.params.toList++(OpenSpec.ofChange Rows.crossKeepsSpec).bare.plain.varTypes Tryz.prog++Tryz.f5.resultTypes.toList).any (Tryz.prog.wideKeysFrom ·)))=true:=by kernel_rfl
theorem Z0s:((OpenSpec.ofChange Rows.crossKeepsSpec).bare.vars.all (Tryz.prog.varReadable ·))=true:=by kernel_rfl
theorem Qzn:(Tryz.f5.resultTypes.all (fun t=>Tryz.prog.readableRec t&&decide (t<Tryz.prog.types.size)))=true:=by kernel_rfl
theorem Z0m:((Rows.crossKeepsRow.ifacesOut == Tryz.f5.resultTypes.toList.any (Tryz.prog.ifacesRec ·)))=true:=by kernel_rfl
theorem Qyz:((Rows.crossKeepsRow.loopsOut == Tryz.f5.resultTypes.toList.any (Tryz.prog.loopsFrom ·)))=true:=by kernel_rfl
theorem Qz3:((Rows.crossKeepsRow.plainKeys == Tryz.prog.plainKeys))=true:=by kernel_rfl
theorem Qz9:(Rows.crossKeepsRow.shortTexts.isNone)=true:=by kernel_rfl
theorem Qz4:(Tryz.prog.stopsHeard)=true:=by kernel_rfl
theorem Qzh:(Tryz.prog.mayEnter)=true:=by kernel_rfl
theorem Qzk:((Rows.crossKeepsRow.lifted == Tryz.prog.liftsFinal))=true:=by kernel_rfl
theorem Qzj:((Tryz.prog.make == some Rows.crossKeepsRow.make))=true:=by kernel_rfl
theorem Z0z:((Rows.crossKeepsRow.kinds == (if Rows.crossKeepsRow.domain.isEmpty then [] else Tryz.f5.params.toList.map fun t=>match Tryz.prog.underlying t with | some (.int k)=>some k | _=>none)))=true:=by kernel_rfl
theorem Z08:((Rows.crossKeepsRow.pinned == Rows.crossKeepsRow.pinnedBy))=true:=by kernel_rfl
theorem Z0n:((Rows.crossKeepsRow.veiled == (Tryz.f5.params.toList++(OpenSpec.ofChange Rows.crossKeepsSpec).bare.plain.varTypes Tryz.prog++Tryz.f5.resultTypes.toList).any (Tryz.prog.veiledRec ·)))=true:=by kernel_rfl
theorem Z0r:(Rows.crossKeepsRow.veiledFits Tryz.prog Tryz.f5.params.toList (Tryz.f5.params.toList++(OpenSpec.ofChange Rows.crossKeepsSpec).bare.plain.varTypes Tryz.prog++Tryz.f5.resultTypes.toList))=true:=by kernel_rfl
theorem Q99 {a b:Bool} (ha:a=true) (hb:b=true):(a&&b)=true:=by rw [ha,hb];rfl
theorem facts:joinedFacts Tryz.prog 5 Tryz.f5 (OpenSpec.ofChange Rows.crossKeepsSpec).bare Rows.crossKeepsRow=true:=by
 unfold joinedFacts
 exact Q99 (Q99 (Q99 (Q99 (Q99 (Q99 (Q99 (Q99 (Q99 (Q99 (Q99 (Q99 (Q99 (Q99 (Q99 (Q99 (Q99 (Q99 (Q99 (Q99 (Q99 (Q99 (Q99 (Q99 (Q99 (Q99 (Q99 (Q99 (Q99 (Q99 (Q99 (Z1z) Z2q) Z23) Z2u) Z29) Z26) Z2h) Z1x) Z2r) Z33) Qyy) Z05) Z0f) Z11) Z00) Qzq) Qyu) Qzv) Z0s) Qzn) Z0m) Qyz) Qz3) Qz9) Qz4) Qzh) Qzk) Qzj) Z0z) Z08) Z0n) Z0r
end Go.Proofs.YtaokaobiihpkbaaGreatDoor.CrossKeeps
namespace Go.Av
noncomputable section
section
variable {P:Program} {t e:TypeId}
theorem Qtp {x:List PV} (hu:P.underlying t=some (.slice e)) (h:Sh P t x):∃ rows,x = [.slice (P.cellsOf e) rows]∧rows.length≤maxLen∧∀ r∈rows,Sh P e r:=by
 cases h with
 | bool _ h1 b=>rw [hu] at h1;cases h1
 | int _ k' n h1 h2 h3=>rw [hu] at h1;cases h1
 | str _ s h1 hl=>rw [hu] at h1;cases h1
 | slice _ e' rows h1 hl hr hs=>rw [hu] at h1;cases h1;exact ⟨rows,rfl,hl,hs⟩
 | struct _ fs cells h1 hn hf=>rw [hu] at h1;cases h1
 | array _ e n cells h1 hn hf=>rw [hu] at h1;cases h1
theorem Wd {k:IntKind} {x:List PV} (hu:P.underlying t=some (.int k)) (h:Sh P t x):∃ n,x=cI k n∧k.min≤n∧n≤k.max:=by
 cases h with
 | bool _ h1 b=>rw [hu] at h1;cases h1
 | int _ k' n h1 h2 h3=>rw [hu] at h1;cases h1;exact ⟨n,rfl,h2,h3⟩
 | str _ s h1 hl=>rw [hu] at h1;cases h1
 | slice _ e rows h1 hl hr hs=>rw [hu] at h1;cases h1
 | struct _ fs cells h1 hn hf=>rw [hu] at h1;cases h1
 | array _ e n cells h1 hn hf=>rw [hu] at h1;cases h1
theorem Gb {x:List PV} (hu:P.underlying t=some .string) (h:Sh P t x):∃ s,x=cS s∧s.length≤maxLen:=by
 cases h with
 | bool _ h1 b=>rw [hu] at h1;cases h1
 | int _ k' n h1 h2 h3=>rw [hu] at h1;cases h1
 | str _ s h1 hl=>exact ⟨s,rfl,hl⟩
 | slice _ e rows h1 hl hr hs=>rw [hu] at h1;cases h1
 | struct _ fs cells h1 hn hf=>rw [hu] at h1;cases h1
 | array _ e n cells h1 hn hf=>rw [hu] at h1;cases h1
theorem Uy {x:List PV} (hu:P.underlying t=some .bool) (h:Sh P t x):∃ b,x=cB b:=by
 cases h with
 | bool _ h1 b=>exact ⟨b,rfl⟩
 | int _ k' n h1 h2 h3=>rw [hu] at h1;cases h1
 | str _ s h1 hl=>rw [hu] at h1;cases h1
 | slice _ e rows h1 hl hr hs=>rw [hu] at h1;cases h1
 | struct _ fs cells h1 hn hf=>rw [hu] at h1;cases h1
 | array _ e n cells h1 hn hf=>rw [hu] at h1;cases h1
theorem Qgi {T:Type} {c:T→List PV} {Ok:T→Prop}:∀ (rows:List (List PV)),(∀ r∈rows,∃ v:T,r=c v∧Ok v)→∃ l:List T,rows=Q8 c l∧∀ v∈l,Ok v
 | [],_=>⟨[],rfl,fun _ h=>by cases h⟩
 | r::rows,h=>by
  obtain ⟨v,rfl,hv⟩:=h r (.head _);obtain ⟨l,rfl,hl⟩:=Qgi rows fun r hr=>h r (.tail _ hr)
  exact ⟨v::l,rfl,fun u hu=>by
   rcases Mk.1 hu with rfl | hu
   ·exact hv
   exact hl u hu⟩
theorem Qrt {T:Type} {c:T→List PV} {Ok:T→Prop} {x:List PV} (hu:P.underlying t=some (.slice e)) (h:Sh P t x) (hr:∀ r,Sh P e r→∃ v:T,r=c v∧Ok v) :
  ∃ l:List T,x = [.slice (P.cellsOf e) (Q8 c l)]∧l.length≤maxLen∧∀ v∈l,Ok v:=by
 obtain ⟨rows,rfl,hl,hs⟩:=Qtp hu h;obtain ⟨l,rfl,ho⟩:=Qgi rows fun r h=>hr r (hs r h);exact ⟨l,rfl,by rwa [Q5] at hl,ho⟩
theorem Quh {T:Type} {c:T→List PV} {Ok:T→Prop} {x:PV} (hu:P.underlying t=some (.slice e)) (h:Q7x P t x) (hr:∀ r,Sh P e r→∃ v:T,r=c v∧Ok v) :
  ∃ l:List T,x = .slice (P.cellsOf e) (Q8 c l)∧l.length≤maxLen∧∀ v∈l,Ok v:=by
 unfold Q7x at h;rw [hu] at h;obtain ⟨l,hx,h1,h2⟩:=Qrt hu h hr;exact ⟨l,by simpa using hx,h1,h2⟩
end
end
end Go.Av
namespace Go.Av
noncomputable section
section
variable {P:Program} {t:TypeId}
theorem Gp {fs:Array Field} {cells:List PV} (hu:P.underlying t=some (.struct fs)) (h:Sh P t cells):cells.length=P.cellsOf t∧∀ f∈fs.toList,Sh P f.type ((cells.drop f.offset).take (P.cellsOf f.type)):=by
 cases h with
 | struct t fs' cells h hn hf=>rw [hu] at h;cases h;exact ⟨hn,hf⟩
 | bool t h b=>rw [hu] at h;cases h
 | int t k n h h1 h2=>rw [hu] at h;cases h
 | str t s h hl=>rw [hu] at h;cases h
 | slice t e rows h hl hr hs=>rw [hu] at h;cases h
 | array t e n cells h hn hf=>rw [hu] at h;cases h
theorem X0 {fs:Array Field} {cells:List PV} (hu:P.underlying t=some (.struct fs)) (h:Sh P t cells) {f:Field} (hf:f∈fs.toList) {n k:Nat} {u:TypeId} (hn:P.cellsOf u=n) (hk:f.offset=k) (ht:f.type=u):Sh P u ((cells.drop k).take n):=by
 subst hn hk ht;exact (Gp hu h).2 f hf
theorem Ze {xs a b:List PV} {k n:Nat} (h:(xs.drop k).take n=a) (r:xs.drop (k+n)=b):xs.drop k=a++b:=by
 rw [← h,← r,← Nn,Mv]
theorem Q50 {xs:List PV} {k:Nat} (h:xs.length=k):xs.drop k = []:=List.drop_eq_nil_of_le (by omega)
theorem Qp2 {x:PV} {fs:Array Field} {T:Type} {c:T→List PV} {Ok:T→Prop} (hu:P.underlying t=some (.struct fs)) (h:Q7x P t x) (hs:∀ r,Sh P t r→∃ v:T,r=c v∧Ok v):∃ v:T,x = .agg (c v)∧Ok v:=by
 unfold Q7x at h;rw [hu] at h;obtain ⟨ps,hp,rfl⟩:=h;obtain ⟨v,rfl,hv⟩:=hs ps hp;exact ⟨v,rfl,hv⟩
theorem Q8d {T:Type} {c:T→List PV} {Ok:T→Prop} {x:List PV} {e:TypeId} {n:Nat} (hn:P.cellsOf e=n) (hu:P.underlying t=some (.slice e)) (h:Sh P t x) (hr:∀ r,Sh P e r→∃ v:T,r=c v∧Ok v) :
  ∃ l:List T,x = [.slice n (Q8 c l)]∧l.length≤maxLen∧∀ v∈l,Ok v:=by
 subst hn;exact Qrt hu h hr
end
end
end Go.Av
namespace Go.Av
noncomputable section
open Go.Proofs
set_option maxRecDepth 100000
theorem Qvg:Tryz.prog.cellsOf 108=4:=by kernel_rfl
theorem Qzg:Tryz.prog.cellsOf 3=1:=by kernel_rfl
theorem Qyw:Tryz.prog.cellsOf 106=1:=by kernel_rfl
theorem Qzs:Tryz.prog.cellsOf 9=1:=by kernel_rfl
theorem Qyg:Tryz.prog.cellsOf 35=1:=by kernel_rfl
theorem Qvm {P:Program} {t:TypeId} {k:IntKind} {x:PV} (hu:P.underlying t=some (.int k)) (h:Sh P t [x]):∃ n,x = .int k n∧k.min≤n∧n≤k.max:=
 Qr0 hu (by unfold Q7x;rw [hu];exact h)
theorem Z0u {P:Program} {t:TypeId} {x:PV} (hu:P.underlying t=some .string) (h:Sh P t [x]):∃ s,x = .str s∧s.length≤maxLen:=
 Qs6 hu (by unfold Q7x;rw [hu];exact h)
theorem shV {t:TypeId} {ps:List PV} (h:Sh Tryz.prog t ps):(t=108→∃ v:Q0,ps=v.cells∧OkV v)∧(t=35→∃ l:List Q0,ps = [.slice 4 (Q0.rows l)]∧l.length≤maxLen∧∀ v∈l,OkV v):=by
 induction h with
 | bool t h b=>exact ⟨fun e=>(by subst e;rw [Tryz.underlying108] at h;cases h),fun e=>(by subst e;rw [Tryz.underlying35] at h;cases h)⟩
 | int t k n h h1 h2=>exact ⟨fun e=>(by subst e;rw [Tryz.underlying108] at h;cases h),fun e=>(by subst e;rw [Tryz.underlying35] at h;cases h)⟩
 | str t s h hl=>exact ⟨fun e=>(by subst e;rw [Tryz.underlying108] at h;cases h),fun e=>(by subst e;rw [Tryz.underlying35] at h;cases h)⟩
 | array t e n cells h hn hf ih=>exact ⟨fun e=>(by subst e;rw [Tryz.underlying108] at h;cases h),fun e=>(by subst e;rw [Tryz.underlying35] at h;cases h)⟩
 | slice t e rows h hl hr hs ih=>
  refine ⟨fun e=>(by subst e;rw [Tryz.underlying108] at h;cases h),fun e=>?_⟩;subst e;rw [Tryz.underlying35] at h;cases h;obtain ⟨l,rfl,hl2⟩:=Qu1 rows (fun r hr=>(ih r hr).1 rfl);rw [Qvg];exact ⟨l,rfl,by rwa [Qit] at hl,hl2⟩
 | struct t fs cells h hn hf ih=>
  refine ⟨fun e=>?_,fun e=>(by subst e;rw [Tryz.underlying35] at h;cases h)⟩;subst e;rw [Tryz.underlying108] at h;cases h;rw [Qvg] at hn
  match cells,hn with
  | [a,b,c,d],_=>
   have f0:=hf _ (.head _);have f1:=hf _ (.tail _ (.head _));have f2:=hf _ (.tail _ (.tail _ (.head _)));have f3:=(ih _ (.tail _ (.tail _ (.tail _ (.head _))))).2 rfl;simp only [Qzg,Qyw,Qzs,Qyg] at f0 f1 f2 f3;obtain ⟨k,rfl,k1,k2⟩:=Qvm Tryz.underlying3 f0;obtain ⟨n,rfl,n1,n2⟩:=Qvm Tryz.underlying106 f1;obtain ⟨s,rfl,hs⟩:=Z0u Tryz.underlying9 f2;obtain ⟨l,hd,hl,hl2⟩:=f3
   have hd:d = .slice 4 (Q0.rows l):=by simpa using hd
   subst hd;refine ⟨⟨k,n,s,l⟩,rfl,.mk k n s l ⟨k1,k2⟩ ⟨n1,?_⟩ hs hl hl2⟩
   have:IntKind.u64.max=18446744073709551615:=by decide
   omega
end
end Go.Av
