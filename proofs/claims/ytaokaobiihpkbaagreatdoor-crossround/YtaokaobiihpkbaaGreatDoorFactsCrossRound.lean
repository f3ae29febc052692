/- Part of the proof of CrossRound: for every input the law returns true; no condition. -/
import Derived.Test.YtaokaobiihpkbaaGreatDoorSeat1
import Derived.Test.YtaokaobiihpkbaaGreatDoorAvBridges
import Derived.Test.YtaokaobiihpkbaaGreatDoorAvTac
import Derived.Test.YtaokaobiihpkbaaGreatDoorPlainb
import Derived.Test.YtaokaobiihpkbaaGreatDoorOks
set_option linter.all false
namespace Go.Proofs.YtaokaobiihpkbaaGreatDoor.CrossRound
open Go.Av
set_option maxRecDepth 100000
theorem Qzq:(Rows.crossRoundRow.wf (OpenSpec.ofChange (OpenSpec.ofChange Rows.crossRoundSpec).bare))=true:=by kernel_rfl
theorem Qzg:(laidOutB Tryz.prog)=true:=by kernel_rfl
theorem Qzk:(mapsRowed Tryz.prog)=true:=by kernel_rfl
theorem Qz6:(Tryz.f4.params.all (Tryz.prog.readableRec ·))=true:=by kernel_rfl
theorem Z0f:(namedTie Tryz.prog Rows.crossRoundRow.named (OpenSpec.ofChange Rows.crossRoundSpec).bare.vars)=true:=by kernel_rfl
theorem Z03:((Rows.crossRoundRow.stops == []))=true:=by kernel_rfl
theorem Qza:((Tryz.prog.stops == []))=true:=by kernel_rfl
theorem Qzz:((Rows.crossRoundRow.knobs == []))=true:=by kernel_rfl
theorem Z00:((Tryz.prog.stopKnobs == []))=true:=by kernel_rfl
theorem Qz0:((Rows.crossRoundRow.inPlace == Tryz.prog.inPlace 4))=true:=by kernel_rfl
theorem Qyn:((Rows.crossRoundRow.unfollowed == Tryz.prog.unfollowed 4))=true:=by kernel_rfl
theorem Qwr:((Rows.crossRoundRow.recurses == Tryz.prog.recurses 4))=true:=by kernel_rfl
theorem Qxn:((Rows.crossRoundRow.named == Tryz.prog.varsNamed 4))=true:=by kernel_rfl
theorem Qwb:((Rows.crossRoundRow.maps == (Tryz.f4.params.toList++(OpenSpec.ofChange Rows.crossRoundSpec).bare.plain.varTypes Tryz.prog).any (Tryz.prog.mapsRec ·)))=true:=by kernel_rfl
theorem Qxx:((Rows.crossRoundRow.ifaces == (Tryz.f4.params.toList++(OpenSpec.ofChange Rows.crossRoundSpec).bare.plain.varTypes Tryz.prog).any (Tryz.prog.ifacesRec ·)))=true:=by kernel_rfl
theorem Qw8:((Rows.crossRoundRow.mapsOut == Tryz.prog.mapsAmong Tryz.f4.resultTypes.toList))=true:=by kernel_rfl
theorem Qy1:((Rows.crossRoundRow.loops == (Tryz.f4.params.toList++(OpenSpec.ofChange Rows.crossRoundSpec).bare.plain.varTypes Tryz.prog).any (Tryz.prog.loopsFrom ·)))=true:=by kernel_rfl
theorem Qwy:((Rows.crossRoundRow.wideKeys == (Tryz.f4.params.toList++(OpenSpec.ofChange Rows.crossRoundSpec).bare.plain.varTypes Tryz.prog++Tryz.f4.resultTypes.toList).any (Tryz.prog.wideKeysFrom ·)))=true:=by kernel_rfl
theorem Qwj:((OpenSpec.ofChange Rows.crossRoundSpec).bare.vars.all (Tryz.prog.varReadable ·))=true:=by kernel_rfl
theorem Qx2:(Tryz.f4.resultTypes.all (fun t=>Tryz.prog.readableRec t&&decide (t<Tryz.prog.types.size)))=true:=by kernel_rfl
theorem Qwe:((Rows.crossRoundRow.ifacesOut == Tryz.f4.resultTypes.toList.any (Tryz.prog.ifacesRec ·)))=true:=by kernel_rfl
theorem Qxy:((Rows.crossRoundRow.loopsOut == Tryz.f4.resultTypes.toList.any (Tryz.prog.loopsFrom ·)))=true:=by kernel_rfl
theorem Qwk:((Rows.crossRoundRow.plainKeys == Tryz.prog.plainKeys))=true:=by kernel_rfl
theorem Qwa:(Rows.crossRoundRow.shortTexts.isNone)=true:=by kernel_rfl
theorem Qx5:(Tryz.prog.stopsHeard)=true:=by kernel_rfl
theorem Qxi:(Tryz.prog.mayEnter)=true:=by kernel_rfl
theorem Qxm:((Rows.crossRoundRow.lifted == Tryz.prog.liftsFinal))=true:=by kernel_rfl
theorem Qxs:((Tryz.prog.make == some Rows.crossRoundRow.make))=true:=by kernel_rfl
theorem Qyd:((Rows.crossRoundRow.kinds == (if Rows.crossRoundRow.domain.isEmpty then [] else Tryz.f4.params.toList.map fun t=>match Tryz.prog.underlying t with | some (.int k)=>some k | _=>none)))=true:=by kernel_rfl
theorem Qyk:((Rows.crossRoundRow.pinned == Rows.crossRoundRow.pinnedBy))=true:=by kernel_rfl
theorem Qy7:((Rows.crossRoundRow.veiled == (Tryz.f4.params.toList++(OpenSpec.ofChange Rows.crossRoundSpec).bare.plain.varTypes Tryz.prog++Tryz.f4.resultTypes.toList).any (Tryz.prog.veiledRec ·)))=true:=by kernel_rfl
theorem Qxr:(Rows.crossRoundRow.veiledFits Tryz.prog Tryz.f4.params.toList (Tryz.f4.params.toList++(OpenSpec.ofChange Rows.crossRoundSpec).bare.plain.varTypes Tryz.prog++Tryz.f4.resultTypes.toList))=true:=by kernel_rfl
theorem Q72 {a b:Bool} (ha:a=true) (hb:b=true):(a&&b)=true:=by rw [ha,hb];rfl
theorem facts:joinedFacts Tryz.prog 4 Tryz.f4 (OpenSpec.ofChange Rows.crossRoundSpec).bare Rows.crossRoundRow=true:=by
 unfold joinedFacts
 exact Q72 (Q72 (Q72 (Q72 (Q72 (Q72 (Q72 (Q72 (Q72 (Q72 (Q72 (Q72 (Q72 (Q72 (Q72 (Q72 (Q72 (Q72 (Q72 (Q72 (Q72 (Q72 (Q72 (Q72 (Q72 (Q72 (Q72 (Q72 (Q72 (Q72 (Q72 (Qzq) Qzg) Qzk) Qz6) Z0f) Z03) Qza) Qzz) Z00) Qz0) Qyn) Qwr) Qxn) Qwb) Qxx) Qw8) Qy1) Qwy) Qwj) Qx2) Qwe) Qxy) Qwk) Qwa) Qx5) Qxi) Qxm) Qxs) Qyd) Qyk) Qy7) Qxr
end Go.Proofs.YtaokaobiihpkbaaGreatDoor.CrossRound
namespace Go.Av
noncomputable section
section
variable {P:Program} {t e:TypeId}
theorem Qsi {x:List PV} (hu:P.underlying t=some (.slice e)) (h:Sh P t x):∃ rows,x = [.slice (P.cellsOf e) rows]∧rows.length≤maxLen∧∀ r∈rows,Sh P e r:=by
 cases h with
 | bool _ h1 b=>rw [hu] at h1;cases h1
 | int _ k' n h1 h2 h3=>rw [hu] at h1;cases h1
 | str _ s h1 hl=>rw [hu] at h1;cases h1
 | slice _ e' rows h1 hl hr hs=>rw [hu] at h1;cases h1;exact ⟨rows,rfl,hl,hs⟩
 | struct _ fs cells h1 hn hf=>rw [hu] at h1;cases h1
 | array _ e n cells h1 hn hf=>rw [hu] at h1;cases h1
theorem Qus {k:IntKind} {x:List PV} (hu:P.underlying t=some (.int k)) (h:Sh P t x):∃ n,x=cI k n∧k.min≤n∧n≤k.max:=by
 cases h with
 | bool _ h1 b=>rw [hu] at h1;cases h1
 | int _ k' n h1 h2 h3=>rw [hu] at h1;cases h1;exact ⟨n,rfl,h2,h3⟩
 | str _ s h1 hl=>rw [hu] at h1;cases h1
 | slice _ e rows h1 hl hr hs=>rw [hu] at h1;cases h1
 | struct _ fs cells h1 hn hf=>rw [hu] at h1;cases h1
 | array _ e n cells h1 hn hf=>rw [hu] at h1;cases h1
theorem Qo5 {x:List PV} (hu:P.underlying t=some .string) (h:Sh P t x):∃ s,x=cS s∧s.length≤maxLen:=by
 cases h with
 | bool _ h1 b=>rw [hu] at h1;cases h1
 | int _ k' n h1 h2 h3=>rw [hu] at h1;cases h1
 | str _ s h1 hl=>exact ⟨s,rfl,hl⟩
 | slice _ e rows h1 hl hr hs=>rw [hu] at h1;cases h1
 | struct _ fs cells h1 hn hf=>rw [hu] at h1;cases h1
 | array _ e n cells h1 hn hf=>rw [hu] at h1;cases h1
theorem Qeh {T:Type} {c:T→List PV} {Ok:T→Prop}:∀ (rows:List (List PV)),(∀ r∈rows,∃ v:T,r=c v∧Ok v)→∃ l:List T,rows=Q9 c l∧∀ v∈l,Ok v
 | [],_=>⟨[],rfl,fun _ h=>by cases h⟩
 | r::rows,h=>by
  obtain ⟨v,rfl,hv⟩:=h r (.head _);obtain ⟨l,rfl,hl⟩:=Qeh rows fun r hr=>h r (.tail _ hr)
  exact ⟨v::l,rfl,fun u hu=>by
   rcases Mr.1 hu with rfl | hu
   ·exact hv
   exact hl u hu⟩
theorem Qtz {T:Type} {c:T→List PV} {Ok:T→Prop} {x:List PV} (hu:P.underlying t=some (.slice e)) (h:Sh P t x) (hr:∀ r,Sh P e r→∃ v:T,r=c v∧Ok v) :
  ∃ l:List T,x = [.slice (P.cellsOf e) (Q9 c l)]∧l.length≤maxLen∧∀ v∈l,Ok v:=by
 obtain ⟨rows,rfl,hl,hs⟩:=Qsi hu h;obtain ⟨l,rfl,ho⟩:=Qeh rows fun r h=>hr r (hs r h);exact ⟨l,rfl,by rwa [Q6] at hl,ho⟩
theorem Qs6 {T:Type} {c:T→List PV} {Ok:T→Prop} {x:PV} (hu:P.underlying t=some (.slice e)) (h:Q7y P t x) (hr:∀ r,Sh P e r→∃ v:T,r=c v∧Ok v) :
  ∃ l:List T,x = .slice (P.cellsOf e) (Q9 c l)∧l.length≤maxLen∧∀ v∈l,Ok v:=by
 unfold Q7y at h;rw [hu] at h;obtain ⟨l,hx,h1,h2⟩:=Qtz hu h hr;exact ⟨l,by simpa using hx,h1,h2⟩
end
end
end Go.Av
namespace Go.Av
noncomputable section
section
variable {P:Program} {t:TypeId}
theorem Qhd {fs:Array Field} {cells:List PV} (hu:P.underlying t=some (.struct fs)) (h:Sh P t cells):cells.length=P.cellsOf t∧∀ f∈fs.toList,Sh P f.type ((cells.drop f.offset).take (P.cellsOf f.type)):=by
 cases h with
 | struct t fs' cells h hn hf=>rw [hu] at h;cases h;exact ⟨hn,hf⟩
 | bool t h b=>rw [hu] at h;cases h
 | int t k n h h1 h2=>rw [hu] at h;cases h
 | str t s h hl=>rw [hu] at h;cases h
 | slice t e rows h hl hr hs=>rw [hu] at h;cases h
 | array t e n cells h hn hf=>rw [hu] at h;cases h
theorem Qvd {fs:Array Field} {cells:List PV} (hu:P.underlying t=some (.struct fs)) (h:Sh P t cells) {f:Field} (hf:f∈fs.toList) {n k:Nat} {u:TypeId} (hn:P.cellsOf u=n) (hk:f.offset=k) (ht:f.type=u):Sh P u ((cells.drop k).take n):=by
 subst hn hk ht;exact (Qhd hu h).2 f hf
theorem Qps {xs a b:List PV} {k n:Nat} (h:(xs.drop k).take n=a) (r:xs.drop (k+n)=b):xs.drop k=a++b:=by
 rw [← h,← r,← Nn,Mt]
theorem Quc {xs:List PV} {k:Nat} (h:xs.length=k):xs.drop k = []:=List.drop_eq_nil_of_le (by omega)
end
end
end Go.Av
namespace Go.Av
open Go.Proofs.Tryz
noncomputable section
open Go.Proofs
set_option maxRecDepth 100000
theorem c_3:prog.cellsOf 3=1:=by kernel_rfl
theorem c_9:prog.cellsOf 9=1:=by kernel_rfl
theorem Zk6:prog.cellsOf 62=3:=by kernel_rfl
theorem Q4p {ps:List PV} (h:Sh prog 62 ps):∃ v:Q8,ps=v.cells∧Q55 v:=by
 have hn:=(Qhd underlying62 h).1;have f0:=Qvd underlying62 h (.head _) c_9 rfl rfl;obtain ⟨x0,e0,o0⟩:=Qo5 underlying9 f0;have f1:=Qvd underlying62 h (.tail _ (.head _)) c_9 rfl rfl;obtain ⟨x1,e1,o1⟩:=Qo5 underlying9 f1;have f2:=Qvd underlying62 h (.tail _ (.tail _ (.head _))) c_3 rfl rfl;obtain ⟨x2,e2,o2⟩:=Qus underlying3 f2;exact ⟨⟨x0,x1,x2⟩,(Qps (k:=0) (n:=1) e0 (Qps (k:=1) (n:=1) e1 (Qps (k:=2) (n:=1) e2 (Quc (hn.trans Zk6))))),⟨o0,o1,o2⟩⟩
end
end Go.Av
