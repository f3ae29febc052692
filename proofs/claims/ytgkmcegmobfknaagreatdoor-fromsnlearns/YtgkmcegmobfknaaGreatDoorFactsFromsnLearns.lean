/- Part of FromsnLearns: the law returns true; no condition. -/
import Derived.Test.YtgkmcegmobfknaaGreatDoorSeat1
import Derived.Test.YtgkmcegmobfknaaGreatDoorAvBridges
import Derived.Test.YtgkmcegmobfknaaGreatDoorAvClosed4
import Derived.Test.YtgkmcegmobfknaaGreatDoorOks
set_option linter.all false
namespace Go.Proofs.YtgkmcegmobfknaaGreatDoor.FromsnLearns
open Go.Av
set_option maxRecDepth 100000
theorem Z1b:(Rows.fromsnLearnsRow.wf (OpenSpec.ofChange (OpenSpec.ofChange Rows.fromsnLearnsSpec).bare))=true:=by kernel_rfl
theorem Z1v:(laidOutB Tryz.prog)=true:=by kernel_rfl
theorem Z1z:(mapsRowed Tryz.prog)=true:=by kernel_rfl
theorem Z2b:(Tryz.f3.params.all (Tryz.prog.readableRec ·))=true:=by kernel_rfl
theorem Z28:(namedTie Tryz.prog Rows.fromsnLearnsRow.named (OpenSpec.ofChange Rows.fromsnLearnsSpec).bare.vars)=true:=by kernel_rfl
theorem Z2d:((Rows.fromsnLearnsRow.stops == []))=true:=by kernel_rfl
theorem Z1r:((Tryz.prog.stops == []))=true:=by kernel_rfl
theorem Z2l:((Rows.fromsnLearnsRow.knobs == []))=true:=by kernel_rfl
theorem Z25:((Tryz.prog.stopKnobs == []))=true:=by kernel_rfl
theorem Z2a:((Rows.fromsnLearnsRow.inPlace == Tryz.prog.inPlace 3))=true:=by kernel_rfl
theorem Qyy:((Rows.fromsnLearnsRow.unfollowed == Tryz.prog.unfollowed 3))=true:=by kernel_rfl
theorem Qzq:((Rows.fromsnLearnsRow.recurses == Tryz.prog.recurses 3))=true:=by kernel_rfl
theorem Qyv:((Rows.fromsnLearnsRow.named == Tryz.prog.varsNamed 3))=true:=by kernel_rfl
theorem Qzz:((Rows.fromsnLearnsRow.maps == (Tryz.f3.params.toList++(OpenSpec.ofChange Rows.fromsnLearnsSpec).bare.plain.varTypes Tryz.prog).any (Tryz.prog.mapsRec ·)))=true:=by kernel_rfl
theorem Qze:((Rows.fromsnLearnsRow.ifaces == (Tryz.f3.params.toList++(OpenSpec.ofChange Rows.fromsnLearnsSpec).bare.plain.varTypes Tryz.prog).any (Tryz.prog.ifacesRec ·)))=true:=by kernel_rfl
theorem Qyr:((Rows.fromsnLearnsRow.mapsOut == Tryz.prog.mapsAmong Tryz.f3.resultTypes.toList))=true:=by kernel_rfl
theorem Z0i:((Rows.fromsnLearnsRow.loops == (Tryz.f3.params.toList++(OpenSpec.ofChange Rows.fromsnLearnsSpec).bare.plain.varTypes Tryz.prog).any (Tryz.prog.loopsFrom ·)))=true:=by kernel_rfl
theorem Qz6:((Rows.fromsnLearnsRow.wideKeys == (Tryz.f3.params.toList++(OpenSpec.ofChange Rows.fromsnLearnsSpec).bare.plain.varTypes Tryz.prog++Tryz.f3.resultTypes.toList).any (Tryz.prog.wideKeysFrom ·)))=true:=by kernel_rfl
theorem Z02:((OpenSpec.ofChange Rows.fromsnLearnsSpec).bare.vars.all (Tryz.prog.varReadable ·))=true:=by kernel_rfl
theorem Z08:(Tryz.f3.resultTypes.all (fun t=>Tryz.prog.readableRec t&&decide (t<Tryz.prog.types.size)))=true:=by kernel_rfl
theorem Qzv:((Rows.fromsnLearnsRow.ifacesOut == Tryz.f3.resultTypes.toList.any (Tryz.prog.ifacesRec ·)))=true:=by kernel_rfl
theorem Qzi:((Rows.fromsnLearnsRow.loopsOut == Tryz.f3.resultTypes.toList.any (Tryz.prog.loopsFrom ·)))=true:=by kernel_rfl
theorem Qyz:((Rows.fromsnLearnsRow.plainKeys == Tryz.prog.plainKeys))=true:=by kernel_rfl
theorem Qzd:(Rows.fromsnLearnsRow.shortTexts.isNone)=true:=by kernel_rfl
theorem Z0t:(Tryz.prog.stopsHeard)=true:=by kernel_rfl
theorem Z0d:(Tryz.prog.mayEnter)=true:=by kernel_rfl
theorem Z0u:((Rows.fromsnLearnsRow.lifted == Tryz.prog.liftsFinal))=true:=by kernel_rfl
theorem Z00:((Tryz.prog.make == some Rows.fromsnLearnsRow.make))=true:=by kernel_rfl
theorem Z0h:((Rows.fromsnLearnsRow.kinds == (if Rows.fromsnLearnsRow.domain.isEmpty then [] else Tryz.f3.params.toList.map fun t=>match Tryz.prog.underlying t with | some (.int k)=>some k | _=>none)))=true:=by kernel_rfl
theorem Z0c:((Rows.fromsnLearnsRow.pinned == Rows.fromsnLearnsRow.pinnedBy))=true:=by kernel_rfl
theorem Qyi:((Rows.fromsnLearnsRow.veiled == (Tryz.f3.params.toList++(OpenSpec.ofChange Rows.fromsnLearnsSpec).bare.plain.varTypes Tryz.prog++Tryz.f3.resultTypes.toList).any (Tryz.prog.veiledRec ·)))=true:=by kernel_rfl
theorem Qz2:(Rows.fromsnLearnsRow.veiledFits Tryz.prog Tryz.f3.params.toList (Tryz.f3.params.toList++(OpenSpec.ofChange Rows.fromsnLearnsSpec).bare.plain.varTypes Tryz.prog++Tryz.f3.resultTypes.toList))=true:=by kernel_rfl
theorem Q6c {a b:Bool} (ha:a=true) (hb:b=true):(a&&b)=true:=by rw [ha,hb];rfl
theorem facts:joinedFacts Tryz.prog 3 Tryz.f3 (OpenSpec.ofChange Rows.fromsnLearnsSpec).bare Rows.fromsnLearnsRow=true:=by
 unfold joinedFacts
 exact Q6c (Q6c (Q6c (Q6c (Q6c (Q6c (Q6c (Q6c (Q6c (Q6c (Q6c (Q6c (Q6c (Q6c (Q6c (Q6c (Q6c (Q6c (Q6c (Q6c (Q6c (Q6c (Q6c (Q6c (Q6c (Q6c (Q6c (Q6c (Q6c (Q6c (Q6c (Z1b) Z1v) Z1z) Z2b) Z28) Z2d) Z1r) Z2l) Z25) Z2a) Qyy) Qzq) Qyv) Qzz) Qze) Qyr) Z0i) Qz6) Z02) Z08) Qzv) Qzi) Qyz) Qzd) Z0t) Z0d) Z0u) Z00) Z0h) Z0c) Qyi) Qz2
end Go.Proofs.YtgkmcegmobfknaaGreatDoor.FromsnLearns
namespace Go.Av
noncomputable section
section
variable {P:Program} {t e:TypeId}
theorem Qsb {x:List PV} (hu:P.underlying t=some (.slice e)) (h:Sh P t x):∃ rows,x = [.slice (P.cellsOf e) rows]∧rows.length≤maxLen∧∀ r∈rows,Sh P e r:=by
 cases h with
 | bool _ h1 b=>rw [hu] at h1;cases h1
 | int _ k' n h1 h2 h3=>rw [hu] at h1;cases h1
 | str _ s h1 hl=>rw [hu] at h1;cases h1
 | slice _ e' rows h1 hl hr hs=>rw [hu] at h1;cases h1;exact ⟨rows,rfl,hl,hs⟩
 | struct _ fs cells h1 hn hf=>rw [hu] at h1;cases h1
 | array _ e n cells h1 hn hf=>rw [hu] at h1;cases h1
theorem Q2f {k:IntKind} {x:List PV} (hu:P.underlying t=some (.int k)) (h:Sh P t x):∃ n,x=cI k n∧k.min≤n∧n≤k.max:=by
 cases h with
 | bool _ h1 b=>rw [hu] at h1;cases h1
 | int _ k' n h1 h2 h3=>rw [hu] at h1;cases h1;exact ⟨n,rfl,h2,h3⟩
 | str _ s h1 hl=>rw [hu] at h1;cases h1
 | slice _ e rows h1 hl hr hs=>rw [hu] at h1;cases h1
 | struct _ fs cells h1 hn hf=>rw [hu] at h1;cases h1
 | array _ e n cells h1 hn hf=>rw [hu] at h1;cases h1
theorem Qfj {x:List PV} (hu:P.underlying t=some .string) (h:Sh P t x):∃ s,x=cS s∧s.length≤maxLen:=by
 cases h with
 | bool _ h1 b=>rw [hu] at h1;cases h1
 | int _ k' n h1 h2 h3=>rw [hu] at h1;cases h1
 | str _ s h1 hl=>exact ⟨s,rfl,hl⟩
 | slice _ e rows h1 hl hr hs=>rw [hu] at h1;cases h1
 | struct _ fs cells h1 hn hf=>rw [hu] at h1;cases h1
 | array _ e n cells h1 hn hf=>rw [hu] at h1;cases h1
theorem Q6z {x:List PV} (hu:P.underlying t=some .bool) (h:Sh P t x):∃ b,x=cB b:=by
 cases h with
 | bool _ h1 b=>exact ⟨b,rfl⟩
 | int _ k' n h1 h2 h3=>rw [hu] at h1;cases h1
 | str _ s h1 hl=>rw [hu] at h1;cases h1
 | slice _ e rows h1 hl hr hs=>rw [hu] at h1;cases h1
 | struct _ fs cells h1 hn hf=>rw [hu] at h1;cases h1
 | array _ e n cells h1 hn hf=>rw [hu] at h1;cases h1
theorem Qdk {T:Type} {c:T->List PV} {Ok:T->Prop}:∀ (rows:List (List PV)),(∀ r∈rows,∃ v:T,r=c v∧Ok v)->∃ l:List T,rows=Qi c l∧∀ v∈l,Ok v
 | [],_=>⟨[],rfl,fun _ h=>by cases h⟩
 | r::rows,h=>by
  obtain ⟨v,rfl,hv⟩:=h r (.head _);obtain ⟨l,rfl,hl⟩:=Qdk rows fun r hr=>h r (.tail _ hr)
  exact ⟨v::l,rfl,fun u hu=>by
   rcases Lx.1 hu with rfl | hu
   ·exact hv
   exact hl u hu⟩
theorem Qwi {T:Type} {c:T->List PV} {Ok:T->Prop} {x:List PV} (hu:P.underlying t=some (.slice e)) (h:Sh P t x) (hr:∀ r,Sh P e r->∃ v:T,r=c v∧Ok v) :
  ∃ l:List T,x = [.slice (P.cellsOf e) (Qi c l)]∧l.length≤maxLen∧∀ v∈l,Ok v:=by
 obtain ⟨rows,rfl,hl,hs⟩:=Qsb hu h;obtain ⟨l,rfl,ho⟩:=Qdk rows fun r h=>hr r (hs r h);exact ⟨l,rfl,by rwa [Qy] at hl,ho⟩
theorem Qs7 {T:Type} {c:T->List PV} {Ok:T->Prop} {x:PV} (hu:P.underlying t=some (.slice e)) (h:Q8v P t x) (hr:∀ r,Sh P e r->∃ v:T,r=c v∧Ok v) :
  ∃ l:List T,x = .slice (P.cellsOf e) (Qi c l)∧l.length≤maxLen∧∀ v∈l,Ok v:=by
 unfold Q8v at h;rw [hu] at h;obtain ⟨l,hx,h1,h2⟩:=Qwi hu h hr;exact ⟨l,by simpa using hx,h1,h2⟩
end
end
end Go.Av
namespace Go.Av
noncomputable section
section
variable {P:Program} {t:TypeId}
theorem Q6x {fs:Array Field} {cells:List PV} (hu:P.underlying t=some (.struct fs)) (h:Sh P t cells):cells.length=P.cellsOf t∧∀ f∈fs.toList,Sh P f.type ((cells.drop f.offset).take (P.cellsOf f.type)):=by
 cases h with
 | struct t fs' cells h hn hf=>rw [hu] at h;cases h;exact ⟨hn,hf⟩
 | bool t h b=>rw [hu] at h;cases h
 | int t k n h h1 h2=>rw [hu] at h;cases h
 | str t s h hl=>rw [hu] at h;cases h
 | slice t e rows h hl hr hs=>rw [hu] at h;cases h
 | array t e n cells h hn hf=>rw [hu] at h;cases h
theorem Q2r {fs:Array Field} {cells:List PV} (hu:P.underlying t=some (.struct fs)) (h:Sh P t cells) {f:Field} (hf:f∈fs.toList) {n k:Nat} {u:TypeId} (hn:P.cellsOf u=n) (hk:f.offset=k) (ht:f.type=u):Sh P u ((cells.drop k).take n):=by
 subst hn hk ht;exact (Q6x hu h).2 f hf
theorem Gz {xs a b:List PV} {k n:Nat} (h:(xs.drop k).take n=a) (r:xs.drop (k+n)=b):xs.drop k=a++b:=by
 rw [← h,← r,← Nr,My]
theorem Qia {xs:List PV} {k:Nat} (h:xs.length=k):xs.drop k = []:=Cs (by omega)
theorem Qn2 {x:PV} {fs:Array Field} {T:Type} {c:T->List PV} {Ok:T->Prop} (hu:P.underlying t=some (.struct fs)) (h:Q8v P t x) (hs:∀ r,Sh P t r->∃ v:T,r=c v∧Ok v):∃ v:T,x = .agg (c v)∧Ok v:=by
 unfold Q8v at h;rw [hu] at h;obtain ⟨ps,hp,rfl⟩:=h;obtain ⟨v,rfl,hv⟩:=hs ps hp;exact ⟨v,rfl,hv⟩
end
end
end Go.Av
namespace Go.Av
open Go.Proofs.Tryz
noncomputable section
open Go.Proofs
set_option maxRecDepth 100000
theorem c_3:prog.cellsOf 3=1:=by kernel_rfl
theorem c_4:prog.cellsOf 4=1:=by kernel_rfl
theorem Z3x:prog.cellsOf 24=6:=by kernel_rfl
theorem Qqe {ps:List PV} (h:Sh prog 24 ps):∃ v:Zh,ps=v.cells∧Qjb v:=by
 have hn:=(Q6x underlying24 h).1;have f0:=Q2r underlying24 h (.head _) c_4 rfl rfl;obtain ⟨x0,e0⟩:=Q6z underlying4 f0;have f1:=Q2r underlying24 h (.tail _ (.head _)) c_3 rfl rfl;obtain ⟨x1,e1,o1⟩:=Q2f underlying3 f1;have f2:=Q2r underlying24 h (.tail _ (.tail _ (.head _))) c_4 rfl rfl;obtain ⟨x2,e2⟩:=Q6z underlying4 f2;have f3:=Q2r underlying24 h (.tail _ (.tail _ (.tail _ (.head _)))) c_4 rfl rfl;obtain ⟨x3,e3⟩:=Q6z underlying4 f3;have f4:=Q2r underlying24 h (.tail _ (.tail _ (.tail _ (.tail _ (.head _))))) c_4 rfl rfl;obtain ⟨x4,e4⟩:=Q6z underlying4 f4;have f5:=Q2r underlying24 h (.tail _ (.tail _ (.tail _ (.tail _ (.tail _ (.head _)))))) c_3 rfl rfl;obtain ⟨x5,e5,o5⟩:=Q2f underlying3 f5;exact ⟨⟨x0,x1,x2,x3,x4,x5⟩,(Gz (k:=0) (n:=1) e0 (Gz (k:=1) (n:=1) e1 (Gz (k:=2) (n:=1) e2 (Gz (k:=3) (n:=1) e3 (Gz (k:=4) (n:=1) e4 (Gz (k:=5) (n:=1) e5 (Qia (hn.trans Z3x)))))))),⟨trivial,o1,trivial,trivial,trivial,o5⟩⟩
theorem c_9:prog.cellsOf 9=1:=by kernel_rfl
theorem Z76:prog.cellsOf 26=16:=by kernel_rfl
theorem Qxk {ps:List PV} (h:Sh prog 26 ps):∃ v:Yw,ps=v.cells∧Qu9 v:=by
 have hn:=(Q6x underlying26 h).1;have f0:=Q2r underlying26 h (.head _) c_3 rfl rfl;obtain ⟨x0,e0,o0⟩:=Q2f underlying3 f0;have f1:=Q2r underlying26 h (.tail _ (.head _)) Z3x rfl rfl;obtain ⟨x1,e1,o1⟩:=Qqe f1;have f2:=Q2r underlying26 h (.tail _ (.tail _ (.head _))) c_3 rfl rfl;obtain ⟨x2,e2,o2⟩:=Q2f underlying3 f2;have f3:=Q2r underlying26 h (.tail _ (.tail _ (.tail _ (.head _)))) c_3 rfl rfl;obtain ⟨x3,e3,o3⟩:=Q2f underlying3 f3;have f4:=Q2r underlying26 h (.tail _ (.tail _ (.tail _ (.tail _ (.head _))))) c_3 rfl rfl;obtain ⟨x4,e4,o4⟩:=Q2f underlying3 f4;have f5:=Q2r underlying26 h (.tail _ (.tail _ (.tail _ (.tail _ (.tail _ (.head _)))))) c_4 rfl rfl;obtain ⟨x5,e5⟩:=Q6z underlying4 f5;have f6:=Q2r underlying26 h (.tail _ (.tail _ (.tail _ (.tail _ (.tail _ (.tail _ (.head _))))))) c_3 rfl rfl;obtain ⟨x6,e6,o6⟩:=Q2f underlying3 f6;have f7:=Q2r underlying26 h (.tail _ (.tail _ (.tail _ (.tail _ (.tail _ (.tail _ (.tail _ (.head _)))))))) c_3 rfl rfl;obtain ⟨x7,e7,o7⟩:=Q2f underlying3 f7;have f8:=Q2r underlying26 h (.tail _ (.tail _ (.tail _ (.tail _ (.tail _ (.tail _ (.tail _ (.tail _ (.head _))))))))) c_3 rfl rfl;obtain ⟨x8,e8,o8⟩:=Q2f underlying3 f8;have f9:=Q2r underlying26 h (.tail _ (.tail _ (.tail _ (.tail _ (.tail _ (.tail _ (.tail _ (.tail _ (.tail _ (.head _)))))))))) c_9 rfl rfl;obtain ⟨x9,e9,o9⟩:=Qfj underlying9 f9;have f10:=Q2r underlying26 h (.tail _ (.tail _ (.tail _ (.tail _ (.tail _ (.tail _ (.tail _ (.tail _ (.tail _ (.tail _ (.head _))))))))))) c_9 rfl rfl;obtain ⟨x10,e10,o10⟩:=Qfj underlying9 f10;exact ⟨⟨x0,x1,x2,x3,x4,x5,x6,x7,x8,x9,x10⟩,(Gz (k:=0) (n:=1) e0 (Gz (k:=1) (n:=6) e1 (Gz (k:=7) (n:=1) e2 (Gz (k:=8) (n:=1) e3 (Gz (k:=9) (n:=1) e4 (Gz (k:=10) (n:=1) e5 (Gz (k:=11) (n:=1) e6 (Gz (k:=12) (n:=1) e7 (Gz (k:=13) (n:=1) e8 (Gz (k:=14) (n:=1) e9 (Gz (k:=15) (n:=1) e10 (Qia (hn.trans Z76))))))))))))),⟨o0,o1,o2,o3,o4,trivial,o6,o7,o8,o9,o10⟩⟩
theorem Qsm {x:PV} (h:Q8v prog 26 x):∃ v:Yw,x = .agg v.cells∧Qu9 v:=Qn2 underlying26 h fun _ h=>Qxk h
theorem Z7d:prog.cellsOf 66=3:=by kernel_rfl
theorem Q42 {ps:List PV} (h:Sh prog 66 ps):∃ v:Q9,ps=v.cells∧Q4e v:=by
 have hn:=(Q6x underlying66 h).1;have f0:=Q2r underlying66 h (.head _) c_9 rfl rfl;obtain ⟨x0,e0,o0⟩:=Qfj underlying9 f0;have f1:=Q2r underlying66 h (.tail _ (.head _)) c_9 rfl rfl;obtain ⟨x1,e1,o1⟩:=Qfj underlying9 f1;have f2:=Q2r underlying66 h (.tail _ (.tail _ (.head _))) c_3 rfl rfl;obtain ⟨x2,e2,o2⟩:=Q2f underlying3 f2;exact ⟨⟨x0,x1,x2⟩,(Gz (k:=0) (n:=1) e0 (Gz (k:=1) (n:=1) e1 (Gz (k:=2) (n:=1) e2 (Qia (hn.trans Z7d))))),⟨o0,o1,o2⟩⟩
end
end Go.Av
