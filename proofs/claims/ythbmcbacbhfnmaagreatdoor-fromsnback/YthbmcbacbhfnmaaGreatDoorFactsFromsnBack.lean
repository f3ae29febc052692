/- Part of FromsnBack: the law returns true; no condition. -/
import Derived.Test.YthbmcbacbhfnmaaGreatDoorSeat1
import Derived.Test.YthbmcbacbhfnmaaGreatDoorAvBridges
import Derived.Test.YthbmcbacbhfnmaaGreatDoorAvClosed4
import Derived.Test.YthbmcbacbhfnmaaGreatDoorLiftF5
import Derived.Test.YthbmcbacbhfnmaaGreatDoorPlain
section
set_option linter.all false
namespace Go.Proofs.YthbmcbacbhfnmaaGreatDoor.FromsnBack
open Go.Av
set_option maxRecDepth 100000
theorem Zc3:(Rows.fromsnBackRow.wf (OpenSpec.ofChange (OpenSpec.ofChange Rows.fromsnBackSpec).bare))=true:=by kernel_rfl
theorem Zc7:(laidOutB Tryz.prog)=true:=by kernel_rfl
theorem Zbu:(mapsRowed Tryz.prog)=true:=by kernel_rfl
theorem Zcr:(Tryz.f3.params.all (Tryz.prog.readableRec ·))=true:=by kernel_rfl
theorem Zd9:(namedTie Tryz.prog Rows.fromsnBackRow.named (OpenSpec.ofChange Rows.fromsnBackSpec).bare.vars)=true:=by kernel_rfl
theorem Zc1:((Rows.fromsnBackRow.stops == []))=true:=by kernel_rfl
theorem Zck:((Tryz.prog.stops == []))=true:=by kernel_rfl
theorem Zce:((Rows.fromsnBackRow.knobs == []))=true:=by kernel_rfl
theorem Zdb:((Tryz.prog.stopKnobs == []))=true:=by kernel_rfl
theorem Zco:((Rows.fromsnBackRow.inPlace == Tryz.prog.inPlace 3))=true:=by kernel_rfl
theorem Zab:((Rows.fromsnBackRow.unfollowed == Tryz.prog.unfollowed 3))=true:=by kernel_rfl
theorem Z9n:((Rows.fromsnBackRow.recurses == Tryz.prog.recurses 3))=true:=by kernel_rfl
theorem Z96:((Rows.fromsnBackRow.named == Tryz.prog.varsNamed 3))=true:=by kernel_rfl
theorem Z97:((Rows.fromsnBackRow.maps == (Tryz.f3.params.toList++(OpenSpec.ofChange Rows.fromsnBackSpec).bare.plain.varTypes Tryz.prog).any (Tryz.prog.mapsRec ·)))=true:=by kernel_rfl
theorem Z8e:((Rows.fromsnBackRow.ifaces == (Tryz.f3.params.toList++(OpenSpec.ofChange Rows.fromsnBackSpec).bare.plain.varTypes Tryz.prog).any (Tryz.prog.ifacesRec ·)))=true:=by kernel_rfl
theorem Zaq:((Rows.fromsnBackRow.mapsOut == Tryz.prog.mapsAmong Tryz.f3.resultTypes.toList))=true:=by kernel_rfl
theorem Z9p:((Rows.fromsnBackRow.loops == (Tryz.f3.params.toList++(OpenSpec.ofChange Rows.fromsnBackSpec).bare.plain.varTypes Tryz.prog).any (Tryz.prog.loopsFrom ·)))=true:=by kernel_rfl
theorem Z8r:((Rows.fromsnBackRow.wideKeys == (Tryz.f3.params.toList++(OpenSpec.ofChange Rows.fromsnBackSpec).bare.plain.varTypes Tryz.prog++Tryz.f3.resultTypes.toList).any (Tryz.prog.wideKeysFrom ·)))=true:=by kernel_rfl
theorem Z9j:((OpenSpec.ofChange Rows.fromsnBackSpec).bare.vars.all (Tryz.prog.varReadable ·))=true:=by kernel_rfl
theorem Z87:(Tryz.f3.resultTypes.all (fun t=>Tryz.prog.readableRec t&&decide (t<Tryz.prog.types.size)))=true:=by kernel_rfl
theorem Z9u:((Rows.fromsnBackRow.ifacesOut == Tryz.f3.resultTypes.toList.any (Tryz.prog.ifacesRec ·)))=true:=by kernel_rfl
theorem Z9z:((Rows.fromsnBackRow.loopsOut == Tryz.f3.resultTypes.toList.any (Tryz.prog.loopsFrom ·)))=true:=by kernel_rfl
theorem Z8n:((Rows.fromsnBackRow.plainKeys == Tryz.prog.plainKeys))=true:=by kernel_rfl
theorem Z9d:(Rows.fromsnBackRow.shortTexts.isNone)=true:=by kernel_rfl
theorem Z94:(Tryz.prog.stopsHeard)=true:=by kernel_rfl
theorem Z93:(Tryz.prog.mayEnter)=true:=by kernel_rfl
theorem Zb2:((Rows.fromsnBackRow.lifted == Tryz.prog.liftsFinal))=true:=by kernel_rfl
theorem Z95:((Tryz.prog.make == some Rows.fromsnBackRow.make))=true:=by kernel_rfl
theorem Zaz:((Rows.fromsnBackRow.kinds == (if Rows.fromsnBackRow.domain.isEmpty then [] else Tryz.f3.params.toList.map fun t=>match Tryz.prog.underlying t with | some (.int k)=>some k | _=>none)))=true:=by kernel_rfl
theorem Zah:((Rows.fromsnBackRow.pinned == Rows.fromsnBackRow.pinnedBy))=true:=by kernel_rfl
theorem Z91:((Rows.fromsnBackRow.veiled == (Tryz.f3.params.toList++(OpenSpec.ofChange Rows.fromsnBackSpec).bare.plain.varTypes Tryz.prog++Tryz.f3.resultTypes.toList).any (Tryz.prog.veiledRec ·)))=true:=by kernel_rfl
theorem Zae:(Rows.fromsnBackRow.veiledFits Tryz.prog Tryz.f3.params.toList (Tryz.f3.params.toList++(OpenSpec.ofChange Rows.fromsnBackSpec).bare.plain.varTypes Tryz.prog++Tryz.f3.resultTypes.toList))=true:=by kernel_rfl
theorem Qcs {a b:Bool} (ha:a=true) (hb:b=true):(a&&b)=true:=by rw [ha,hb];rfl
theorem facts:joinedFacts Tryz.prog 3 Tryz.f3 (OpenSpec.ofChange Rows.fromsnBackSpec).bare Rows.fromsnBackRow=true:=by
 unfold joinedFacts
 exact Qcs (Qcs (Qcs (Qcs (Qcs (Qcs (Qcs (Qcs (Qcs (Qcs (Qcs (Qcs (Qcs (Qcs (Qcs (Qcs (Qcs (Qcs (Qcs (Qcs (Qcs (Qcs (Qcs (Qcs (Qcs (Qcs (Qcs (Qcs (Qcs (Qcs (Qcs (Zc3) Zc7) Zbu) Zcr) Zd9) Zc1) Zck) Zce) Zdb) Zco) Zab) Z9n) Z96) Z97) Z8e) Zaq) Z9p) Z8r) Z9j) Z87) Z9u) Z9z) Z8n) Z9d) Z94) Z93) Zb2) Z95) Zaz) Zah) Z91) Zae
end Go.Proofs.YthbmcbacbhfnmaaGreatDoor.FromsnBack
namespace Go.Av
noncomputable section
set_option maxHeartbeats 4000000
section
variable {P:Program} {t e:TypeId}
theorem Z08 {x:List PV} (hu:P.underlying t=some (.slice e)) (h:Sh P t x):∃ rows,x = [.slice (P.cellsOf e) rows]∧rows.length≤maxLen∧∀ r∈rows,Sh P e r:=dl
theorem U7 {k:IntKind} {x:List PV} (hu:P.underlying t=some (.int k)) (h:Sh P t x):∃ n,x=cI k n∧k.min≤n∧n≤k.max:=dl
theorem Q2i {x:List PV} (hu:P.underlying t=some .string) (h:Sh P t x):∃ s,x=cS s∧s.length≤maxLen:=dl
theorem Q0s {x:List PV} (hu:P.underlying t=some .bool) (h:Sh P t x):∃ b,x=cB b:=dl
theorem Ql8 {T:Type} {c:T->List PV} {Ok:T->Prop}:∀ (rows:List (List PV)),(∀ r∈rows,∃ v:T,r=c v∧Ok v)->∃ l:List T,rows=Q7 c l∧∀ v∈l,Ok v
 | [],_=>⟨[],rfl,fun _ h=>by cases h⟩
 | r::rows,h=>by
  obtain ⟨v,rfl,hv⟩:=h r (.head _);obtain ⟨l,rfl,hl⟩:=Ql8 rows fun r hr=>h r (.tail _ hr)
  exact ⟨v::l,rfl,fun u hu=>by
   grind⟩
theorem Qxc {T:Type} {c:T->List PV} {Ok:T->Prop} {x:List PV} (hu:P.underlying t=some (.slice e)) (h:Sh P t x) (hr:∀ r,Sh P e r->∃ v:T,r=c v∧Ok v) :
  ∃ l:List T,x = [.slice (P.cellsOf e) (Q7 c l)]∧l.length≤maxLen∧∀ v∈l,Ok v:=by
 obtain ⟨rows,rfl,hl,hs⟩:=Z08 hu h;obtain ⟨l,rfl,ho⟩:=Ql8 rows fun r h=>hr r (hs r h)
 grind [Q6]
theorem Z0x {T:Type} {c:T->List PV} {Ok:T->Prop} {x:PV} (hu:P.underlying t=some (.slice e)) (h:Qai P t x) (hr:∀ r,Sh P e r->∃ v:T,r=c v∧Ok v) :
  ∃ l:List T,x = .slice (P.cellsOf e) (Q7 c l)∧l.length≤maxLen∧∀ v∈l,Ok v:=by
 unfold Qai at h;rw [hu] at h;obtain ⟨l,hx,h1,h2⟩:=Qxc hu h hr<;>grind
end
end
end Go.Av
namespace Go.Av
noncomputable section
set_option maxHeartbeats 4000000
section
variable {P:Program} {t:TypeId}
theorem Q26 {fs:Array Field} {cells:List PV} (hu:P.underlying t=some (.struct fs)) (h:Sh P t cells):cells.length=P.cellsOf t∧∀ f∈fs.toList,Sh P f.type ((cells.drop f.offset).take (P.cellsOf f.type)):=dl
theorem Wb {fs:Array Field} {cells:List PV} (hu:P.underlying t=some (.struct fs)) (h:Sh P t cells) {f:Field} (hf:f∈fs.toList) {n k:Nat} {u:TypeId} (hn:P.cellsOf u=n) (hk:f.offset=k) (ht:f.type=u):Sh P u ((cells.drop k).take n):=by
 subst hn hk ht;exact (Q26 hu h).2 f hf
theorem Zq {xs a b:List PV} {k n:Nat} (h:(xs.drop k).take n=a) (r:xs.drop (k+n)=b):xs.drop k=a++b:=by
 rw [← h,← r,← Nc,Ml]
theorem Q7e {xs:List PV} {k:Nat} (h:xs.length=k):xs.drop k = []:=Bg (by omega)
theorem Qkt {x:PV} {fs:Array Field} {T:Type} {c:T->List PV} {Ok:T->Prop} (hu:P.underlying t=some (.struct fs)) (h:Qai P t x) (hs:∀ r,Sh P t r->∃ v:T,r=c v∧Ok v):∃ v:T,x = .agg (c v)∧Ok v:=by
 grind [Qai]
theorem Q9y {T:Type} {c:T->List PV} {Ok:T->Prop} {x:List PV} {e:TypeId} {n:Nat} (hn:P.cellsOf e=n) (hu:P.underlying t=some (.slice e)) (h:Sh P t x) (hr:∀ r,Sh P e r->∃ v:T,r=c v∧Ok v) :
  ∃ l:List T,x = [.slice n (Q7 c l)]∧l.length≤maxLen∧∀ v∈l,Ok v:=by
 subst hn;exact Qxc hu h hr
end
end
end Go.Av
namespace Go.Av
noncomputable section
open Go.Proofs
set_option maxRecDepth 100000
theorem Z44:Tryz.prog.cellsOf 136=4:=by kernel_rfl
theorem Z8i:Tryz.prog.cellsOf 3=1:=by kernel_rfl
theorem Z8t:Tryz.prog.cellsOf 134=1:=by kernel_rfl
theorem Za3:Tryz.prog.cellsOf 9=1:=by kernel_rfl
theorem Z6s:Tryz.prog.cellsOf 37=1:=by kernel_rfl
theorem Z42 {P:Program} {t:TypeId} {k:IntKind} {x:PV} (hu:P.underlying t=some (.int k)) (h:Sh P t [x]):∃ n,x = .int k n∧k.min≤n∧n≤k.max:=
 Z5d hu (by unfold Qai;rw [hu];exact h)
theorem Z99 {P:Program} {t:TypeId} {x:PV} (hu:P.underlying t=some .string) (h:Sh P t [x]):∃ s,x = .str s∧s.length≤maxLen:=
 Qyp hu (by unfold Qai;rw [hu];exact h)
theorem shV {t:TypeId} {ps:List PV} (h:Sh Tryz.prog t ps):(t=136->∃ v:Q4,ps=v.cells∧OkV v)∧(t=37->∃ l:List Q4,ps = [.slice 4 (Q4.rows l)]∧l.length≤maxLen∧∀ v∈l,OkV v):=by
 induction h with
 | bool t h b=>exact bb
 | int t k n h h1 h2=>exact bb
 | str t s h hl=>exact bb
 | array t e n cells h hn hf ih=>exact bb
 | slice t e rows h hl hr hs ih=>
  refine ⟨fun e=>(by subst e;rw [Tryz.underlying136] at h;cases h),fun e=>?_⟩;subst e;rw [Tryz.underlying37] at h;cases h;obtain ⟨l,rfl,hl2⟩:=Z1n rows (fun r hr=>(ih r hr).1 rfl);rw [Z44];exact ⟨l,rfl,by rwa [Qng] at hl,hl2⟩
 | struct t fs cells h hn hf ih=>
  refine ⟨fun e=>?_,fun e=>(by subst e;rw [Tryz.underlying37] at h;cases h)⟩;subst e;rw [Tryz.underlying136] at h;cases h;rw [Z44] at hn
  match cells,hn with
  | [a,b,c,d],_=>
   have f0:=hf _ (.head _);have f1:=hf _ (.tail _ (.head _));have f2:=hf _ (.tail _ (.tail _ (.head _)));have f3:=(ih _ (.tail _ (.tail _ (.tail _ (.head _))))).2 rfl;simp only [Z8i,Z8t,Za3,Z6s] at f0 f1 f2 f3;obtain ⟨k,rfl,k1,k2⟩:=Z42 Tryz.underlying3 f0;obtain ⟨n,rfl,n1,n2⟩:=Z42 Tryz.underlying134 f1;obtain ⟨s,rfl,hs⟩:=Z99 Tryz.underlying9 f2;obtain ⟨l,hd,hl,hl2⟩:=f3
   have hd:d = .slice 4 (Q4.rows l):=by simpa using hd
   subst hd;refine ⟨⟨k,n,s,l⟩,rfl,.mk k n s l ⟨k1,k2⟩ ⟨n1,?_⟩ hs hl hl2⟩
   have:IntKind.u64.max=18446744073709551615:=by decide
   omega
end
end Go.Av
end
section
set_option linter.all false
namespace Go.Av
open Go.Proofs.Tryz
noncomputable section
open Go.Proofs
set_option maxRecDepth 100000
def Zjb:prog.cellsOf 23=1:=by kernel_rfl
def c_3:prog.cellsOf 3=1:=by kernel_rfl
def c_9:prog.cellsOf 9=1:=by kernel_rfl
def Zd2:prog.cellsOf 77=2:=by kernel_rfl
def Qvx {ps:List PV} (h:Sh prog 77 ps):∃ v:Vc,ps=v.cells∧Qyo v:=by
 have hn:=(Q26 underlying77 h).1;have f0:=Wb underlying77 h (.head _) c_3 rfl rfl;obtain ⟨x0,e0,o0⟩:=U7 underlying3 f0;have f1:=Wb underlying77 h (.tail _ (.head _)) c_9 rfl rfl;obtain ⟨x1,e1,o1⟩:=Q2i underlying9 f1;exact ⟨⟨x0,x1⟩,(Zq (k:=0) (n:=1) e0 (Zq (k:=1) (n:=1) e1 (Q7e (hn.trans Zd2)))),⟨o0,o1⟩⟩
def c_4:prog.cellsOf 4=1:=by kernel_rfl
def Zse:prog.cellsOf 25=6:=by kernel_rfl
def Qxe {ps:List PV} (h:Sh prog 25 ps):∃ v:Qz,ps=v.cells∧Qtc v:=by
 have hn:=(Q26 underlying25 h).1;have f0:=Wb underlying25 h (.head _) c_4 rfl rfl;obtain ⟨x0,e0⟩:=Q0s underlying4 f0;have f1:=Wb underlying25 h (.tail _ (.head _)) c_3 rfl rfl;obtain ⟨x1,e1,o1⟩:=U7 underlying3 f1;have f2:=Wb underlying25 h (zf (.head _)) c_4 rfl rfl;obtain ⟨x2,e2⟩:=Q0s underlying4 f2;have f3:=Wb underlying25 h (zf (.tail _ (.head _))) c_4 rfl rfl;obtain ⟨x3,e3⟩:=Q0s underlying4 f3;have f4:=Wb underlying25 h (zg (.head _)) c_4 rfl rfl;obtain ⟨x4,e4⟩:=Q0s underlying4 f4;have f5:=Wb underlying25 h (zg (.tail _ (.head _))) c_3 rfl rfl;obtain ⟨x5,e5,o5⟩:=U7 underlying3 f5;exact ⟨⟨x0,x1,x2,x3,x4,x5⟩,(Zq (k:=0) (n:=1) e0 (Zq (k:=1) (n:=1) e1 (Zq (k:=2) (n:=1) e2 (Zq (k:=3) (n:=1) e3 (Zq (k:=4) (n:=1) e4 (Zq (k:=5) (n:=1) e5 (Q7e (hn.trans Zse)))))))),⟨trivial,o1,trivial,trivial,trivial,o5⟩⟩
def Zd7:prog.cellsOf 27=16:=by kernel_rfl
def Qvz {ps:List PV} (h:Sh prog 27 ps):∃ v:Xl,ps=v.cells∧Qxp v:=by
 have hn:=(Q26 underlying27 h).1;have f0:=Wb underlying27 h (.head _) c_3 rfl rfl;obtain ⟨x0,e0,o0⟩:=U7 underlying3 f0;have f1:=Wb underlying27 h (.tail _ (.head _)) Zse rfl rfl;obtain ⟨x1,e1,o1⟩:=Qxe f1;have f2:=Wb underlying27 h (zf (.head _)) c_3 rfl rfl;obtain ⟨x2,e2,o2⟩:=U7 underlying3 f2;have f3:=Wb underlying27 h (zf (.tail _ (.head _))) c_3 rfl rfl;obtain ⟨x3,e3,o3⟩:=U7 underlying3 f3;have f4:=Wb underlying27 h (zg (.head _)) c_3 rfl rfl;obtain ⟨x4,e4,o4⟩:=U7 underlying3 f4;have f5:=Wb underlying27 h (zg (.tail _ (.head _))) c_4 rfl rfl;obtain ⟨x5,e5⟩:=Q0s underlying4 f5;have f6:=Wb underlying27 h (zg (zf (.head _))) c_3 rfl rfl;obtain ⟨x6,e6,o6⟩:=U7 underlying3 f6;have f7:=Wb underlying27 h (zg (zf (.tail _ (.head _)))) c_3 rfl rfl;obtain ⟨x7,e7,o7⟩:=U7 underlying3 f7;have f8:=Wb underlying27 h (zi (.head _)) c_3 rfl rfl;obtain ⟨x8,e8,o8⟩:=U7 underlying3 f8;have f9:=Wb underlying27 h (zi (.tail _ (.head _))) c_9 rfl rfl;obtain ⟨x9,e9,o9⟩:=Q2i underlying9 f9;have f10:=Wb underlying27 h (zi (zf (.head _))) c_9 rfl rfl;obtain ⟨x10,e10,o10⟩:=Q2i underlying9 f10;exact ⟨⟨x0,x1,x2,x3,x4,x5,x6,x7,x8,x9,x10⟩,(Zq (k:=0) (n:=1) e0 (Zq (k:=1) (n:=6) e1 (Zq (k:=7) (n:=1) e2 (Zq (k:=8) (n:=1) e3 (Zq (k:=9) (n:=1) e4 (Zq (k:=10) (n:=1) e5 (Zq (k:=11) (n:=1) e6 (Zq (k:=12) (n:=1) e7 (Zq (k:=13) (n:=1) e8 (Zq (k:=14) (n:=1) e9 (Zq (k:=15) (n:=1) e10 (Q7e (hn.trans Zd7))))))))))))),⟨o0,o1,o2,o3,o4,trivial,o6,o7,o8,o9,o10⟩⟩
def Y0t:prog.cellsOf 29=17:=by kernel_rfl
def Qox {ps:List PV} (h:Sh prog 29 ps):∃ v:Qb,ps=v.cells∧Qic v:=by
 have hn:=(Q26 underlying29 h).1;have f0:=Wb underlying29 h (.head _) Zjb rfl rfl;obtain ⟨x0,e0,o0⟩:=Q9y (c:=Vc.cells) Zd2 underlying23 f0 (fun _ h=>Qvx h);have f1:=Wb underlying29 h (.tail _ (.head _)) Zd7 rfl rfl;obtain ⟨x1,e1,o1⟩:=Qvz f1;exact ⟨⟨x0,x1⟩,(Zq (k:=0) (n:=1) e0 (Zq (k:=1) (n:=16) e1 (Q7e (hn.trans Y0t)))),⟨o0,o1⟩⟩
def Qn5 {x:PV} (h:Qai prog 29 x):∃ v:Qb,x = .agg v.cells∧Qic v:=Qkt underlying29 h fun _ h=>Qox h
def Zbw:prog.cellsOf 30=1:=by kernel_rfl
def Zbo:prog.cellsOf 128=1:=by kernel_rfl
def Z1r:prog.cellsOf 130=4:=by kernel_rfl
def Qn6 {ps:List PV} (h:Sh prog 130 ps):∃ v:Z5,ps=v.cells∧Qls v:=by
 have hn:=(Q26 underlying130 h).1;have f0:=Wb underlying130 h (.head _) c_3 rfl rfl;obtain ⟨x0,e0,o0⟩:=U7 underlying3 f0;have f1:=Wb underlying130 h (.tail _ (.head _)) Zbo rfl rfl;obtain ⟨x1,e1,o1⟩:=U7 underlying128 f1;have f2:=Wb underlying130 h (zf (.head _)) c_9 rfl rfl;obtain ⟨x2,e2,o2⟩:=Q2i underlying9 f2;have f3:=Wb underlying130 h (zf (.tail _ (.head _))) c_9 rfl rfl;obtain ⟨x3,e3,o3⟩:=Q2i underlying9 f3;exact ⟨⟨x0,x1,x2,x3⟩,(Zq (k:=0) (n:=1) e0 (Zq (k:=1) (n:=1) e1 (Zq (k:=2) (n:=1) e2 (Zq (k:=3) (n:=1) e3 (Q7e (hn.trans Z1r)))))),⟨o0,o1,o2,o3⟩⟩
def Zfr:prog.cellsOf 32=5:=by kernel_rfl
def Z2y {ps:List PV} (h:Sh prog 32 ps):∃ v:Q3r,ps=v.cells∧Qzk v:=by
 have hn:=(Q26 underlying32 h).1;have f0:=Wb underlying32 h (.head _) c_9 rfl rfl;obtain ⟨x0,e0,o0⟩:=Q2i underlying9 f0;have f1:=Wb underlying32 h (.tail _ (.head _)) c_9 rfl rfl;obtain ⟨x1,e1,o1⟩:=Q2i underlying9 f1;have f2:=Wb underlying32 h (zf (.head _)) c_3 rfl rfl;obtain ⟨x2,e2,o2⟩:=U7 underlying3 f2;have f3:=Wb underlying32 h (zf (.tail _ (.head _))) c_4 rfl rfl;obtain ⟨x3,e3⟩:=Q0s underlying4 f3;have f4:=Wb underlying32 h (zg (.head _)) Zbw rfl rfl;obtain ⟨x4,e4,o4⟩:=Q9y (c:=Z5.cells) Z1r underlying30 f4 (fun _ h=>Qn6 h);exact ⟨⟨x0,x1,x2,x3,x4⟩,(Zq (k:=0) (n:=1) e0 (Zq (k:=1) (n:=1) e1 (Zq (k:=2) (n:=1) e2 (Zq (k:=3) (n:=1) e3 (Zq (k:=4) (n:=1) e4 (Q7e (hn.trans Zfr))))))),⟨o0,o1,o2,trivial,o4⟩⟩
def Y3e:prog.cellsOf 33=1:=by kernel_rfl
def Y0m:prog.cellsOf 34=1:=by kernel_rfl
def Zaa:prog.cellsOf 132=5:=by kernel_rfl
def Qv2 {ps:List PV} (h:Sh prog 132 ps):∃ v:Yp,ps=v.cells∧Qpc v:=by
 have hn:=(Q26 underlying132 h).1;have f0:=Wb underlying132 h (.head _) c_9 rfl rfl;obtain ⟨x0,e0,o0⟩:=Q2i underlying9 f0;have f1:=Wb underlying132 h (.tail _ (.head _)) c_3 rfl rfl;obtain ⟨x1,e1,o1⟩:=U7 underlying3 f1;have f2:=Wb underlying132 h (zf (.head _)) c_4 rfl rfl;obtain ⟨x2,e2⟩:=Q0s underlying4 f2;have f3:=Wb underlying132 h (zf (.tail _ (.head _))) c_4 rfl rfl;obtain ⟨x3,e3⟩:=Q0s underlying4 f3;have f4:=Wb underlying132 h (zg (.head _)) c_3 rfl rfl;obtain ⟨x4,e4,o4⟩:=U7 underlying3 f4;exact ⟨⟨x0,x1,x2,x3,x4⟩,(Zq (k:=0) (n:=1) e0 (Zq (k:=1) (n:=1) e1 (Zq (k:=2) (n:=1) e2 (Zq (k:=3) (n:=1) e3 (Zq (k:=4) (n:=1) e4 (Q7e (hn.trans Zaa))))))),⟨o0,o1,trivial,trivial,o4⟩⟩
def Zhv:prog.cellsOf 36=25:=by kernel_rfl
def Qu8 {ps:List PV} (h:Sh prog 36 ps):∃ v:Zj,ps=v.cells∧Qpq v:=by
 have hn:=(Q26 underlying36 h).1;have f0:=Wb underlying36 h (.head _) c_3 rfl rfl;obtain ⟨x0,e0,o0⟩:=U7 underlying3 f0;have f1:=Wb underlying36 h (.tail _ (.head _)) c_4 rfl rfl;obtain ⟨x1,e1⟩:=Q0s underlying4 f1;have f2:=Wb underlying36 h (zf (.head _)) c_4 rfl rfl;obtain ⟨x2,e2⟩:=Q0s underlying4 f2;have f3:=Wb underlying36 h (zf (.tail _ (.head _))) c_3 rfl rfl;obtain ⟨x3,e3,o3⟩:=U7 underlying3 f3;have f4:=Wb underlying36 h (zg (.head _)) c_3 rfl rfl;obtain ⟨x4,e4,o4⟩:=U7 underlying3 f4;have f5:=Wb underlying36 h (zg (.tail _ (.head _))) c_9 rfl rfl;obtain ⟨x5,e5,o5⟩:=Q2i underlying9 f5;have f6:=Wb underlying36 h (zg (zf (.head _))) c_9 rfl rfl;obtain ⟨x6,e6,o6⟩:=Q2i underlying9 f6;have f7:=Wb underlying36 h (zg (zf (.tail _ (.head _)))) c_4 rfl rfl;obtain ⟨x7,e7⟩:=Q0s underlying4 f7;have f8:=Wb underlying36 h (zi (.head _)) c_3 rfl rfl;obtain ⟨x8,e8,o8⟩:=U7 underlying3 f8;have f9:=Wb underlying36 h (zi (.tail _ (.head _))) c_9 rfl rfl;obtain ⟨x9,e9,o9⟩:=Q2i underlying9 f9;have f10:=Wb underlying36 h (zi (zf (.head _))) c_4 rfl rfl;obtain ⟨x10,e10⟩:=Q0s underlying4 f10;have f11:=Wb underlying36 h (zi (zf (.tail _ (.head _)))) c_9 rfl rfl;obtain ⟨x11,e11,o11⟩:=Q2i underlying9 f11;have f12:=Wb underlying36 h (zi (zg (.head _))) c_4 rfl rfl;obtain ⟨x12,e12⟩:=Q0s underlying4 f12;have f13:=Wb underlying36 h (zi (zg (.tail _ (.head _)))) c_9 rfl rfl;obtain ⟨x13,e13,o13⟩:=Q2i underlying9 f13;have f14:=Wb underlying36 h (zi (zg (zf (.head _)))) c_4 rfl rfl;obtain ⟨x14,e14⟩:=Q0s underlying4 f14;have f15:=Wb underlying36 h (zi (zg (zf (.tail _ (.head _))))) Zfr rfl rfl;obtain ⟨x15,e15,o15⟩:=Z2y f15;have f16:=Wb underlying36 h (zi (zi (.head _))) c_4 rfl rfl;obtain ⟨x16,e16⟩:=Q0s underlying4 f16;have f17:=Wb underlying36 h (zi (zi (.tail _ (.head _)))) c_3 rfl rfl;obtain ⟨x17,e17,o17⟩:=U7 underlying3 f17;have f18:=Wb underlying36 h (zi (zi (zf (.head _)))) Y3e rfl rfl;obtain ⟨x18,e18,o18⟩:=Q9y (c:=(cI .i64)) c_3 underlying33 f18 (fun _ h=>U7 underlying3 h);have f19:=Wb underlying36 h (zi (zi (zf (.tail _ (.head _))))) Y0m rfl rfl;obtain ⟨x19,e19,o19⟩:=Q9y (c:=Yp.cells) Zaa underlying34 f19 (fun _ h=>Qv2 h);have f20:=Wb underlying36 h (zi (zi (zg (.head _)))) Zbw rfl rfl;obtain ⟨x20,e20,o20⟩:=Q9y (c:=Z5.cells) Z1r underlying30 f20 (fun _ h=>Qn6 h);exact ⟨⟨x0,x1,x2,x3,x4,x5,x6,x7,x8,x9,x10,x11,x12,x13,x14,x15,x16,x17,x18,x19,x20⟩,(Zq (k:=0) (n:=1) e0 (Zq (k:=1) (n:=1) e1 (Zq (k:=2) (n:=1) e2 (Zq (k:=3) (n:=1) e3 (Zq (k:=4) (n:=1) e4 (Zq (k:=5) (n:=1) e5 (Zq (k:=6) (n:=1) e6 (Zq (k:=7) (n:=1) e7 (Zq (k:=8) (n:=1) e8 (Zq (k:=9) (n:=1) e9 (Zq (k:=10) (n:=1) e10 (Zq (k:=11) (n:=1) e11 (Zq (k:=12) (n:=1) e12 (Zq (k:=13) (n:=1) e13 (Zq (k:=14) (n:=1) e14 (Zq (k:=15) (n:=5) e15 (Zq (k:=20) (n:=1) e16 (Zq (k:=21) (n:=1) e17 (Zq (k:=22) (n:=1) e18 (Zq (k:=23) (n:=1) e19 (Zq (k:=24) (n:=1) e20 (Q7e (hn.trans Zhv))))))))))))))))))))))),⟨o0,trivial,trivial,o3,o4,o5,o6,trivial,o8,o9,trivial,o11,trivial,o13,trivial,o15,trivial,o17,o18,o19,o20⟩⟩
def Y1r:prog.cellsOf 37=1:=by kernel_rfl
def Zlb:prog.cellsOf 39=4:=by kernel_rfl
def Qz7 {ps:List PV} (h:Sh prog 39 ps):∃ v:X9,ps=v.cells∧Qsv v:=by
 have hn:=(Q26 underlying39 h).1;have f0:=Wb underlying39 h (.head _) c_3 rfl rfl;obtain ⟨x0,e0,o0⟩:=U7 underlying3 f0;have f1:=Wb underlying39 h (.tail _ (.head _)) c_3 rfl rfl;obtain ⟨x1,e1,o1⟩:=U7 underlying3 f1;have f2:=Wb underlying39 h (zf (.head _)) c_9 rfl rfl;obtain ⟨x2,e2,o2⟩:=Q2i underlying9 f2;have f3:=Wb underlying39 h (zf (.tail _ (.head _))) Y1r rfl rfl;obtain ⟨x3,e3,l3,o3⟩:=(shV f3).2 rfl;exact ⟨⟨x0,x1,x2,x3⟩,(Zq (k:=0) (n:=1) e0 (Zq (k:=1) (n:=1) e1 (Zq (k:=2) (n:=1) e2 (Zq (k:=3) (n:=1) e3 (Q7e (hn.trans Zlb)))))),⟨o0,o1,o2,⟨l3,o3⟩⟩⟩
def Y3m:prog.cellsOf 41=57:=by kernel_rfl
def Qzg {ps:List PV} (h:Sh prog 41 ps):∃ v:Qg,ps=v.cells∧Qgm v:=by
 have hn:=(Q26 underlying41 h).1;have f0:=Wb underlying41 h (.head _) c_3 rfl rfl;obtain ⟨x0,e0,o0⟩:=U7 underlying3 f0;have f1:=Wb underlying41 h (.tail _ (.head _)) c_3 rfl rfl;obtain ⟨x1,e1,o1⟩:=U7 underlying3 f1;have f2:=Wb underlying41 h (zf (.head _)) c_9 rfl rfl;obtain ⟨x2,e2,o2⟩:=Q2i underlying9 f2;have f3:=Wb underlying41 h (zf (.tail _ (.head _))) c_9 rfl rfl;obtain ⟨x3,e3,o3⟩:=Q2i underlying9 f3;have f4:=Wb underlying41 h (zg (.head _)) c_3 rfl rfl;obtain ⟨x4,e4,o4⟩:=U7 underlying3 f4;have f5:=Wb underlying41 h (zg (.tail _ (.head _))) c_4 rfl rfl;obtain ⟨x5,e5⟩:=Q0s underlying4 f5;have f6:=Wb underlying41 h (zg (zf (.head _))) c_4 rfl rfl;obtain ⟨x6,e6⟩:=Q0s underlying4 f6;have f7:=Wb underlying41 h (zg (zf (.tail _ (.head _)))) c_3 rfl rfl;obtain ⟨x7,e7,o7⟩:=U7 underlying3 f7;have f8:=Wb underlying41 h (zi (.head _)) Zbw rfl rfl;obtain ⟨x8,e8,o8⟩:=Q9y (c:=Z5.cells) Z1r underlying30 f8 (fun _ h=>Qn6 h);have f9:=Wb underlying41 h (zi (.tail _ (.head _))) c_3 rfl rfl;obtain ⟨x9,e9,o9⟩:=U7 underlying3 f9;have f10:=Wb underlying41 h (zi (zf (.head _))) Zjb rfl rfl;obtain ⟨x10,e10,o10⟩:=Q9y (c:=Vc.cells) Zd2 underlying23 f10 (fun _ h=>Qvx h);have f11:=Wb underlying41 h (zi (zf (.tail _ (.head _)))) c_3 rfl rfl;obtain ⟨x11,e11,o11⟩:=U7 underlying3 f11;have f12:=Wb underlying41 h (zi (zg (.head _))) Zhv rfl rfl;obtain ⟨x12,e12,o12⟩:=Qu8 f12;have f13:=Wb underlying41 h (zi (zg (.tail _ (.head _)))) Zd7 rfl rfl;obtain ⟨x13,e13,o13⟩:=Qvz f13;have f14:=Wb underlying41 h (zi (zg (zf (.head _)))) Zlb rfl rfl;obtain ⟨x14,e14,o14⟩:=Qz7 f14;exact ⟨⟨x0,x1,x2,x3,x4,x5,x6,x7,x8,x9,x10,x11,x12,x13,x14⟩,(Zq (k:=0) (n:=1) e0 (Zq (k:=1) (n:=1) e1 (Zq (k:=2) (n:=1) e2 (Zq (k:=3) (n:=1) e3 (Zq (k:=4) (n:=1) e4 (Zq (k:=5) (n:=1) e5 (Zq (k:=6) (n:=1) e6 (Zq (k:=7) (n:=1) e7 (Zq (k:=8) (n:=1) e8 (Zq (k:=9) (n:=1) e9 (Zq (k:=10) (n:=1) e10 (Zq (k:=11) (n:=1) e11 (Zq (k:=12) (n:=25) e12 (Zq (k:=37) (n:=16) e13 (Zq (k:=53) (n:=4) e14 (Q7e (hn.trans Y3m))))))))))))))))),⟨o0,o1,o2,o3,o4,trivial,trivial,o7,o8,o9,o10,o11,o12,o13,o14⟩⟩
def Qu5 {x:PV} (h:Qai prog 41 x):∃ v:Qg,x = .agg v.cells∧Qgm v:=Qkt underlying41 h fun _ h=>Qzg h
def Y3h:prog.cellsOf 74=3:=by kernel_rfl
def Q9h {ps:List PV} (h:Sh prog 74 ps):∃ v:Qi,ps=v.cells∧Qam v:=by
 have hn:=(Q26 underlying74 h).1;have f0:=Wb underlying74 h (.head _) c_9 rfl rfl;obtain ⟨x0,e0,o0⟩:=Q2i underlying9 f0;have f1:=Wb underlying74 h (.tail _ (.head _)) c_9 rfl rfl;obtain ⟨x1,e1,o1⟩:=Q2i underlying9 f1;have f2:=Wb underlying74 h (zf (.head _)) c_3 rfl rfl;obtain ⟨x2,e2,o2⟩:=U7 underlying3 f2;exact ⟨⟨x0,x1,x2⟩,(Zq (k:=0) (n:=1) e0 (Zq (k:=1) (n:=1) e1 (Zq (k:=2) (n:=1) e2 (Q7e (hn.trans Y3h))))),⟨o0,o1,o2⟩⟩
end
end Go.Av
end
