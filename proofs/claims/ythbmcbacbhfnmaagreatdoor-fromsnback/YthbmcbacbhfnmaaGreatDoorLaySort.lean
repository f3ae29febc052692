/- Part of FromsnBack: the law returns true; no condition. -/
import Derived.Test.YthbmcbacbhfnmaaGreatDoorD
import Derived.Shelf.SlGeneric
import Derived.Shelf.SlSortCmp.NoneTotal
import Derived.Ground.SlsfProg
import Derived.Test.YthbmcbacbhfnmaaGreatDoorProg
import Derived.Maps.RangeRun
import Derived.Sort.MapsRangeIn
import Derived.RangeFuncGives
import Derived.Shelf.SlIter.AllValues
import Derived.Shelf.SlIter.Collect
import Derived.WalkSpells
import Derived.StillTactics
import Derived.Laws.Pointers
import Derived.Deep.RegionHeld3
import Derived.RowKit3
set_option linter.all false
namespace Go.Proofs
open Go.Shelf
def Tryz.lsort_ren:Go.Shelf.Ren:=⟨fun | 6=>52 | 15=>91 | 14=>90 | 28=>155 | 29=>156 | 20=>147 | 21=>148 | 22=>149 | 23=>150 | 24=>151 | 25=>152 | 26=>153 | 27=>154 | 46=>196 | 47=>197 | 48=>198 | 49=>199 | 50=>200 | 57=>266 | n=>n,fun | 22=>65 | 24=>64 | 25=>115 | 3=>3 | 39=>170 | 0=>0 | 53=>128 | 55=>134 | 4=>4 | 46=>200 | 45=>199 | 50=>91 | 5=>5 | 9=>9 | 66=>236 | 70=>240 | 76=>291 | 77=>253 | n=>n,fun | n=>n⟩
def Tryz.lsort:Go.Proofs.SlLaysF0.n6 Tryz.prog Tryz.lsort_ren := {
 mixed:=by kernel_rfl
 f6:=⟨Tryz.f52.name,by decide,Tryz.func52.trans (congrArg some (by kernel_rfl))⟩
 f14:=⟨Tryz.f90.name,by decide,Tryz.func90.trans (congrArg some (by kernel_rfl))⟩
 f15:=Tryz.func91.trans (congrArg some (by kernel_rfl))
 f20:=⟨Tryz.f147.name,by decide,Tryz.func147.trans (congrArg some (by kernel_rfl))⟩
 f21:=⟨Tryz.f148.name,by decide,Tryz.func148.trans (congrArg some (by kernel_rfl))⟩
 f22:=⟨Tryz.f149.name,by decide,Tryz.func149.trans (congrArg some (by kernel_rfl))⟩
 f23:=⟨Tryz.f150.name,by decide,Tryz.func150.trans (congrArg some (by kernel_rfl))⟩
 f24:=⟨Tryz.f151.name,by decide,Tryz.func151.trans (congrArg some (by kernel_rfl))⟩
 f25:=⟨Tryz.f152.name,by decide,Tryz.func152.trans (congrArg some (by kernel_rfl))⟩
 f26:=⟨Tryz.f153.name,by decide,Tryz.func153.trans (congrArg some (by kernel_rfl))⟩
 f27:=⟨Tryz.f154.name,by decide,Tryz.func154.trans (congrArg some (by kernel_rfl))⟩
 f28:=Tryz.func155.trans (congrArg some (by kernel_rfl))
 f29:=Tryz.func156.trans (congrArg some (by kernel_rfl))
 f46:=⟨Tryz.f196.name,by decide,Tryz.func196.trans (congrArg some (by kernel_rfl))⟩
 f47:=Tryz.func197.trans (congrArg some (by kernel_rfl))
 f48:=Tryz.func198.trans (congrArg some (by kernel_rfl))
 f49:=⟨Tryz.f199.name,by decide,Tryz.func199.trans (congrArg some (by kernel_rfl))⟩
 f50:=⟨Tryz.f200.name,by decide,Tryz.func200.trans (congrArg some (by kernel_rfl))⟩
 f57:=⟨Tryz.f266.name,by decide,Tryz.func266.trans (congrArg some (by kernel_rfl))⟩
 t0:=Tryz.underlying0
 a0:=Tryz.isAgg0
 z0:=Tryz.sizeOf0
 v0:=Tryz.zeroValue0
 t3:=Tryz.underlying3
 a3:=Tryz.isAgg3
 z3:=Tryz.sizeOf3
 v3:=Tryz.zeroValue3
 t4:=Tryz.underlying4
 a4:=Tryz.isAgg4
 z4:=Tryz.sizeOf4
 v4:=Tryz.zeroValue4
 t5:=Tryz.underlying5
 a5:=Tryz.isAgg5
 z5:=Tryz.sizeOf5
 v5:=Tryz.zeroValue5
 t9:=Tryz.underlying9
 a9:=Tryz.isAgg9
 z9:=Tryz.sizeOf9
 v9:=Tryz.zeroValue9
 t22:=Tryz.underlying65
 a22:=Tryz.isAgg65
 z22:=Tryz.sizeOf65
 v22:=Tryz.zeroValue65
 t25:=Tryz.underlying115
 a25:=Tryz.isAgg115
 z25:=Tryz.sizeOf115
 v25:=Tryz.zeroValue115
 t39:=Tryz.underlying170
 a39:=Tryz.isAgg170
 z39:=Tryz.sizeOf170
 v39:=Tryz.zeroValue170
 t45:=Tryz.underlying199
 a45:=Tryz.isAgg199
 z45:=Tryz.sizeOf199
 v45:=Tryz.zeroValue199
 t46:=Tryz.underlying200
 a46:=Tryz.isAgg200
 z46:=Tryz.sizeOf200
 v46:=Tryz.zeroValue200
 t50:=Tryz.underlying91
 a50:=Tryz.isAgg91
 z50:=Tryz.sizeOf91
 v50:=Tryz.zeroValue91
 t53:=Tryz.underlying128
 a53:=Tryz.isAgg128
 z53:=Tryz.sizeOf128
 v53:=Tryz.zeroValue128
 t55:=Tryz.underlying134
 a55:=Tryz.isAgg134
 z55:=Tryz.sizeOf134
 v55:=Tryz.zeroValue134
 t66:=Tryz.underlying236
 a66:=Tryz.isAgg236
 z66:=Tryz.sizeOf236
 v66:=Tryz.zeroValue236
 t70:=Tryz.underlying240
 a70:=Tryz.isAgg240
 z70:=Tryz.sizeOf240
 v70:=Tryz.zeroValue240
 t76:=Tryz.underlying291
 a76:=Tryz.isAgg291
 z76:=Tryz.sizeOf291
 v76:=Tryz.zeroValue291
 t77:=Tryz.underlying253
 a77:=Tryz.isAgg253
 z77:=Tryz.sizeOf253
 v77:=Tryz.zeroValue253 }
end Go.Proofs
namespace Go
set_option maxHeartbeats 4000000
open Go.ChangeMaps (setBlock)
section
variable {F:Fence} {n:Nat} {P:Program} (w:World) {ops:Array Oper} {rest:List Oper} {o:Oper} {a:Act} {Q:Exit->Act->World->Prop}
def Qdz (hg:o.guard=none) (m:Operand) (t:TypeId) (hop:o.op=Op.range t m) (k e:TypeId) (ht:P.underlying t=some (.map k e)) (b:Nat) (es:Array MapEntry) (clock:Nat)
  (hm:a.eval m = .map (some b)) (hb:w.heap[b]? = some (.map es clock)) (hK:wpListIn F n P ops Q rest (a.put o.dst (.pointer (some ⟨w.heap.size,0,none⟩))) (w.alloc (.mapIter (some b) clock #[] clock))) :
  wpListIn F n P ops Q (o::rest) a w:=by
 refine wpListIn_plain hg fun K' hK'=>?_;have hrun:=run_range_map (P:=P) w t k e b es clock ht hb;unfold Oper.wpIn;refine ⟨?_,?_⟩
 ·simp [Oper.about,hop]
 rw [Oper.semAt_plain F _ _ (by simp_all)];simp [execOp,hop,hm,hrun,Result.andThen];exact hK' _ _ hK
def Qen (hg:o.guard=none) (it:Operand) (hop:o.op=Op.next it false) (r bm since c0:Nat) (seen:Array Nat) (es:Array MapEntry) (clock:Nat)
  (hit:a.eval it = .pointer (some ⟨r,0,none⟩)) (hr:w.heap[r]? = some (.mapIter (some bm) since seen c0)) (hb:w.heap[bm]? = some (.map es clock)) (hold:∀ x∈es.toList,x.born<since) (hsc:since≤c0)
  (hDone:(leftOf es seen).size=0->wpListIn F n P ops Q rest (a.put o.dst (.tuple #[.bool false])) w)
  (hMore:∀ x∈(leftOf es seen).toList,∀ w1:World,(w1=w∨w1=w.drew)->wpListIn F n P ops Q rest (a.put o.dst (.tuple #[.bool true,x.key,x.val])) (setBlock w1 r (.mapIter (some bm) since (seen.push x.born) clock))) :
  wpListIn F n P ops Q (o::rest) a w:=by
 refine wpListIn_plain hg fun K' hK'=>?_;unfold Oper.wpIn;refine ⟨by simp [Oper.about,hop],?_⟩;rw [Oper.semAt_plain F _ _ (by simp_all)]
 rcases run_next_at (P:=P) w o.type r bm since c0 seen es clock hr hb hold hsc with ⟨h0,hrun⟩ | ⟨x,hx,w1,hw1,hrun⟩
 ·simp [execOp,hop,hit,hrun,Result.andThen];exact hK' _ _ (hDone h0)
 simp [execOp,hop,hit,hrun,Result.andThen];exact hK' _ _ (hMore x hx w1 hw1)
end
end Go
namespace Go.Av.Tp
open Go Go.Proofs Go.RowKit Go.Maps Go.Sort Go.Shelf
open Go.ChangeMaps (setBlock)
section
variable {F:Fence} {n:Nat} {P:Program} (w:World) {ops:Array Oper} {rest:List Oper} {o:Oper} {a:Act} {Q:Exit->Act->World->Prop}
def Qju (w:World) (r:Nat) (x:Obj):w.grownBy (setBlock w r x) (some r):=
 ⟨rfl,rfl,rfl,by simp [setBlock],fun k _ hk=>by grind [setBlock]⟩
def Qdt (hg:o.guard=none) (it:Operand) (hop:o.op=Op.next it false) (r bm since c0:Nat) (seen:Array Nat) (es:Array MapEntry) (clock:Nat)
  (hit:a.eval it = .pointer (some ⟨r,0,none⟩)) (hr:w.heap[r]? = some (.mapIter (some bm) since seen c0)) (hb:w.heap[bm]? = some (.map es clock)) (hold:∀ x∈es.toList,x.born<since) (hsc:since≤c0)
  (hDone:(leftOf es seen).size=0->wpListIn F n P ops Q rest (a.put o.dst (.tuple #[.bool false])) w)
  (hMore:∀ x∈(leftOf es seen).toList,∀ w':World,w'.heap[r]? = some (.mapIter (some bm) since (seen.push x.born) clock)->w'.heap[bm]? = some (.map es clock)->w.grownBy w' (some r)->w'.heap.size=w.heap.size->wpListIn F n P ops Q rest (a.put o.dst (.tuple #[.bool true,x.key,x.val])) w') :
  wpListIn F n P ops Q (o::rest) a w:=by
 have hne:bm≠r:=fun e=>by simp_all
 have hlt:=(Array.getElem?_eq_some_iff.1 hr).1;refine Qen w hg it hop r bm since c0 seen es clock hit hr hb hold hsc hDone fun x hx w1 hw1=>?_
 have hh:w1.heap=w.heap:=by rcases hw1 with rfl | rfl<;>rfl
 have hg1:w.grownBy w1 (some r):=by
  rcases hw1 with rfl | rfl
  ·exact ⟨rfl,rfl,rfl,Nat.le_refl _,fun _ _ _=>rfl⟩
  exact ⟨rfl,rfl,rfl,Nat.le_refl _,fun _ _ _=>rfl⟩
 have hg2:=Qju w1 r (.mapIter (some bm) since (seen.push x.born) clock);refine hMore x hx _ ?_ ?_ ⟨hg2.os.trans hg1.os,hg2.tape.trans hg1.tape,hg2.output.trans hg1.output,Nat.le_trans hg1.size hg2.size,fun k hk hkr=>(hg2.block k (by simp_all) hkr).trans (hg1.block k hk hkr)⟩ (by simp [setBlock,hh])
 ·simp_all [setBlock]
 grind [setBlock]
end
def Qx3 {α:Type}:∀ (l m:List α),l.Nodup->(∀ x∈l,x∈m)->l.length≤m.length
 | [],_,_,_=>Nat.zero_le _
 | a::l,m,hn,hs=>by
  obtain ⟨s,t,rfl⟩:=List.append_of_mem (hs a (.head _));rw [List.nodup_cons] at hn
  have:=Qx3 l (s++t) hn.2 fun x hx=>by
   grind
  grind
theorem Qrh {α β:Type} {f : α->β}:∀ {l:List α},(l.map f).Nodup->∀ {x y : α},x∈l->y∈l->f x=f y->x=y
 | a::l,hn,x,y,hx,hy,e=>by
  rw [List.map_cons,List.nodup_cons] at hn
  rcases List.mem_cons.1 hx with rfl | hx'<;>rcases List.mem_cons.1 hy with rfl | hy'
  ·rfl
  ·grind
  ·simp_all
  exact Qrh hn.2 hx' hy' e
def Qxx (es:Array MapEntry) (seen:Array Nat) (ps:List MapEntry):Prop:=ps.Nodup∧(∀ p∈ps,p∈es.toList∧seen.contains p.born=true)∧∀ x∈es.toList,seen.contains x.born=true->x∈ps
def Qy8 (es:Array MapEntry):Qxx es #[] []:=⟨.nil,by simp,by simp⟩
theorem Z2b {es:Array MapEntry} {seen:Array Nat} {ps:List MapEntry} (h:Qxx es seen ps) (hn:es.toList.Nodup) (h0:(leftOf es seen).size=0):ps.Perm es.toList:=
 (List.perm_ext_iff_of_nodup h.1 hn).2 fun x=>⟨fun hx=>(h.2.1 x hx).1,fun hx=>h.2.2 x hx (all_seen es seen h0 x hx)⟩
def Z0e {es:Array MapEntry} {seen:Array Nat} {ps:List MapEntry} (h:Qxx es seen ps) (hb:(es.toList.map (·.born)).Nodup) {x:MapEntry} (hx:x∈(leftOf es seen).toList):Qxx es (seen.push x.born) (ps ++ [x])∧ps.length<es.size:=by
 obtain ⟨h1,h2⟩:=mem_left hx
 have hxp:x ∉ ps:=fun e=>by rw [(h.2.1 x e).2] at h2;simp_all
 have hn:(ps ++ [x]).Nodup:=by
  rw [List.nodup_append];exact ⟨h.1,by simp,fun a ha b hb e=>by simp_all⟩
 have hs:∀ p∈ps ++ [x],p∈es.toList:=fun p hp=>(List.mem_append.1 hp).elim (fun e=>(h.2.1 p e).1) (fun e=>by simp_all);refine ⟨⟨hn,fun p hp=>⟨hs p hp,?_⟩,fun y hy hc=>?_⟩,?_⟩
 ·rw [contains_push]
  rcases List.mem_append.1 hp with e | e
  ·rw [(h.2.1 p e).2];rfl
  simp_all
 ·rw [contains_push,Bool.or_eq_true] at hc
  rcases hc with hc | hc
  ·exact List.mem_append_left _ (h.2.2 y hy hc)
  grind [Qrh]
 have:=Qx3 _ es.toList hn hs
 grind
def Z50 (es:Array MapEntry) (i:Nat) (w:World):Nat:=match w.heap[i]? with | some (.mapIter _ _ seen _)=>(leftOf es seen).size | _=>0
def Qss {es:Array MapEntry} {i:Nat} {w:World} {b:Option Nat} {s c:Nat} {seen:Array Nat} (h:w.heap[i]? = some (.mapIter b s seen c)):Z50 es i w=(leftOf es seen).size:=by simp_all [Z50]
set_option maxRecDepth 100000 in
set_option maxHeartbeats 1000000 in
def Z69 (F:Fence) (n:Nat) (h53:F.fn 89) (hro:F.round=none) (hn:1≤n) (l Bm o b:Nat) (es:Array MapEntry) (clock:Nat) (hbn:(es.toList.map (·.born)).Nodup) (hlt:∀ x∈es.toList,x.born<clock)
  (J:List Value->World->Prop) (hval:∀ x∈es.toList,∃ (i:Int) (s:ByteArray) (f:Bool),x.val = .agg #[.int .i64 i,.string s,.bool f])
  (hY:∀ pre x W,J pre W->pre.length<es.size->(∃ e∈es.toList,x=e.val)->YieldAt F (n - 1) Tryz.prog l #[x] W fun e W'=>e = .returned (.bool true)∧J (pre ++ [x]) W'∧KeepsWalks W W')
  (W:World) (hJ:AbidesFrom W.heap.size J) (hm:W.cell? ⟨Bm,o,none⟩=some (.map (some b))) (hb:W.heap[b]? = some (.map es clock)) (h0:J [] W) :
  CallsIn F n Tryz.prog 89 #[.func (.yield l) #[] #[],.pointer (some ⟨Bm,o,none⟩)] W fun e W'=>(∃ v,e = .returned v)∧∃ ps:List MapEntry,ps.Perm es.toList∧J (ps.map (·.val)) W':=by
 have hnd:es.toList.Nodup:=List.Pairwise.of_map _ (fun a b h e=>h (by rw [e])) hbn;refine callsIn_of_wp Tryz.func89 rfl h53 ?_ hro;simp only [Tryz.ntmps89,List.size_toArray,List.length_cons,List.length_nil,Nat.reduceAdd,Nat.reduceSub,Array.replicate_succ,Array.replicate_zero,List.push_toArray,List.append_toArray,List.nil_append,List.cons_append]
 gi_wp2_with (first
  | (gi_at_range;refine Qdz _ rfl _ 108 rfl 3 64 Tryz.underlying108 b es clock rfl hb ?_)
  | gi_in)
 go_frame
 have hb0:(W.alloc (.mapIter (some b) clock #[] clock)).heap[b]? = some (.map es clock):=(Below.heap_alloc W _ b (Array.getElem?_eq_some_iff.1 hb).1).trans hb
 gi_loopw [4] (fun _ wr=>∃ (seen:Array Nat) (c0:Nat) (ps:List MapEntry),wr.heap[W.heap.size]? = some (.mapIter (some b) clock seen c0)∧clock≤c0∧wr.heap[b]? = some (.map es clock)∧Qxx es seen ps∧J (ps.map (·.val)) wr)
  (fun _ wr=>Z50 es W.heap.size wr)
 case atStart=>
  exact ⟨#[],clock,[],World.alloc_heap_new W _,Nat.le_refl _,hb0,Qy8 es,hJ [] W _ none h0 (World.grownBy_alloc W _ none) (fun r e=>by cases e)⟩
 case round=>
  obtain ⟨seen,c0,ps,hr,hc0,hbr,hE,hJs⟩:=hrel
  gi_wp2_with (first
   | (gi_at_next;refine Qdt _ rfl _ rfl W.heap.size b clock c0 seen es clock rfl hr hbr hlt hc0 ?_ ?_)
   | gi_in)
  ·intro h0
   gi_wp2
   go_end0
   grind [Z2b]
  intro x hx w2 hr2 hb2 hg2 hs2;have hx:=Array.mem_toList_iff.2 hx;obtain ⟨hE2,hl2⟩:=Z0e hE hbn hx;obtain ⟨va,vb,vc,hxv⟩:=hval x (mem_left hx).1;have hen:=run_entry_at (P:=Tryz.prog) w2 W.heap.size b clock seen es clock x hr2 hb2 (mem_left hx).1 hbn;have hJ2:J (ps.map (·.val)) w2:=hJ _ wr w2 (some W.heap.size) hJs hg2 (fun r e=>by cases e;exact ⟨Nat.le_refl _,_,hr,rfl⟩);have hJ3:J (ps.map (·.val)) (w2.alloc (Obj.cells #[Value.int IntKind.i64 va,Value.string vb,Value.bool vc] 64)):=hJ _ w2 _ none hJ2 (World.grownBy_alloc w2 _ none) (fun r e=>by cases e);obtain ⟨fn,tmps,assign,body,hy,hR⟩:=hY (ps.map (·.val)) x.val _ hJ3 (by simp_all) ⟨x,(mem_left hx).1,rfl⟩;have hr3:(w2.alloc (Obj.cells #[Value.int IntKind.i64 va,Value.string vb,Value.bool vc] 64)).heap[W.heap.size]? = some (.mapIter (some b) clock (seen.push x.born) clock):=(Below.heap_alloc w2 _ _ (Array.getElem?_eq_some_iff.1 hr2).1).trans hr2;have hb3:(w2.alloc (Obj.cells #[Value.int IntKind.i64 va,Value.string vb,Value.bool vc] 64)).heap[b]? = some (.map es clock):=(Below.heap_alloc w2 _ _ (Array.getElem?_eq_some_iff.1 hb2).1).trans hb2
  have hE3:(ps.map (·.val)) ++ [x.val]=(ps ++ [x]).map (·.val):=by simp
  rw [hE3] at hR;rw [hxv] at hen hy ⊢;clear hs2
  gi_wp2
  refine hR.mono ?_
  rintro e W3 ⟨rfl,hJ4,hk3⟩
  gi_wp2
  have hr4:=hk3.same _ _ hr3 rfl;have hb4:=hk3.same _ _ hb3 rfl
  go_roundw
  case rel=>grind
  case measure=>rw [Qss hr4,Qss hr];simp_all [left_shrinks]
end Go.Av.Tp
