/- Part of FromsnNames: the law returns true; no condition. -/
import Derived.Shelf.SlGeneric
import Derived.Shelf.SlSortCmp.NoneTotal
import Derived.Ground.SlsfProg
import Derived.Test.YtfgpphgmjcnleaaGreatDoorProg
import Derived.Maps.RangeRun
import Derived.Sort.MapsRangeIn
import Derived.RangeFuncGives
import Derived.Shelf.SlIter.AllValues
import Derived.Shelf.SlIter.Collect
import Derived.WalkSpells
import Derived.StillTactics
import Derived.Laws.Pointers
import Derived.Deep.RegionHeld3
import Derived.RowKit3
set_option linter.all false
namespace Go.Proofs
open Go.Shelf
def Tryz.lsort_ren:Go.Shelf.Ren:=⟨fun | 6=>89 | 15=>129 | 14=>128 | 28=>173 | 29=>174 | 20=>165 | 21=>166 | 22=>167 | 23=>168 | 24=>169 | 25=>170 | 26=>171 | 27=>172 | 46=>215 | 47=>216 | 48=>217 | 49=>218 | 50=>219 | 57=>243 | n=>n,fun | 22=>113 | 24=>90 | 25=>146 | 3=>3 | 39=>171 | 0=>0 | 53=>196 | 55=>134 | 4=>4 | 46=>235 | 45=>234 | 50=>71 | 5=>5 | 9=>9 | 66=>276 | 70=>225 | 76=>290 | 77=>291 | n=>n,fun | n=>n⟩
theorem Tryz.lsort:Go.Proofs.SlLaysF0.n6 Tryz.prog Tryz.lsort_ren := {
 mixed:=by kernel_rfl
 f6:=⟨Tryz.f89.name,by decide,Tryz.func89.trans (congrArg some (by kernel_rfl))⟩
 f14:=⟨Tryz.f128.name,by decide,Tryz.func128.trans (congrArg some (by kernel_rfl))⟩
 f15:=Tryz.func129.trans (congrArg some (by kernel_rfl))
 f20:=⟨Tryz.f165.name,by decide,Tryz.func165.trans (congrArg some (by kernel_rfl))⟩
 f21:=⟨Tryz.f166.name,by decide,Tryz.func166.trans (congrArg some (by kernel_rfl))⟩
 f22:=⟨Tryz.f167.name,by decide,Tryz.func167.trans (congrArg some (by kernel_rfl))⟩
 f23:=⟨Tryz.f168.name,by decide,Tryz.func168.trans (congrArg some (by kernel_rfl))⟩
 f24:=⟨Tryz.f169.name,by decide,Tryz.func169.trans (congrArg some (by kernel_rfl))⟩
 f25:=⟨Tryz.f170.name,by decide,Tryz.func170.trans (congrArg some (by kernel_rfl))⟩
 f26:=⟨Tryz.f171.name,by decide,Tryz.func171.trans (congrArg some (by kernel_rfl))⟩
 f27:=⟨Tryz.f172.name,by decide,Tryz.func172.trans (congrArg some (by kernel_rfl))⟩
 f28:=Tryz.func173.trans (congrArg some (by kernel_rfl))
 f29:=Tryz.func174.trans (congrArg some (by kernel_rfl))
 f46:=⟨Tryz.f215.name,by decide,Tryz.func215.trans (congrArg some (by kernel_rfl))⟩
 f47:=Tryz.func216.trans (congrArg some (by kernel_rfl))
 f48:=Tryz.func217.trans (congrArg some (by kernel_rfl))
 f49:=⟨Tryz.f218.name,by decide,Tryz.func218.trans (congrArg some (by kernel_rfl))⟩
 f50:=⟨Tryz.f219.name,by decide,Tryz.func219.trans (congrArg some (by kernel_rfl))⟩
 f57:=⟨Tryz.f243.name,by decide,Tryz.func243.trans (congrArg some (by kernel_rfl))⟩
 t0:=Tryz.underlying0
 a0:=Tryz.isAgg0
 z0:=Tryz.sizeOf0
 v0:=Tryz.zeroValue0
 t3:=Tryz.underlying3
 a3:=Tryz.isAgg3
 z3:=Tryz.sizeOf3
 v3:=Tryz.zeroValue3
 t4:=Tryz.underlying4
 a4:=Tryz.isAgg4
 z4:=Tryz.sizeOf4
 v4:=Tryz.zeroValue4
 t5:=Tryz.underlying5
 a5:=Tryz.isAgg5
 z5:=Tryz.sizeOf5
 v5:=Tryz.zeroValue5
 t9:=Tryz.underlying9
 a9:=Tryz.isAgg9
 z9:=Tryz.sizeOf9
 v9:=Tryz.zeroValue9
 t22:=Tryz.underlying113
 a22:=Tryz.isAgg113
 z22:=Tryz.sizeOf113
 v22:=Tryz.zeroValue113
 t25:=Tryz.underlying146
 a25:=Tryz.isAgg146
 z25:=Tryz.sizeOf146
 v25:=Tryz.zeroValue146
 t39:=Tryz.underlying171
 a39:=Tryz.isAgg171
 z39:=Tryz.sizeOf171
 v39:=Tryz.zeroValue171
 t45:=Tryz.underlying234
 a45:=Tryz.isAgg234
 z45:=Tryz.sizeOf234
 v45:=Tryz.zeroValue234
 t46:=Tryz.underlying235
 a46:=Tryz.isAgg235
 z46:=Tryz.sizeOf235
 v46:=Tryz.zeroValue235
 t50:=Tryz.underlying71
 a50:=Tryz.isAgg71
 z50:=Tryz.sizeOf71
 v50:=Tryz.zeroValue71
 t53:=Tryz.underlying196
 a53:=Tryz.isAgg196
 z53:=Tryz.sizeOf196
 v53:=Tryz.zeroValue196
 t55:=Tryz.underlying134
 a55:=Tryz.isAgg134
 z55:=Tryz.sizeOf134
 v55:=Tryz.zeroValue134
 t66:=Tryz.underlying276
 a66:=Tryz.isAgg276
 z66:=Tryz.sizeOf276
 v66:=Tryz.zeroValue276
 t70:=Tryz.underlying225
 a70:=Tryz.isAgg225
 z70:=Tryz.sizeOf225
 v70:=Tryz.zeroValue225
 t76:=Tryz.underlying290
 a76:=Tryz.isAgg290
 z76:=Tryz.sizeOf290
 v76:=Tryz.zeroValue290
 t77:=Tryz.underlying291
 a77:=Tryz.isAgg291
 z77:=Tryz.sizeOf291
 v77:=Tryz.zeroValue291 }
end Go.Proofs
namespace Go
open Go.ChangeMaps (setBlock)
section
variable {F:Fence} {n:Nat} {P:Program} (w:World) {ops:Array Oper} {rest:List Oper} {o:Oper} {a:Act} {Q:Exit->Act->World->Prop}
theorem Q6d (hg:o.guard=none) (m:Operand) (t:TypeId) (hop:o.op=Op.range t m) (k e:TypeId) (ht:P.underlying t=some (.map k e)) (b:Nat) (es:Array MapEntry) (clock:Nat)
  (hm:a.eval m = .map (some b)) (hb:w.heap[b]? = some (.map es clock)) (hK:wpListIn F n P ops Q rest (a.put o.dst (.pointer (some ⟨w.heap.size,0,none⟩))) (w.alloc (.mapIter (some b) clock #[] clock))) :
  wpListIn F n P ops Q (o::rest) a w:=by
 refine wpListIn_plain hg fun K' hK'=>?_;have hrun:=run_range_map (P:=P) w t k e b es clock ht hb;unfold Oper.wpIn;refine ⟨?_,?_⟩
 ·simp [Oper.about,hop]
 rw [Oper.semAt_plain F _ _ (by rw [hop];intro c hc';cases hc')];simp [execOp,hop,hm,hrun,Result.andThen];exact hK' _ _ hK
theorem Q75 (hg:o.guard=none) (it:Operand) (hop:o.op=Op.next it false) (r bm since c0:Nat) (seen:Array Nat) (es:Array MapEntry) (clock:Nat)
  (hit:a.eval it = .pointer (some ⟨r,0,none⟩)) (hr:w.heap[r]? = some (.mapIter (some bm) since seen c0)) (hb:w.heap[bm]? = some (.map es clock)) (hold:∀ x∈es.toList,x.born<since) (hsc:since≤c0)
  (hDone:(leftOf es seen).size=0->wpListIn F n P ops Q rest (a.put o.dst (.tuple #[.bool false])) w)
  (hMore:∀ x∈(leftOf es seen).toList,∀ w1:World,(w1=w∨w1=w.drew)->wpListIn F n P ops Q rest (a.put o.dst (.tuple #[.bool true,x.key,x.val])) (setBlock w1 r (.mapIter (some bm) since (seen.push x.born) clock))) :
  wpListIn F n P ops Q (o::rest) a w:=by
 refine wpListIn_plain hg fun K' hK'=>?_;unfold Oper.wpIn;refine ⟨by simp [Oper.about,hop],?_⟩;rw [Oper.semAt_plain F _ _ (by rw [hop];intro c hc';cases hc')]
 rcases run_next_at (P:=P) w o.type r bm since c0 seen es clock hr hb hold hsc with ⟨h0,hrun⟩ | ⟨x,hx,w1,hw1,hrun⟩
 ·simp [execOp,hop,hit,hrun,Result.andThen];exact hK' _ _ (hDone h0)
 simp [execOp,hop,hit,hrun,Result.andThen];exact hK' _ _ (hMore x hx w1 hw1)
end
end Go
namespace Go.Av.Tp
open Go Go.Proofs Go.RowKit Go.Maps Go.Sort Go.Shelf
open Go.ChangeMaps (setBlock)
section
variable {F:Fence} {n:Nat} {P:Program} (w:World) {ops:Array Oper} {rest:List Oper} {o:Oper} {a:Act} {Q:Exit->Act->World->Prop}
theorem Qbd (w:World) (r:Nat) (x:Obj):w.grownBy (setBlock w r x) (some r):=
 ⟨rfl,rfl,rfl,by simp [setBlock],fun k _ hk=>by simp only [setBlock];rw [Array.getElem?_setIfInBounds_ne (fun e=>hk (by rw [e]))]⟩
theorem Q6e (hg:o.guard=none) (it:Operand) (hop:o.op=Op.next it false) (r bm since c0:Nat) (seen:Array Nat) (es:Array MapEntry) (clock:Nat)
  (hit:a.eval it = .pointer (some ⟨r,0,none⟩)) (hr:w.heap[r]? = some (.mapIter (some bm) since seen c0)) (hb:w.heap[bm]? = some (.map es clock)) (hold:∀ x∈es.toList,x.born<since) (hsc:since≤c0)
  (hDone:(leftOf es seen).size=0->wpListIn F n P ops Q rest (a.put o.dst (.tuple #[.bool false])) w)
  (hMore:∀ x∈(leftOf es seen).toList,∀ w':World,w'.heap[r]? = some (.mapIter (some bm) since (seen.push x.born) clock)->w'.heap[bm]? = some (.map es clock)->w.grownBy w' (some r)->w'.heap.size=w.heap.size->wpListIn F n P ops Q rest (a.put o.dst (.tuple #[.bool true,x.key,x.val])) w') :
  wpListIn F n P ops Q (o::rest) a w:=by
 have hne:bm≠r:=fun e=>by rw [e,hr] at hb;cases hb
 have hlt:=(Array.getElem?_eq_some_iff.1 hr).1;refine Q75 w hg it hop r bm since c0 seen es clock hit hr hb hold hsc hDone fun x hx w1 hw1=>?_
 have hh:w1.heap=w.heap:=by rcases hw1 with rfl | rfl<;>rfl
 have hg1:w.grownBy w1 (some r):=by
  rcases hw1 with rfl | rfl
  ·exact ⟨rfl,rfl,rfl,Nat.le_refl _,fun _ _ _=>rfl⟩
  exact ⟨rfl,rfl,rfl,Nat.le_refl _,fun _ _ _=>rfl⟩
 have hg2:=Qbd w1 r (.mapIter (some bm) since (seen.push x.born) clock);refine hMore x hx _ ?_ ?_ ⟨hg2.os.trans hg1.os,hg2.tape.trans hg1.tape,hg2.output.trans hg1.output,Nat.le_trans hg1.size hg2.size,fun k hk hkr=>(hg2.block k (by rw [hh];exact hk) hkr).trans (hg1.block k hk hkr)⟩ (by simp [setBlock,hh])
 ·simp only [setBlock];rw [Array.getElem?_setIfInBounds_self_of_lt (by rw [hh];exact hlt)]
 simp only [setBlock];rw [Array.getElem?_setIfInBounds_ne (fun e=>hne e.symm),hh];exact hb
end
theorem Qld {α:Type}:∀ (l m:List α),l.Nodup->(∀ x∈l,x∈m)->l.length≤m.length
 | [],_,_,_=>Nat.zero_le _
 | a::l,m,hn,hs=>by
  obtain ⟨s,t,rfl⟩:=List.append_of_mem (hs a (.head _));rw [List.nodup_cons] at hn
  have:=Qld l (s++t) hn.2 fun x hx=>by
   have h:=hs x (.tail _ hx);simp only [List.mem_append,List.mem_cons] at h ⊢
   rcases h with h | rfl | h
   ·exact .inl h
   ·exact absurd hx hn.1
   exact .inr h
  simp only [List.length_append,List.length_cons] at this ⊢;omega
theorem Qg1 {α β:Type} {f : α->β}:∀ {l:List α},(l.map f).Nodup->∀ {x y : α},x∈l->y∈l->f x=f y->x=y
 | a::l,hn,x,y,hx,hy,e=>by
  rw [List.map_cons,List.nodup_cons] at hn
  rcases List.mem_cons.1 hx with rfl | hx'<;>rcases List.mem_cons.1 hy with rfl | hy'
  ·rfl
  ·exact absurd (e▸List.mem_map_of_mem hy') hn.1
  ·exact absurd (e.symm▸List.mem_map_of_mem hx') hn.1
  exact Qg1 hn.2 hx' hy' e
def Qlo (es:Array MapEntry) (seen:Array Nat) (ps:List MapEntry):Prop:=ps.Nodup∧(∀ p∈ps,p∈es.toList∧seen.contains p.born=true)∧∀ x∈es.toList,seen.contains x.born=true->x∈ps
theorem Qly (es:Array MapEntry):Qlo es #[] []:=⟨.nil,by simp,by simp⟩
theorem Qo4 {es:Array MapEntry} {seen:Array Nat} {ps:List MapEntry} (h:Qlo es seen ps) (hn:es.toList.Nodup) (h0:(leftOf es seen).size=0):ps.Perm es.toList:=
 (List.perm_ext_iff_of_nodup h.1 hn).2 fun x=>⟨fun hx=>(h.2.1 x hx).1,fun hx=>h.2.2 x hx (all_seen es seen h0 x hx)⟩
theorem Qo9 {es:Array MapEntry} {seen:Array Nat} {ps:List MapEntry} (h:Qlo es seen ps) (hb:(es.toList.map (·.born)).Nodup) {x:MapEntry} (hx:x∈(leftOf es seen).toList):Qlo es (seen.push x.born) (ps ++ [x])∧ps.length<es.size:=by
 obtain ⟨h1,h2⟩:=mem_left hx
 have hxp:x ∉ ps:=fun e=>by rw [(h.2.1 x e).2] at h2;cases h2
 have hn:(ps ++ [x]).Nodup:=by
  rw [List.nodup_append];exact ⟨h.1,by simp,fun a ha b hb e=>by simp at hb;subst hb;subst e;exact hxp ha⟩
 have hs:∀ p∈ps ++ [x],p∈es.toList:=fun p hp=>(List.mem_append.1 hp).elim (fun e=>(h.2.1 p e).1) (fun e=>by simp at e;subst e;exact h1);refine ⟨⟨hn,fun p hp=>⟨hs p hp,?_⟩,fun y hy hc=>?_⟩,?_⟩
 ·rw [contains_push]
  rcases List.mem_append.1 hp with e | e
  ·rw [(h.2.1 p e).2];rfl
  simp at e;subst e;simp
 ·rw [contains_push,Bool.or_eq_true] at hc
  rcases hc with hc | hc
  ·exact List.mem_append_left _ (h.2.2 y hy hc)
  have e:y.born=x.born:=by simpa using hc
  exact List.mem_append_right _ (by simp;exact Qg1 hb hy h1 e)
 have:=Qld _ es.toList hn hs;simp at this;omega
def Qpk (es:Array MapEntry) (i:Nat) (w:World):Nat:=match w.heap[i]? with | some (.mapIter _ _ seen _)=>(leftOf es seen).size | _=>0
theorem Qig {es:Array MapEntry} {i:Nat} {w:World} {b:Option Nat} {s c:Nat} {seen:Array Nat} (h:w.heap[i]? = some (.mapIter b s seen c)):Qpk es i w=(leftOf es seen).size:=by unfold Qpk;rw [h]
set_option maxRecDepth 100000 in
set_option maxHeartbeats 1000000 in
theorem Qpo (F:Fence) (n:Nat) (h53:F.fn 127) (hro:F.round=none) (hn:1≤n) (l Bm o b:Nat) (es:Array MapEntry) (clock:Nat) (hbn:(es.toList.map (·.born)).Nodup) (hlt:∀ x∈es.toList,x.born<clock)
  (J:List Value->World->Prop) (hval:∀ x∈es.toList,∃ (i:Int) (s:ByteArray) (f:Bool),x.val = .agg #[.int .i64 i,.string s,.bool f])
  (hY:∀ pre x W,J pre W->pre.length<es.size->(∃ e∈es.toList,x=e.val)->YieldAt F (n - 1) Tryz.prog l #[x] W fun e W'=>e = .returned (.bool true)∧J (pre ++ [x]) W'∧KeepsWalks W W')
  (W:World) (hJ:AbidesFrom W.heap.size J) (hm:W.cell? ⟨Bm,o,none⟩=some (.map (some b))) (hb:W.heap[b]? = some (.map es clock)) (h0:J [] W) :
  CallsIn F n Tryz.prog 127 #[.func (.yield l) #[] #[],.pointer (some ⟨Bm,o,none⟩)] W fun e W'=>(∃ v,e = .returned v)∧∃ ps:List MapEntry,ps.Perm es.toList∧J (ps.map (·.val)) W':=by
 have hnd:es.toList.Nodup:=List.Pairwise.of_map _ (fun a b h e=>h (by rw [e])) hbn;refine callsIn_of_wp Tryz.func127 rfl h53 ?_ hro;simp only [Tryz.ntmps127,List.size_toArray,List.length_cons,List.length_nil,Nat.reduceAdd,Nat.reduceSub,Array.replicate_succ,Array.replicate_zero,List.push_toArray,List.append_toArray,List.nil_append,List.cons_append]
 gi_wp2_with (first
  | (gi_at_range;refine Q6d _ rfl _ 79 rfl 3 90 Tryz.underlying79 b es clock rfl hb ?_)
  | gi_in)
 go_frame
 have hb0:(W.alloc (.mapIter (some b) clock #[] clock)).heap[b]? = some (.map es clock):=(Below.heap_alloc W _ b (Array.getElem?_eq_some_iff.1 hb).1).trans hb
 gi_loopw [4] (fun _ wr=>∃ (seen:Array Nat) (c0:Nat) (ps:List MapEntry),wr.heap[W.heap.size]? = some (.mapIter (some b) clock seen c0)∧clock≤c0∧wr.heap[b]? = some (.map es clock)∧Qlo es seen ps∧J (ps.map (·.val)) wr)
  (fun _ wr=>Qpk es W.heap.size wr)
 case atStart=>
  exact ⟨#[],clock,[],World.alloc_heap_new W _,Nat.le_refl _,hb0,Qly es,hJ [] W _ none h0 (World.grownBy_alloc W _ none) (fun r e=>by cases e)⟩
 case round=>
  obtain ⟨seen,c0,ps,hr,hc0,hbr,hE,hJs⟩:=hrel
  gi_wp2_with (first
   | (gi_at_next;refine Q6e _ rfl _ rfl W.heap.size b clock c0 seen es clock rfl hr hbr hlt hc0 ?_ ?_)
   | gi_in)
  ·intro h0
   gi_wp2
   go_end0
   exact ⟨⟨_,rfl⟩,ps,Qo4 hE hnd (by rw [h0];rfl),hJs⟩
  intro x hx w2 hr2 hb2 hg2 hs2;have hx:=Array.mem_toList_iff.2 hx;obtain ⟨hE2,hl2⟩:=Qo9 hE hbn hx;obtain ⟨va,vb,vc,hxv⟩:=hval x (mem_left hx).1;have hen:=run_entry_at (P:=Tryz.prog) w2 W.heap.size b clock seen es clock x hr2 hb2 (mem_left hx).1 hbn;have hJ2:J (ps.map (·.val)) w2:=hJ _ wr w2 (some W.heap.size) hJs hg2 (fun r e=>by cases e;exact ⟨Nat.le_refl _,_,hr,rfl⟩);have hJ3:J (ps.map (·.val)) (w2.alloc (Obj.cells #[Value.int IntKind.i64 va,Value.string vb,Value.bool vc] 90)):=hJ _ w2 _ none hJ2 (World.grownBy_alloc w2 _ none) (fun r e=>by cases e);obtain ⟨fn,tmps,assign,body,hy,hR⟩:=hY (ps.map (·.val)) x.val _ hJ3 (by simpa using hl2) ⟨x,(mem_left hx).1,rfl⟩;have hr3:(w2.alloc (Obj.cells #[Value.int IntKind.i64 va,Value.string vb,Value.bool vc] 90)).heap[W.heap.size]? = some (.mapIter (some b) clock (seen.push x.born) clock):=(Below.heap_alloc w2 _ _ (Array.getElem?_eq_some_iff.1 hr2).1).trans hr2;have hb3:(w2.alloc (Obj.cells #[Value.int IntKind.i64 va,Value.string vb,Value.bool vc] 90)).heap[b]? = some (.map es clock):=(Below.heap_alloc w2 _ _ (Array.getElem?_eq_some_iff.1 hb2).1).trans hb2
  have hE3:(ps.map (·.val)) ++ [x.val]=(ps ++ [x]).map (·.val):=by simp
  rw [hE3] at hR;rw [hxv] at hen hy ⊢;clear hs2
  gi_wp2
  refine hR.mono ?_
  rintro e W3 ⟨rfl,hJ4,hk3⟩
  gi_wp2
  have hr4:=hk3.same _ _ hr3 rfl;have hb4:=hk3.same _ _ hb3 rfl
  go_roundw
  case rel=>exact ⟨_,clock,ps ++ [x],hr4,Nat.le_refl _,hb4,hE2,hJ4⟩
  case measure=>rw [Qig hr4,Qig hr];exact left_shrinks es seen x hx
end Go.Av.Tp
