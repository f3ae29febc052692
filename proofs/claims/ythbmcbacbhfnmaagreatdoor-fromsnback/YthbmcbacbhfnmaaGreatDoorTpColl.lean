/- Part of FromsnBack: the law returns true; no condition. -/
import Derived.KernelRfl
import Derived.Test.YthbmcbacbhfnmaaGreatDoorLaySort
import Derived.Shelf.SlSortCmp.NoneTotal
set_option linter.all false
namespace Go.Av.Tp
open Go Go.Proofs Go.RowKit Go.Maps Go.Sort Go.Shelf
abbrev Tpc:=Int×ByteArray×Bool
def Q8k (x:Tpc):List Value := [.int .i64 x.1,.string x.2.1,.bool x.2.2]
abbrev Qkv (x:Tpc):Value := .agg #[.int .i64 x.1,.string x.2.1,.bool x.2.2]
def i41:(Tryz.prog.info? 64).map (fun i=>(i.zero,i.size,i.bytes))=some (some (.agg #[.int .i64 0,.string ⟨#[]⟩,.bool false]),3,32):=by kernel_rfl
noncomputable def Qm9:Option Code->Option (Code×Code)
  | some (.seq _ (.seq (.seq _ (.block _ (.rangeFunc _ _ a b))) _))=>some (a,b)
  | _=>none
noncomputable def Qmv:Code:=((Qm9 Tryz.f88.body).getD (.skip,.skip)).1
noncomputable def Qxz:Code:=((Qm9 Tryz.f88.body).getD (.skip,.skip)).2
noncomputable def Qjl (fn:FuncId) (sv:Value) (Bs D:Nat) (st:LoopState) (pend:Option Code):Loop:=
  { state:=st,pending:=pend,fn,tmps := #[.slice none 0 0,sv,.pointer (some ⟨Bs,0,none⟩),undef,.slice none 0 0,undef,sv,undef,undef,undef,undef,undef,undef],params := #[7],assign:=Qmv,body:=Qxz,defers:=D }
structure ApAt (w0:World) (fn:FuncId) (sv:Value) (Bs l D:Nat) (ss:List Tpc) (W:World):Prop where
  box:∃ v,W.heap[Bs]? = some (.cells #[v] 65 (0,0))∧W.ownsRow w0.heap.size 64 3 v ss.length (ss.flatMap Q8k)∧(v = .slice none 0 0↔ss = [])
  L:W.heap[l]? = some (.loop (Qjl fn sv Bs D .ready none))
  K:W.heap[D]? = some (.deferred (some []))
  below:Below w0.heap.size w0 W
def Qvu (w0:World) (fn:FuncId) (sv:Value) (Bs l D B:Nat) (hB:w0.heap.size≤B):AbidesFrom B (ApAt w0 fn sv Bs l D):=fun s W W' row h hg hrow=>by
  have hrow':∀ r,row=some r->∃ o:Obj,W.heap[r]? = some o∧o.isWalk=true:=fun r e=>(hrow r e).2;obtain ⟨v,hv,hr,hn⟩:=h.box
  exact ⟨⟨v,(grownBy_keeps hg hrow' hv rfl).trans hv,ownsRow_abides_a hr hg hrow',hn⟩,(grownBy_keeps hg hrow' h.L rfl).trans h.L,(grownBy_keeps hg hrow' h.K rfl).trans h.K,
    h.below.grown hg h.below.size (fun k e=>Nat.le_trans hB (hrow k e).1)⟩
def Qjo (w:World) (x:Tpc) (t:TypeId):∀ j u,(Q8k x)[j]? = some u->(w.alloc (.cells #[.int .i64 x.1,.string x.2.1,.bool x.2.2] t)).cell? ((⟨w.heap.size,0,none⟩:Addr).add j)=some u:=by
  intro j u hj
  match j,hj with
  | 0,hj=>simp [Q8k] at hj;subst hj;simp [Addr.add]
  | 1,hj=>simp [Q8k] at hj;subst hj;simp [Addr.add]
  | 2,hj=>simp [Q8k] at hj;subst hj;simp [Addr.add]
  | j+3,hj=>simp [Q8k] at hj
set_option maxRecDepth 100000 in
set_option maxHeartbeats 2000000 in
def Z51 (F:Fence) (m:Nat) (w0:World) (fn:FuncId) (hfn:F.fn fn) (sv:Value) (Bs l D:Nat) (hBl:Bs≠l) (hDl:D≠l) (hDB:D≠Bs) (h0B:w0.heap.size≤Bs) (h0l:w0.heap.size≤l)
    (N:Nat) (hN:N≤maxLen) (hNb:N * 32≤140737488355328) (ss:List Tpc) (x:Tpc) (W:World) (h:ApAt w0 fn sv Bs l D ss W) (hlen:ss.length<N) :
    YieldAt F m Tryz.prog l #[Qkv x] W fun e W'=>e = .returned (.bool true)∧ApAt w0 fn sv Bs l D (ss ++ [x]) W'∧KeepsWalks W W':=by
  have hne:(65:TypeId)≠64:=by decide
  obtain ⟨i0,hi,hz0,hz1,hz2⟩:=info_parts i41;obtain ⟨v,hv,hrow,_⟩:=h.box;refine ⟨fn,#[.slice none 0 0,sv,.pointer (some ⟨Bs,0,none⟩),undef,.slice none 0 0,undef,sv,Qkv x,undef,undef,undef,undef,undef],Qmv,Qxz,by simpa [Qjl] using run_yield (P:=Tryz.prog) (args := #[Qkv x]) h.L rfl,roundIn_of_wpIn hfn ?_⟩;have hl:l<W.heap.size:=(Array.getElem?_eq_some_iff.1 h.L).1;obtain ⟨Wa,hWa⟩:∃ Wa,W.alloc (.cells #[.int .i64 x.1,.string x.2.1,.bool x.2.2] 64)=Wa:=⟨_,rfl⟩
  have hga:W.grownBy Wa none:=by grind [World.grownBy_alloc]
  have hka:KeepsWalks W Wa:=by grind [KeepsWalks.alloc]
  have old:∀ {k:Nat} {o:Obj},W.heap[k]? = some o->Wa.heap[k]? = some o:=fun {k o} hk=>by grind [Below.heap_alloc]
  have hxa:Wa.heap[W.heap.size]? = some (.cells #[.int .i64 x.1,.string x.2.1,.bool x.2.2] 64 (0,0)):=gi
  have hva:=old hv;have hLa:=old h.L;have hKa:=old h.K
  have hrowa:Wa.ownsRow w0.heap.size 64 3 v ss.length (ss.flatMap Q8k):=by rw [← hWa];exact hrow.alloc _
  have hba:Below w0.heap.size w0 Wa:=by rw [← hWa];exact h.below.alloc h.below.size _
  have hbr:=run_beginRound (P:=Tryz.prog) hLa rfl;simp only [Qmv,Qm9,Tryz.f88,Option.getD_some]
  gi_wp2_with gi_round_op_a
  obtain ⟨W2,hW2⟩:∃ W2,Wa.putObj l (.loop { Qjl fn sv Bs D .ready none with state := .busy })=W2:=⟨_,rfl⟩;rw [hW2] at hbr;refine ⟨W2,hbr,?_⟩;have hxB:W.heap.size≠l:=Nat.ne_of_gt hl;have hla:l<Wa.heap.size:=(Array.getElem?_eq_some_iff.1 hLa).1
  have hg2:Wa.grownBy W2 (some l):=by grind [grownBy_putObj_a]
  have hk2:KeepsWalks W W2:=hka.trans (by rw [← hW2];exact KeepsWalks.putObj _ hLa rfl)
  have hv2:W2.heap[Bs]? = some (.cells #[v] 65 (0,0)):=by grind [World.putObj_heap_other]
  have hx2:W2.heap[W.heap.size]? = some (.cells #[.int .i64 x.1,.string x.2.1,.bool x.2.2] 64 (0,0)):=by grind [World.putObj_heap_other]
  have hK2:W2.heap[D]? = some (.deferred (some [])):=by grind [World.putObj_heap_other]
  have hL2:W2.heap[l]? = some (.loop { Qjl fn sv Bs D .ready none with state := .busy }):=by grind [World.putObj_heap_same]
  have hrow2:W2.ownsRow w0.heap.size 64 3 v ss.length (ss.flatMap Q8k):=hrowa.kept hg2 (ownsRow_ne_a hrowa hLa (fun cur e=>by simp_all));have hb2:Below w0.heap.size w0 W2:=hba.grown hg2 hba.size (fun k e=>by simp_all);obtain ⟨hc2,hf2⟩:=cell_of_box_a hv2
  have hx20:W2.cell? ⟨W.heap.size,0,none⟩=some (.int .i64 x.1):=by simp_all [World.cell?]
  have hx21:W2.cell? ⟨W.heap.size,1,none⟩=some (.string x.2.1):=by simp_all [World.cell?]
  have hx22:W2.cell? ⟨W.heap.size,2,none⟩=some (.bool x.2.2):=by simp_all [World.cell?]
  have hBlt:Bs<W2.heap.size:=(Array.getElem?_eq_some_iff.1 hv2).1;have hl2:l<W2.heap.size:=(Array.getElem?_eq_some_iff.1 hL2).1;have hDlt:D<W2.heap.size:=(Array.getElem?_eq_some_iff.1 hK2).1
  have ne_of:∀ {j:Nat} {o:Obj},W2.heap[j]? = some o->(∀ cur,o ≠ .cells cur 64 (0,0))->some j≠v.ownBlock:=fun hj hno=>by
    grind [ownsRow_ne_a]
  clear hW2;simp only [Qxz,Qm9,Tryz.f88,Option.getD_some]
  gi_wp2_with (first
    | (gi_at_builtin;refine wpListIn_append_own _ rfl _ _ 65 rfl w0.heap.size 64 i0 (.agg #[.int .i64 0,.string ⟨#[]⟩,.bool false]) 3 32 Tryz.underlying65 hi hz0 hz1 hz2 rfl (by decide) _ _ _ rfl (hrow2.alloc _) ⟨W2.heap.size,0,none⟩ 1 1 (Q8k x) rfl rfl (Qjo _ _ _) (by simp [Value.oneCell',Q8k]) (by omega) (by omega) (by have:=hb2.size;simp;omega) ?_;intro v' w3 hown' hg3 hnil3
       have hv3:w3.heap[Bs]? = some (.cells #[v] 65 (0,0)):=(hg3.block Bs (by simp;omega) (ne_of hv2 (fun cur e=>by simp_all))).trans ((Below.heap_alloc _ _ Bs hBlt).trans hv2);obtain ⟨hc3,hf3⟩:=cell_of_box_a hv3
       obtain ⟨g',cap',cur',rfl,hbase',hgb',hr1,hr2,hr3,hr4⟩:∃ g' cap' cur',v' = .slice (some ⟨g',0,none⟩) (ss.length+1) cap'∧w0.heap.size≤g'∧w3.heap[g']? = some (.cells cur' 64 (0,0))∧ss.length+1≤cap'∧cap'≤maxLen∧cur'.size=cap' * 3∧cur'.toList.take ((ss.length+1) * 3)=ss.flatMap Q8k++Q8k x:=by
         rcases hown'.2 with ⟨_,h0⟩ | h'<;>simp_all
       go_frame)
    | gi_round_op_a)
  have hg3':(W2.alloc (.cells #[.int .i64 x.1,.string x.2.1,.bool x.2.2] 64)).grownBy w3 v.ownBlock:=hg3;have hL3:w3.heap[l]? = some (.loop { Qjl fn sv Bs D .ready none with state := .busy }):=(hg3'.block l (by simp;omega) (ne_of hL2 (fun cur e=>by simp_all))).trans ((Below.heap_alloc _ _ l hl2).trans hL2);have hK3:w3.heap[D]? = some (.deferred (some [])):=(hg3'.block D (by simp;omega) (ne_of hK2 (fun cur e=>by simp_all))).trans ((Below.heap_alloc _ _ D hDlt).trans hK2);obtain ⟨w4,hw4⟩:∃ w4,w3.setCell ⟨Bs,0,none⟩ (.slice (some ⟨g',0,none⟩) (ss.length+1) cap')=w4:=⟨_,rfl⟩;rw [hw4]
  have hg4:w3.grownBy w4 (some Bs):=by grind [grownBy_setCell0_a]
  have hv4:w4.heap[Bs]? = some (.cells #[.slice (some ⟨g',0,none⟩) (ss.length+1) cap'] 65 (0,0)):=by grind [heap_setCell_box_a]
  have hL4:w4.heap[l]? = some (.loop { Qjl fn sv Bs D .ready none with state := .busy }):=(hg4.block l (Array.getElem?_eq_some_iff.1 hL3).1 (fun e=>hBl (by simp_all))).trans hL3;have hK4:w4.heap[D]? = some (.deferred (some [])):=(hg4.block D (Array.getElem?_eq_some_iff.1 hK3).1 (fun e=>hDB (by simp_all))).trans hK3;have hrow4:=hown'.kept hg4 (ownsRow_ne_a hown' hv3 (fun cur e=>by simp_all));have hl4:l<w4.heap.size:=(Array.getElem?_eq_some_iff.1 hL4).1;have hb3:Below w0.heap.size w0 w3:=(hb2.alloc hb2.size _).grown hg3' (by have:=hb2.size;simp;omega) (fun k e=>(hrow2.lt k e).1);have hb4:Below w0.heap.size w0 w4:=hb3.grown hg4 hb3.size (fun k e=>by grind);have hk4:KeepsWalks W w4:=((hk2.trans (KeepsWalks.alloc _ _)).trans (KeepsWalks.of_grownBy hg3' (ownsRow_not_walk_a (hrow2.alloc _)))).trans (by grind [KeepsWalks.setCell]);clear hw4;refine ⟨_,_,run_endRound none hL4,rfl,⟨⟨_,(World.putObj_heap_other hBl).trans hv4,?_,by simp⟩,World.putObj_heap_same hl4,(World.putObj_heap_other hDl).trans hK4,hb4.grown (grownBy_putObj_a _ _ _) hb4.size (fun k e=>by grind)⟩,hk4.trans (KeepsWalks.putObj _ hL4 rfl)⟩;have:=hrow4.kept (grownBy_putObj_a w4 l (.loop { { Qjl fn sv Bs D .ready none with state := .busy } with state:=if (none:Option Code).isNone then .ready else .done,pending:=none })) (ownsRow_ne_a hrow4 hL4 (fun cur e=>by simp_all))
  simp_all
set_option maxRecDepth 100000 in
set_option maxHeartbeats 2000000 in
def Qy6 (F:Fence) (n:Nat) (h52:F.fn 88) (hro:F.round=none) (hn:2≤n) (g:Nat) (lb:Array Value) (hFg:F.fn g) (eg:∀ args w,(callFunc g args).run Tryz.prog w = .ok (.enter g args) w)
    (S:List Tpc->Prop) (N:Nat) (hN:N≤maxLen) (hNb:N * 32≤140737488355328) (w:World) (hseq:SeqGives F (n - 1) Tryz.prog g lb Qkv S N w) :
    CallsIn F n Tryz.prog 88 #[.slice none 0 0,.func (.func g) #[] lb] w fun e w'=>∃ (v:Value) (ss:List Tpc),e = .returned v∧S ss∧w'.ownsRow w.heap.size 64 3 v ss.length (ss.flatMap Q8k)∧(v = .slice none 0 0↔ss = [])∧Below w.heap.size w w':=by
  have h1:1≤n:=by omega
  have hne:(65:TypeId)≠64:=by decide
  refine callsIn_of_wp_marks Tryz.func88 rfl h52 ?_ hro;simp only [Tryz.ntmps88,List.size_toArray,List.length_cons,List.length_nil,Nat.reduceAdd,Nat.reduceSub,Array.replicate_succ,Array.replicate_zero,List.push_toArray,List.append_toArray,List.nil_append,List.cons_append]
  gi_wp2
  refine wpIn_rangeFunc ?_;intro fn hfn;rw [hro];obtain ⟨W0,hW0⟩:∃ W0,w.alloc (.cells #[.slice none 0 0] 65)=W0:=⟨_,rfl⟩
  have hs0:W0.heap.size=w.heap.size+1:=by rw [← hW0];simp
  have hv0:W0.heap[w.heap.size]? = some (.cells #[.slice none 0 0] 65 (0,0)):=gi
  have hb0:Below w.heap.size w W0:=by rw [← hW0];exact (Below.refl _ w).alloc (Nat.le_refl _) _
  rw [hW0];obtain ⟨W1,hW1⟩:∃ W1,(W0.alloc (.deferred (some []))).alloc (.loop (Qjl fn (.func (.func g) #[] lb) w.heap.size W0.heap.size .ready none))=W1:=⟨_,rfl⟩
  have hold:∀ k,k<W0.heap.size->W1.heap[k]? = W0.heap[k]? := fun k hk=>by
    grind [Below.heap_alloc]
  have hb1:Below w.heap.size w W1:=by rw [← hW1];exact (hb0.alloc hb0.size _).alloc (by have:=hb0.size;exact fy) _
  have hs1:W1.heap.size=W0.heap.size+2:=by rw [← hW1];simp
  have hM:ApAt w fn (.func (.func g) #[] lb) w.heap.size (W0.heap.size+1) W0.heap.size [] W1:=
    ⟨⟨_,(hold w.heap.size (by omega)).trans hv0,⟨rfl,.inl ⟨rfl,rfl⟩⟩,by simp⟩,
     gi,
     by grind [Below.heap_alloc,World.alloc_heap_new],hb1⟩
  refine ⟨W0.heap.size+1,[{ target := .collected W0.heap.size,args := #[] }],W1,{ target := .fn (.func g) lb,args := #[.func (.yield (W0.heap.size+1)) #[] #[]] },W1,g,
    #[.func (.yield (W0.heap.size+1)) #[] #[]]++lb,W1,?_,?_,?_,?_,fun _=>h1,?_⟩
  · rw [← hW1];exact run_enterLoop_outer _ _ _ _ _
  · simp [resolve,go_sem]
  · simp_all [Target.leads]
  · simp_all [invoke]
  · refine (hseq (W0.heap.size+1) (ApAt w fn (.func (.func g) #[] lb) w.heap.size (W0.heap.size+1) W0.heap.size) W1 hb1 (Qvu _ _ _ _ _ _ _ hb1.size)
      (fun pre x W hJ hl=>Z51 F (n - 1 - 1) w fn hfn _ w.heap.size (W0.heap.size+1) W0.heap.size (by omega) (by omega) (by omega) (Nat.le_refl _) (by omega) N hN hNb pre x W hJ hl) hM).mono ?_
    rintro e W2 ⟨⟨v0,rfl⟩,ss,hS,h2⟩
    obtain ⟨v,hv,hrow,hnil⟩:=h2.box;have hend:=run_endLoop (P:=Tryz.prog) h2.L (by simp [Qjl]);obtain ⟨W3,hW3⟩:∃ W3,W2.putObj (W0.heap.size+1) (.loop { Qjl fn (.func (.func g) #[] lb) w.heap.size W0.heap.size .ready none with state := .exhausted })=W3:=⟨_,rfl⟩;rw [hW3] at hend
    have hg3:W2.grownBy W3 (some (W0.heap.size+1)):=by grind [grownBy_putObj_a]
    have hv3:W3.heap[w.heap.size]? = some (.cells #[v] 65 (0,0)):=by grind [World.putObj_heap_other]
    have hK3:W3.heap[W0.heap.size]? = some (.deferred (some [])):=by rw [← hW3];exact (World.putObj_heap_other (by omega)).trans h2.K
    have hrow3:=hrow.kept hg3 (ownsRow_ne_a hrow h2.L (fun cur e=>by simp_all));have hb3:Below w.heap.size w W3:=h2.below.grown hg3 h2.below.size (fun k e=>by grind);obtain ⟨hc3,hf3⟩:=cell_of_box_a hv3;clear hW3;refine ⟨none,W3,hend,?_⟩
    gi_wp2
    rw [← hs0];refine ⟨by simp,.inl ⟨_,_,rfl,run_takeDeferred hK3,?_⟩⟩;exact ⟨_,results_tmp rfl _ _ _,v,ss,rfl,hS,hrow3.kept (grownBy_putObj_a _ _ _) (ownsRow_ne_a hrow3 hK3 (fun cur e=>by simp_all)),hnil,hb3.grown (grownBy_putObj_a _ _ _) hb3.size (fun k e=>by grind)⟩
def Z2j:∀ args w,(callFunc 88 args).run Tryz.prog w = .ok (.enter 88 args) w:=enters_of Tryz.func88 (by kernel_rfl) rfl
def Z1j:∀ args w,(callFunc 89 args).run Tryz.prog w = .ok (.enter 89 args) w:=enters_of Tryz.func89 (by kernel_rfl) rfl
set_option maxHeartbeats 1000000 in
def Z79 (F:Fence) (n:Nat) (h24:F.fn 50) (h52:F.fn 88) (hro:F.round=none) (hn:3≤n) (g:Nat) (lb:Array Value) (hFg:F.fn g) (eg:∀ args w,(callFunc g args).run Tryz.prog w = .ok (.enter g args) w)
    (S:List Tpc->Prop) (N:Nat) (hN:N≤maxLen) (hNb:N * 32≤140737488355328) (w:World) (hseq:SeqGives F (n - 1 - 1) Tryz.prog g lb Qkv S N w) :
    CallsIn F n Tryz.prog 50 #[.func (.func g) #[] lb] w fun e w'=>∃ (v:Value) (ss:List Tpc),e = .returned v∧S ss∧w'.ownsRow w.heap.size 64 3 v ss.length (ss.flatMap Q8k)∧(v = .slice none 0 0↔ss = [])∧Below w.heap.size w w':=by
  have h1:1≤n:=by omega
  have e52:=Z2j;refine callsIn_of_wp Tryz.func50 rfl h24 ?_ hro;simp only [Tryz.ntmps50,List.size_toArray,List.length_cons,List.length_nil,Nat.reduceAdd,Nat.reduceSub,Array.replicate_succ,Array.replicate_zero,List.push_toArray,List.append_toArray,List.nil_append,List.cons_append]
  gi_wp2_with (gi_at_fn 88;refine (Qy6 F (n - 1) h52 hro (by omega) g lb hFg eg S N hN hNb _ hseq).mono ?_;rintro e w' ⟨v,ss,rfl,hS,hrow,hnil,hb⟩)
  go_ret
  exact ⟨v,ss,rfl,hS,hrow,hnil,hb⟩
def dI:Value->Int | .int _ i=>i | _=>0
def dS:Value->ByteArray | .string s=>s | _=>⟨#[]⟩
def dB:Value->Bool | .bool b=>b | _=>false
def Zev:Value->Tpc | .agg cs=>(dI (cs.getD 0 undef),dS (cs.getD 1 undef),dB (cs.getD 2 undef)) | _=>(0,⟨#[]⟩,false)
def Z6j (t:Tpc):Zev (Qkv t)=t:=rfl
theorem Z1v (l:List Tpc):(l.map Qkv).map Zev=l:=by
  rw [List.map_map];exact (List.map_congr_left (fun t _=>Z6j t)).trans (List.map_id l)
def Qnp (F:Fence) (n:Nat) (h53:F.fn 89) (hro:F.round=none) (hn:1≤n) (Bm o b:Nat) (es:Array MapEntry) (clock:Nat) (hbn:(es.toList.map (·.born)).Nodup) (hlt:∀ x∈es.toList,x.born<clock)
    (T:List Tpc) (hT:es.toList.map (·.val)=T.map Qkv) (w:World) (hBm:Bm<w.heap.size) (hm:w.cell? ⟨Bm,o,none⟩=some (.map (some b))) (hb:w.heap[b]? = some (.map es clock)) :
    SeqGives F n Tryz.prog 89 #[.pointer (some ⟨Bm,o,none⟩)] Qkv (fun xs=>xs.Perm T) es.size w:=fun l J W hW hJ hY h0=>by
  have hv:∀ x∈es.toList,∃ t:Tpc,x.val=Qkv t:=fun x hx=>by
    have:x.val∈es.toList.map (·.val):=List.mem_map_of_mem hx;rw [hT] at this;obtain ⟨t,_,e⟩:=List.mem_map.1 this<;>grind
  have einj:∀ {a b:Tpc},Qkv a=Qkv b->a=b:=fun {a b} e=>by
    grind
  have minj:∀ {a b:List Tpc},a.map Qkv=b.map Qkv->a=b:=fun {a b} e=>(List.map_inj_right (fun _ _ h=>einj h)).1 e;refine (Z69 F n h53 hro hn l Bm o b es clock hbn hlt (fun vs W=>∃ xs:List Tpc,vs=xs.map Qkv∧J xs W) (fun x hx=>by grind) ?_ W ?_ ((hW.cell (p:=⟨Bm,o,none⟩) hBm).trans hm) ((hW.block b (Array.getElem?_eq_some_iff.1 hb).1).trans hb) ⟨[],rfl,h0⟩).mono ?_
  · rintro pre x W1 ⟨xs,rfl,hj⟩ hl ⟨e,he,rfl⟩
    obtain ⟨t,et⟩:=hv e he;obtain ⟨fn,tmps,assign,body,hy,hR⟩:=hY xs t W1 hj (by grind);rw [et];refine ⟨fn,tmps,assign,body,hy,hR.mono ?_⟩<;>grind
  · rintro s W1 W2 row ⟨xs,e,hj⟩ hg hr
    exact ⟨xs,e,hJ xs W1 W2 row hj hg hr⟩
  · rintro e W' ⟨hv',ps,hp,xs,hx,hj⟩
    refine ⟨hv',xs,?_,hj⟩<;>grind [Z1v]
end Go.Av.Tp
namespace Go.Av.Tp
open Go Go.Proofs Go.RowKit Go.Maps Go.Sort Go.Shelf
def Qqy (i:Int) (w:World):Calls Tryz.prog 92 #[.int .i64 i] w fun e w'=>e = .returned (.bool false)∧w'=w:=by
 go_enter Tryz.func92,Tryz.ntmps92
 go_wp2
 go_ret
 exact ⟨by simp,rfl⟩
def Z0u:∀ args w,(callFunc 92 args).run Tryz.prog w = .ok (.enter 92 args) w:=enters_of Tryz.func92 (by kernel_rfl) rfl
def Z0q:∀ args w,(callFunc 54 args).run Tryz.prog w = .ok (.enter 54 args) w:=enters_of Tryz.func54 (by kernel_rfl) rfl
def Z0f:∀ args w,(callFunc 53 args).run Tryz.prog w = .ok (.enter 53 args) w:=enters_of Tryz.func53 (by kernel_rfl) rfl
def Z05 (x y:Int):Int:=if x<y then -1 else if x>y then 1 else 0
def Qxs (x y:Int) (w:World):Calls Tryz.prog 54 #[.int .i64 x,.int .i64 y] w fun e w'=>e = .returned (.int .i64 (Z05 x y))∧w'=w:=by
 have e56:=Z0u
 by_cases h1:x<y
 ·go_enter Tryz.func54,Tryz.ntmps54
  go_wp2_with (go_at_fn 92;refine (Qqy _ _).mono ?_;rintro e w' ⟨rfl,rfl⟩)
  go_ret
  exact ⟨by rw [show Z05 x y = -1 by unfold Z05;rw [if_pos (by omega)]];rfl,rfl⟩
 by_cases h2:x>y
 ·go_enter Tryz.func54,Tryz.ntmps54
  go_wp2_with (go_at_fn 92;refine (Qqy _ _).mono ?_;rintro e w' ⟨rfl,rfl⟩)
  go_ret
  exact ⟨by rw [show Z05 x y=1 by unfold Z05;rw [if_neg (by omega),if_pos (by omega)]];rfl,rfl⟩
 go_enter Tryz.func54,Tryz.ntmps54
 go_wp2_with (go_at_fn 92;refine (Qqy _ _).mono ?_;rintro e w' ⟨rfl,rfl⟩)
 go_ret
 exact ⟨by rw [show Z05 x y=0 by unfold Z05;rw [if_neg (by omega),if_neg (by omega)]];rfl,rfl⟩
def Qpy (x y:Tpc):Int:=Z05 x.1 y.1
def Zci (x y:Tpc) (w:World):Calls Tryz.prog 53 #[Qkv x,Qkv y] w fun e w'=>e = .returned (.int .i64 (Qpy x y))∧∃ q os',w'=grow (w.drewN q) os':=by
 have e28:=Z0q
 go_enter Tryz.func53,Tryz.ntmps53
 go_wp2_with (go_at_fn 54;refine (Qxs _ _ _).mono ?_;rintro e w' ⟨rfl,rfl⟩)
 go_ret
 refine ⟨rfl,0,#[.cells #[.int .i64 x.1,.string x.2.1,.bool x.2.2] 64,.cells #[.int .i64 y.1,.string y.2.1,.bool y.2.2] 64],?_⟩;rfl
theorem Z3y (x y:Tpc):ltOf Qpy x y=decide (x.1<y.1):=by
 unfold ltOf Qpy Z05
 by_cases h:x.1<y.1
 ·rw [if_pos h,decide_eq_true h];rfl
 rw [if_neg h,decide_eq_false h]
 split<;>rfl
def Z5t:SWO (ltOf Qpy):=by
 refine ⟨fun x=>?_,fun x y z=>?_,fun x y z=>?_⟩<;>simp only [Z3y,decide_eq_true_eq,decide_eq_false_iff_not]<;>omega
end Go.Av.Tp
namespace Go.Av.Tp
open Go Go.Proofs Go.RowKit Go.Maps Go.Sort Go.Shelf
def Qir (x:Tpc):(Q8k x).length=3:=rfl
theorem Qn8 (l:List Tpc):(l.flatMap Q8k).length=l.length * 3:=by
 induction l with
 | nil=>rfl
 | cons a l ih=>rw [List.flatMap_cons,List.length_append,ih,Qir,List.length_cons];omega
def Qt7:∀ (l:List Tpc) (t:Nat),t<l.length * 3->(l.flatMap Q8k)[t]? = some ((Q8k l[t / 3]!)[t % 3]!)
 | [],t,h=> iZ
 | a::l,t,h=>by
  rw [List.flatMap_cons]
  by_cases ht:t<3
  ·rw [List.getElem?_append_left (by rw [Qir];exact ht),Nat.div_eq_of_lt ht,Nat.mod_eq_of_lt ht]
   have:t=0∨t=1∨t=2:=by omega
   rcases this with rfl | rfl | rfl<;>rfl
  rw [List.getElem?_append_right (by rw [Qir];omega),Qir,Qt7 l (t - 3) (by simp at h;omega)]
  have e1:t / 3=(t - 3) / 3+1:=by omega
  have e2:t % 3=(t - 3) % 3:=by omega
  rw [e1,e2];rfl
def Ql7 (d:Array Tpc) (t:Nat) (h:t<d.size * 3):(d.toList.flatMap Q8k)[t]? = some (flatK Q8k 3 d)[t]! := by
 rw [Qt7 _ _ gP,get_flatK _ _ _ _ h,getElem!_pos d.toList (t / 3) fy,getElem!_pos d (t / 3) (by omega),Array.getElem_toList]
end Go.Av.Tp
