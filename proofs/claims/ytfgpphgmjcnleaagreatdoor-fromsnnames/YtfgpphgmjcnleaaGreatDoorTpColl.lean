/- Part of FromsnNames: the law returns true; no condition. -/
import Derived.KernelRfl
import Derived.Test.YtfgpphgmjcnleaaGreatDoorLaySort
set_option linter.all false
namespace Go.Av.Tp
open Go Go.Proofs Go.RowKit Go.Maps Go.Sort Go.Shelf
abbrev Tpc:=Int×ByteArray×Bool
def Q1o (x:Tpc):List Value := [.int .i64 x.1,.string x.2.1,.bool x.2.2]
abbrev Qc7 (x:Tpc):Value := .agg #[.int .i64 x.1,.string x.2.1,.bool x.2.2]
theorem i41:(Tryz.prog.info? 90).map (fun i=>(i.zero,i.size,i.bytes))=some (some (.agg #[.int .i64 0,.string ⟨#[]⟩,.bool false]),3,32):=by kernel_rfl
noncomputable def Qd3:Option Code->Option (Code×Code)
  | some (.seq _ (.seq (.seq _ (.block _ (.rangeFunc _ _ a b))) _))=>some (a,b)
  | _=>none
noncomputable def Qcj:Code:=((Qd3 Tryz.f126.body).getD (.skip,.skip)).1
noncomputable def Qls:Code:=((Qd3 Tryz.f126.body).getD (.skip,.skip)).2
noncomputable def Qad (fn:FuncId) (sv:Value) (Bs D:Nat) (st:LoopState) (pend:Option Code):Loop:=
  { state:=st,pending:=pend,fn,tmps := #[.slice none 0 0,sv,.pointer (some ⟨Bs,0,none⟩),undef,.slice none 0 0,undef,sv,undef,undef,undef,undef,undef,undef],params := #[7],assign:=Qcj,body:=Qls,defers:=D }
structure ApAt (w0:World) (fn:FuncId) (sv:Value) (Bs l D:Nat) (ss:List Tpc) (W:World):Prop where
  box:∃ v,W.heap[Bs]? = some (.cells #[v] 113 (0,0))∧W.ownsRow w0.heap.size 90 3 v ss.length (ss.flatMap Q1o)∧(v = .slice none 0 0↔ss = [])
  L:W.heap[l]? = some (.loop (Qad fn sv Bs D .ready none))
  K:W.heap[D]? = some (.deferred (some []))
  below:Below w0.heap.size w0 W
theorem Qm1 (w0:World) (fn:FuncId) (sv:Value) (Bs l D B:Nat) (hB:w0.heap.size≤B):AbidesFrom B (ApAt w0 fn sv Bs l D):=fun s W W' row h hg hrow=>by
  have hrow':∀ r,row=some r->∃ o:Obj,W.heap[r]? = some o∧o.isWalk=true:=fun r e=>(hrow r e).2;obtain ⟨v,hv,hr,hn⟩:=h.box
  exact ⟨⟨v,(grownBy_keeps hg hrow' hv rfl).trans hv,ownsRow_abides_a hr hg hrow',hn⟩,(grownBy_keeps hg hrow' h.L rfl).trans h.L,(grownBy_keeps hg hrow' h.K rfl).trans h.K,
    h.below.grown hg h.below.size (fun k e=>Nat.le_trans hB (hrow k e).1)⟩
theorem Qbc (w:World) (x:Tpc) (t:TypeId):∀ j u,(Q1o x)[j]? = some u->(w.alloc (.cells #[.int .i64 x.1,.string x.2.1,.bool x.2.2] t)).cell? ((⟨w.heap.size,0,none⟩:Addr).add j)=some u:=by
  intro j u hj
  match j,hj with
  | 0,hj=>simp [Q1o] at hj;subst hj;simp [Addr.add]
  | 1,hj=>simp [Q1o] at hj;subst hj;simp [Addr.add]
  | 2,hj=>simp [Q1o] at hj;subst hj;simp [Addr.add]
  | j+3,hj=>simp [Q1o] at hj
set_option maxRecDepth 100000 in
set_option maxHeartbeats 2000000 in
theorem Qpz (F:Fence) (m:Nat) (w0:World) (fn:FuncId) (hfn:F.fn fn) (sv:Value) (Bs l D:Nat) (hBl:Bs≠l) (hDl:D≠l) (hDB:D≠Bs) (h0B:w0.heap.size≤Bs) (h0l:w0.heap.size≤l)
    (N:Nat) (hN:N≤maxLen) (hNb:N * 32≤140737488355328) (ss:List Tpc) (x:Tpc) (W:World) (h:ApAt w0 fn sv Bs l D ss W) (hlen:ss.length<N) :
    YieldAt F m Tryz.prog l #[Qc7 x] W fun e W'=>e = .returned (.bool true)∧ApAt w0 fn sv Bs l D (ss ++ [x]) W'∧KeepsWalks W W':=by
  have hne:(113:TypeId)≠90:=by decide
  obtain ⟨i0,hi,hz0,hz1,hz2⟩:=info_parts i41;obtain ⟨v,hv,hrow,_⟩:=h.box;refine ⟨fn,#[.slice none 0 0,sv,.pointer (some ⟨Bs,0,none⟩),undef,.slice none 0 0,undef,sv,Qc7 x,undef,undef,undef,undef,undef],Qcj,Qls,by simpa [Qad] using run_yield (P:=Tryz.prog) (args := #[Qc7 x]) h.L rfl,roundIn_of_wpIn hfn ?_⟩;have hl:l<W.heap.size:=(Array.getElem?_eq_some_iff.1 h.L).1;obtain ⟨Wa,hWa⟩:∃ Wa,W.alloc (.cells #[.int .i64 x.1,.string x.2.1,.bool x.2.2] 90)=Wa:=⟨_,rfl⟩
  have hga:W.grownBy Wa none:=by rw [← hWa];exact World.grownBy_alloc W _ none
  have hka:KeepsWalks W Wa:=by rw [← hWa];exact KeepsWalks.alloc _ _
  have old:∀ {k:Nat} {o:Obj},W.heap[k]? = some o->Wa.heap[k]? = some o:=fun {k o} hk=>by rw [← hWa];exact (Below.heap_alloc W _ k (Array.getElem?_eq_some_iff.1 hk).1).trans hk
  have hxa:Wa.heap[W.heap.size]? = some (.cells #[.int .i64 x.1,.string x.2.1,.bool x.2.2] 90 (0,0)):=by rw [← hWa];exact World.alloc_heap_new W _
  have hva:=old hv;have hLa:=old h.L;have hKa:=old h.K
  have hrowa:Wa.ownsRow w0.heap.size 90 3 v ss.length (ss.flatMap Q1o):=by rw [← hWa];exact hrow.alloc _
  have hba:Below w0.heap.size w0 Wa:=by rw [← hWa];exact h.below.alloc h.below.size _
  have hbr:=run_beginRound (P:=Tryz.prog) hLa rfl;simp only [Qcj,Qd3,Tryz.f126,Option.getD_some]
  gi_wp2_with gi_round_op_a
  obtain ⟨W2,hW2⟩:∃ W2,Wa.putObj l (.loop { Qad fn sv Bs D .ready none with state := .busy })=W2:=⟨_,rfl⟩;rw [hW2] at hbr;refine ⟨W2,hbr,?_⟩;have hxB:W.heap.size≠l:=Nat.ne_of_gt hl;have hla:l<Wa.heap.size:=(Array.getElem?_eq_some_iff.1 hLa).1
  have hg2:Wa.grownBy W2 (some l):=by rw [← hW2];exact grownBy_putObj_a _ _ _
  have hk2:KeepsWalks W W2:=hka.trans (by rw [← hW2];exact KeepsWalks.putObj _ hLa rfl)
  have hv2:W2.heap[Bs]? = some (.cells #[v] 113 (0,0)):=by rw [← hW2];exact (World.putObj_heap_other hBl).trans hva
  have hx2:W2.heap[W.heap.size]? = some (.cells #[.int .i64 x.1,.string x.2.1,.bool x.2.2] 90 (0,0)):=by rw [← hW2];exact (World.putObj_heap_other hxB).trans hxa
  have hK2:W2.heap[D]? = some (.deferred (some [])):=by rw [← hW2];exact (World.putObj_heap_other hDl).trans hKa
  have hL2:W2.heap[l]? = some (.loop { Qad fn sv Bs D .ready none with state := .busy }):=by rw [← hW2];exact World.putObj_heap_same hla
  have hrow2:W2.ownsRow w0.heap.size 90 3 v ss.length (ss.flatMap Q1o):=hrowa.kept hg2 (ownsRow_ne_a hrowa hLa (fun cur e=>by first | cases e | exact hne (Obj.cells.inj e).2.1))
  have hb2:Below w0.heap.size w0 W2:=hba.grown hg2 hba.size (fun k e=>by cases e;exact h0l);obtain ⟨hc2,hf2⟩:=cell_of_box_a hv2
  have hx20:W2.cell? ⟨W.heap.size,0,none⟩=some (.int .i64 x.1):=by simp [World.cell?,hx2]
  have hx21:W2.cell? ⟨W.heap.size,1,none⟩=some (.string x.2.1):=by simp [World.cell?,hx2]
  have hx22:W2.cell? ⟨W.heap.size,2,none⟩=some (.bool x.2.2):=by simp [World.cell?,hx2]
  have hBlt:Bs<W2.heap.size:=(Array.getElem?_eq_some_iff.1 hv2).1;have hl2:l<W2.heap.size:=(Array.getElem?_eq_some_iff.1 hL2).1;have hDlt:D<W2.heap.size:=(Array.getElem?_eq_some_iff.1 hK2).1
  have ne_of:∀ {j:Nat} {o:Obj},W2.heap[j]? = some o->(∀ cur,o ≠ .cells cur 90 (0,0))->some j≠v.ownBlock:=fun hj hno=>by
    rcases ownsRow_ne_a hrow2 hj hno with e | e
    · rw [e];simp
    · exact fun e'=>e e'.symm
  clear hW2;simp only [Qls,Qd3,Tryz.f126,Option.getD_some]
  gi_wp2_with (first
    | (gi_at_builtin;refine wpListIn_append_own _ rfl _ _ 113 rfl w0.heap.size 90 i0 (.agg #[.int .i64 0,.string ⟨#[]⟩,.bool false]) 3 32 Tryz.underlying113 hi hz0 hz1 hz2 rfl (by decide) _ _ _ rfl (hrow2.alloc _) ⟨W2.heap.size,0,none⟩ 1 1 (Q1o x) rfl rfl (Qbc _ _ _) (by simp [Value.oneCell',Q1o]) (by omega) (by omega) (by have:=hb2.size;simp;omega) ?_;intro v' w3 hown' hg3 hnil3
       have hv3:w3.heap[Bs]? = some (.cells #[v] 113 (0,0)):=(hg3.block Bs (by simp;omega) (ne_of hv2 (fun cur e=>by first | cases e | exact hne (Obj.cells.inj e).2.1))).trans ((Below.heap_alloc _ _ Bs hBlt).trans hv2)
       obtain ⟨hc3,hf3⟩:=cell_of_box_a hv3
       obtain ⟨g',cap',cur',rfl,hbase',hgb',hr1,hr2,hr3,hr4⟩:∃ g' cap' cur',v' = .slice (some ⟨g',0,none⟩) (ss.length+1) cap'∧w0.heap.size≤g'∧w3.heap[g']? = some (.cells cur' 90 (0,0))∧ss.length+1≤cap'∧cap'≤maxLen∧cur'.size=cap' * 3∧cur'.toList.take ((ss.length+1) * 3)=ss.flatMap Q1o++Q1o x:=by
         rcases hown'.2 with ⟨_,h0⟩ | h'
         · exact absurd h0 (by omega)
         · exact h'
       go_frame)
    | gi_round_op_a)
  have hg3':(W2.alloc (.cells #[.int .i64 x.1,.string x.2.1,.bool x.2.2] 90)).grownBy w3 v.ownBlock:=hg3
  have hL3:w3.heap[l]? = some (.loop { Qad fn sv Bs D .ready none with state := .busy }):=(hg3'.block l (by simp;omega) (ne_of hL2 (fun cur e=>by first | cases e | exact hne (Obj.cells.inj e).2.1))).trans ((Below.heap_alloc _ _ l hl2).trans hL2)
  have hK3:w3.heap[D]? = some (.deferred (some [])):=(hg3'.block D (by simp;omega) (ne_of hK2 (fun cur e=>by first | cases e | exact hne (Obj.cells.inj e).2.1))).trans ((Below.heap_alloc _ _ D hDlt).trans hK2)
  obtain ⟨w4,hw4⟩:∃ w4,w3.setCell ⟨Bs,0,none⟩ (.slice (some ⟨g',0,none⟩) (ss.length+1) cap')=w4:=⟨_,rfl⟩;rw [hw4]
  have hg4:w3.grownBy w4 (some Bs):=by rw [← hw4];exact grownBy_setCell0_a _ _ _
  have hv4:w4.heap[Bs]? = some (.cells #[.slice (some ⟨g',0,none⟩) (ss.length+1) cap'] 113 (0,0)):=by rw [← hw4];exact heap_setCell_box_a _ hv3
  have hL4:w4.heap[l]? = some (.loop { Qad fn sv Bs D .ready none with state := .busy }):=(hg4.block l (Array.getElem?_eq_some_iff.1 hL3).1 (fun e=>hBl (by cases e;rfl))).trans hL3;have hK4:w4.heap[D]? = some (.deferred (some [])):=(hg4.block D (Array.getElem?_eq_some_iff.1 hK3).1 (fun e=>hDB (by cases e;rfl))).trans hK3
  have hrow4:=hown'.kept hg4 (ownsRow_ne_a hown' hv3 (fun cur e=>by first | cases e | exact hne (Obj.cells.inj e).2.1))
  have hl4:l<w4.heap.size:=(Array.getElem?_eq_some_iff.1 hL4).1;have hb3:Below w0.heap.size w0 w3:=(hb2.alloc hb2.size _).grown hg3' (by have:=hb2.size;simp;omega) (fun k e=>(hrow2.lt k e).1);have hb4:Below w0.heap.size w0 w4:=hb3.grown hg4 hb3.size (fun k e=>by cases e;exact h0B);have hk4:KeepsWalks W w4:=((hk2.trans (KeepsWalks.alloc _ _)).trans (KeepsWalks.of_grownBy hg3' (ownsRow_not_walk_a (hrow2.alloc _)))).trans (by rw [← hw4];exact KeepsWalks.setCell _ _ _);clear hw4;refine ⟨_,_,run_endRound none hL4,rfl,⟨⟨_,(World.putObj_heap_other hBl).trans hv4,?_,by simp⟩,World.putObj_heap_same hl4,(World.putObj_heap_other hDl).trans hK4,hb4.grown (grownBy_putObj_a _ _ _) hb4.size (fun k e=>by cases e;exact h0l)⟩,hk4.trans (KeepsWalks.putObj _ hL4 rfl)⟩
  have:=hrow4.kept (grownBy_putObj_a w4 l (.loop { { Qad fn sv Bs D .ready none with state := .busy } with state:=if (none:Option Code).isNone then .ready else .done,pending:=none })) (ownsRow_ne_a hrow4 hL4 (fun cur e=>by first | cases e | exact hne (Obj.cells.inj e).2.1))
  simpa using this
set_option maxRecDepth 100000 in
set_option maxHeartbeats 2000000 in
theorem Qks (F:Fence) (n:Nat) (h52:F.fn 126) (hro:F.round=none) (hn:2≤n) (g:Nat) (lb:Array Value) (hFg:F.fn g) (eg:∀ args w,(callFunc g args).run Tryz.prog w = .ok (.enter g args) w)
    (S:List Tpc->Prop) (N:Nat) (hN:N≤maxLen) (hNb:N * 32≤140737488355328) (w:World) (hseq:SeqGives F (n - 1) Tryz.prog g lb Qc7 S N w) :
    CallsIn F n Tryz.prog 126 #[.slice none 0 0,.func (.func g) #[] lb] w fun e w'=>∃ (v:Value) (ss:List Tpc),e = .returned v∧S ss∧w'.ownsRow w.heap.size 90 3 v ss.length (ss.flatMap Q1o)∧(v = .slice none 0 0↔ss = [])∧Below w.heap.size w w':=by
  have h1:1≤n:=by omega
  have hne:(113:TypeId)≠90:=by decide
  refine callsIn_of_wp_marks Tryz.func126 rfl h52 ?_ hro;simp only [Tryz.ntmps126,List.size_toArray,List.length_cons,List.length_nil,Nat.reduceAdd,Nat.reduceSub,Array.replicate_succ,Array.replicate_zero,List.push_toArray,List.append_toArray,List.nil_append,List.cons_append]
  gi_wp2
  refine wpIn_rangeFunc ?_;intro fn hfn;rw [hro];obtain ⟨W0,hW0⟩:∃ W0,w.alloc (.cells #[.slice none 0 0] 113)=W0:=⟨_,rfl⟩
  have hs0:W0.heap.size=w.heap.size+1:=by rw [← hW0];simp
  have hv0:W0.heap[w.heap.size]? = some (.cells #[.slice none 0 0] 113 (0,0)):=by rw [← hW0];exact World.alloc_heap_new w _
  have hb0:Below w.heap.size w W0:=by rw [← hW0];exact (Below.refl _ w).alloc (Nat.le_refl _) _
  rw [hW0];obtain ⟨W1,hW1⟩:∃ W1,(W0.alloc (.deferred (some []))).alloc (.loop (Qad fn (.func (.func g) #[] lb) w.heap.size W0.heap.size .ready none))=W1:=⟨_,rfl⟩
  have hold:∀ k,k<W0.heap.size->W1.heap[k]? = W0.heap[k]? := fun k hk=>by
    rw [← hW1];exact (Below.heap_alloc _ _ k (by simp;omega)).trans (Below.heap_alloc _ _ k hk)
  have hb1:Below w.heap.size w W1:=by rw [← hW1];exact (hb0.alloc hb0.size _).alloc (by have:=hb0.size;simp;omega) _
  have hs1:W1.heap.size=W0.heap.size+2:=by rw [← hW1];simp
  have hM:ApAt w fn (.func (.func g) #[] lb) w.heap.size (W0.heap.size+1) W0.heap.size [] W1:=
    ⟨⟨_,(hold w.heap.size (by omega)).trans hv0,⟨rfl,.inl ⟨rfl,rfl⟩⟩,by simp⟩,
     by rw [← hW1];have:=World.alloc_heap_new (W0.alloc (.deferred (some []))) (.loop (Qad fn (.func (.func g) #[] lb) w.heap.size W0.heap.size .ready none));rwa [World.size_alloc] at this,
     by rw [← hW1];exact (Below.heap_alloc _ _ _ (by simp)).trans (World.alloc_heap_new W0 _),hb1⟩
  refine ⟨W0.heap.size+1,[{ target := .collected W0.heap.size,args := #[] }],W1,{ target := .fn (.func g) lb,args := #[.func (.yield (W0.heap.size+1)) #[] #[]] },W1,g,
    #[.func (.yield (W0.heap.size+1)) #[] #[]]++lb,W1,?_,?_,?_,?_,fun _=>h1,?_⟩
  · rw [← hW1];exact run_enterLoop_outer _ _ _ _ _
  · simp [resolve,go_sem]
  · intro f' hf';simp [Target.leads] at hf';subst hf';exact hFg
  · simp [invoke,go_sem,eg]
  · refine (hseq (W0.heap.size+1) (ApAt w fn (.func (.func g) #[] lb) w.heap.size (W0.heap.size+1) W0.heap.size) W1 hb1 (Qm1 _ _ _ _ _ _ _ hb1.size)
      (fun pre x W hJ hl=>Qpz F (n - 1 - 1) w fn hfn _ w.heap.size (W0.heap.size+1) W0.heap.size (by omega) (by omega) (by omega) (Nat.le_refl _) (by omega) N hN hNb pre x W hJ hl) hM).mono ?_
    rintro e W2 ⟨⟨v0,rfl⟩,ss,hS,h2⟩
    obtain ⟨v,hv,hrow,hnil⟩:=h2.box;have hend:=run_endLoop (P:=Tryz.prog) h2.L (by simp [Qad]);obtain ⟨W3,hW3⟩:∃ W3,W2.putObj (W0.heap.size+1) (.loop { Qad fn (.func (.func g) #[] lb) w.heap.size W0.heap.size .ready none with state := .exhausted })=W3:=⟨_,rfl⟩;rw [hW3] at hend
    have hg3:W2.grownBy W3 (some (W0.heap.size+1)):=by rw [← hW3];exact grownBy_putObj_a _ _ _
    have hv3:W3.heap[w.heap.size]? = some (.cells #[v] 113 (0,0)):=by rw [← hW3];exact (World.putObj_heap_other (by omega)).trans hv
    have hK3:W3.heap[W0.heap.size]? = some (.deferred (some [])):=by rw [← hW3];exact (World.putObj_heap_other (by omega)).trans h2.K
    have hrow3:=hrow.kept hg3 (ownsRow_ne_a hrow h2.L (fun cur e=>by first | cases e | exact hne (Obj.cells.inj e).2.1))
    have hb3:Below w.heap.size w W3:=h2.below.grown hg3 h2.below.size (fun k e=>by cases e;omega);obtain ⟨hc3,hf3⟩:=cell_of_box_a hv3;clear hW3;refine ⟨none,W3,hend,?_⟩
    gi_wp2
    rw [← hs0];refine ⟨by simp,.inl ⟨_,_,rfl,run_takeDeferred hK3,?_⟩⟩
    exact ⟨_,results_tmp rfl _ _ _,v,ss,rfl,hS,hrow3.kept (grownBy_putObj_a _ _ _) (ownsRow_ne_a hrow3 hK3 (fun cur e=>by first | cases e | exact hne (Obj.cells.inj e).2.1)),hnil,hb3.grown (grownBy_putObj_a _ _ _) hb3.size (fun k e=>by cases e;omega)⟩
theorem Qmx:∀ args w,(callFunc 126 args).run Tryz.prog w = .ok (.enter 126 args) w:=enters_of Tryz.func126 (by kernel_rfl) rfl
theorem Qn8:∀ args w,(callFunc 127 args).run Tryz.prog w = .ok (.enter 127 args) w:=enters_of Tryz.func127 (by kernel_rfl) rfl
set_option maxHeartbeats 1000000 in
theorem Qr7 (F:Fence) (n:Nat) (h24:F.fn 87) (h52:F.fn 126) (hro:F.round=none) (hn:3≤n) (g:Nat) (lb:Array Value) (hFg:F.fn g) (eg:∀ args w,(callFunc g args).run Tryz.prog w = .ok (.enter g args) w)
    (S:List Tpc->Prop) (N:Nat) (hN:N≤maxLen) (hNb:N * 32≤140737488355328) (w:World) (hseq:SeqGives F (n - 1 - 1) Tryz.prog g lb Qc7 S N w) :
    CallsIn F n Tryz.prog 87 #[.func (.func g) #[] lb] w fun e w'=>∃ (v:Value) (ss:List Tpc),e = .returned v∧S ss∧w'.ownsRow w.heap.size 90 3 v ss.length (ss.flatMap Q1o)∧(v = .slice none 0 0↔ss = [])∧Below w.heap.size w w':=by
  have h1:1≤n:=by omega
  have e52:=Qmx;refine callsIn_of_wp Tryz.func87 rfl h24 ?_ hro;simp only [Tryz.ntmps87,List.size_toArray,List.length_cons,List.length_nil,Nat.reduceAdd,Nat.reduceSub,Array.replicate_succ,Array.replicate_zero,List.push_toArray,List.append_toArray,List.nil_append,List.cons_append]
  gi_wp2_with (gi_at_fn 126;refine (Qks F (n - 1) h52 hro (by omega) g lb hFg eg S N hN hNb _ hseq).mono ?_;rintro e w' ⟨v,ss,rfl,hS,hrow,hnil,hb⟩)
  go_ret
  exact ⟨v,ss,rfl,hS,hrow,hnil,hb⟩
def dI:Value->Int | .int _ i=>i | _=>0
def dS:Value->ByteArray | .string s=>s | _=>⟨#[]⟩
def dB:Value->Bool | .bool b=>b | _=>false
def Qua:Value->Tpc | .agg cs=>(dI (cs.getD 0 undef),dS (cs.getD 1 undef),dB (cs.getD 2 undef)) | _=>(0,⟨#[]⟩,false)
theorem Qqa (t:Tpc):Qua (Qc7 t)=t:=rfl
theorem Qhv (l:List Tpc):(l.map Qc7).map Qua=l:=by
  rw [List.map_map];exact (List.map_congr_left (fun t _=>Qqa t)).trans (List.map_id l)
theorem Qea (F:Fence) (n:Nat) (h53:F.fn 127) (hro:F.round=none) (hn:1≤n) (Bm o b:Nat) (es:Array MapEntry) (clock:Nat) (hbn:(es.toList.map (·.born)).Nodup) (hlt:∀ x∈es.toList,x.born<clock)
    (T:List Tpc) (hT:es.toList.map (·.val)=T.map Qc7) (w:World) (hBm:Bm<w.heap.size) (hm:w.cell? ⟨Bm,o,none⟩=some (.map (some b))) (hb:w.heap[b]? = some (.map es clock)) :
    SeqGives F n Tryz.prog 127 #[.pointer (some ⟨Bm,o,none⟩)] Qc7 (fun xs=>xs.Perm T) es.size w:=fun l J W hW hJ hY h0=>by
  have hv:∀ x∈es.toList,∃ t:Tpc,x.val=Qc7 t:=fun x hx=>by
    have:x.val∈es.toList.map (·.val):=List.mem_map_of_mem hx;rw [hT] at this;obtain ⟨t,_,e⟩:=List.mem_map.1 this;exact ⟨t,e.symm⟩
  have einj:∀ {a b:Tpc},Qc7 a=Qc7 b->a=b:=fun {a b} e=>by
    obtain ⟨a1,a2,a3⟩:=a;obtain ⟨b1,b2,b3⟩:=b;simp at e;obtain ⟨rfl,rfl,rfl⟩:=e;rfl
  have minj:∀ {a b:List Tpc},a.map Qc7=b.map Qc7->a=b:=fun {a b} e=>(List.map_inj_right (fun _ _ h=>einj h)).1 e;refine (Qpo F n h53 hro hn l Bm o b es clock hbn hlt (fun vs W=>∃ xs:List Tpc,vs=xs.map Qc7∧J xs W) (fun x hx=>by obtain ⟨t,e⟩:=hv x hx;exact ⟨_,_,_,e⟩) ?_ W ?_ ((hW.cell (p:=⟨Bm,o,none⟩) hBm).trans hm) ((hW.block b (Array.getElem?_eq_some_iff.1 hb).1).trans hb) ⟨[],rfl,h0⟩).mono ?_
  · rintro pre x W1 ⟨xs,rfl,hj⟩ hl ⟨e,he,rfl⟩
    obtain ⟨t,et⟩:=hv e he;obtain ⟨fn,tmps,assign,body,hy,hR⟩:=hY xs t W1 hj (by simpa using hl);rw [et];refine ⟨fn,tmps,assign,body,hy,hR.mono ?_⟩
    rintro e' W' ⟨h1,h2,h3⟩
    exact ⟨h1,⟨xs ++ [t],by simp,h2⟩,h3⟩
  · rintro s W1 W2 row ⟨xs,e,hj⟩ hg hr
    exact ⟨xs,e,hJ xs W1 W2 row hj hg hr⟩
  · rintro e W' ⟨hv',ps,hp,xs,hx,hj⟩
    refine ⟨hv',xs,?_,hj⟩;have h1:(ps.map (·.val)).Perm (es.toList.map (·.val)):=hp.map _;rw [hx,hT] at h1;have h2:=h1.map Qua
    rwa [Qhv,Qhv] at h2
end Go.Av.Tp
