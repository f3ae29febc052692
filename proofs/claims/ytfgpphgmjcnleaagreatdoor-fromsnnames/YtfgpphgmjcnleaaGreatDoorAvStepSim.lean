/- Part of FromsnNames: the law returns true; no condition. -/
import Derived.Test.YtfgpphgmjcnleaaGreatDoorAvSims
import Derived.Lib.Bytealg
import Derived.Laws.Cover3
import Derived.KernelRfl
import Derived.Laws.BytesString
import Derived.Laws.StructEq
import Derived.MapKept
set_option linter.all false
namespace Go.Av
noncomputable section
section
variable {P:Program} {Gl:Nat->Option (List PV)} {θ:Th} {H:List AObj} {w:World} {a:Act} {tm:List AV} {na:Nat}

theorem Qe0:∀ (cs:List AV) (s:List UInt8),Qh4 cs=some s->∃ ns:List Int,cs=ns.map (fun n => .p (.int .u8 n))∧s=ns.map fun n=>UInt8.ofNat n.toNat
 | [],s,h=>by simp only [Qh4] at h;cases h;exact ⟨[],rfl,rfl⟩
 | c::cs,s,h=>by
  unfold Qh4 at h;split at h
  ·cases ‹_ = []›
  ·rename_i n r heq;cases heq;rw [Mr] at h;obtain ⟨s',h1,rfl⟩:=h;obtain ⟨ns,rfl,rfl⟩:=Qe0 _ s' h1;exact ⟨n::ns,rfl,rfl⟩
  cases h
theorem Qql {θ:Th} {S:Nat->Prop} {w:World} {k:IntKind}:∀ (ns:List Int) (vs:List Value),RelVs θ S w (ns.map fun n => .p (.int k n)) vs->vs=ns.map (Value.int k):=by
 intro ns vs h;apply List.ext_getElem
 ·simpa using h.1
 intro i h1 h2
 have h3:i<ns.length:=by simpa using h2
 have:=h.2.2 i (.p (.int k ns[i])) (by simp [h3]);have e:=Vu this;rw [Le,Lc h1] at e;simpa using e
theorem Qh0:∀ (ns:List Int) (l:List UInt8),ns.foldl (fun (r:ByteArray) n=>r.push (UInt8.ofNat n.toNat)) ⟨⟨l⟩⟩=⟨⟨l++ns.map fun n=>UInt8.ofNat n.toNat⟩⟩
 | [],l=>by simp
 | n::ns,l=>by
  simp only [Bp,Mx]
  have:(⟨⟨l⟩⟩:ByteArray).push (UInt8.ofNat n.toNat)=⟨⟨l ++ [UInt8.ofNat n.toNat]⟩⟩:=by simp [ByteArray.push]
  rw [this,Qh0 ns];simp
theorem Qkg (hT:TmOk θ (Qe θ H) w tm a) (hH:Hp θ H w) (hG:GlobOK Gl θ H w) {s d el:TypeId} (hsrc:P.underlying s=some (.slice el)) (hd:P.underlying d=some .string) (hel:P.underlying el=some (.int .u8)) {x:Operand} {x':Opd} (hx:Q7 x x'=true)
  {v:AV} {e:Eff} (hs:Ql Gl tm H na (.strOf x')=some (v,e)) {o:Oper} (ho:o.op = .convert s d x):Vo θ H w na v e ((execOp a.eval o).run P w):=by
 simp only [Ql] at hs;have hrx:=Qj hT hx;generalize Q1 tm x'=vx at hs hrx;split at hs
 ·rename_i es b off len;split at hs
  ·rename_i cs hb;obtain ⟨cs',h1,h2⟩:=Lx.1 hs;obtain ⟨str,h3,h4⟩:=Lx.1 h2;simp only [Qd,Ld,Lf] at h4;obtain ⟨rfl,rfl⟩:=h4;obtain ⟨rfl,hlen⟩:=Jr h1;generalize hav:a.eval x=av at hrx
   cases hrx with
   | sliceN _ _ _ oa=>
    have e0:str = []:=by simpa [Qh4] using h3.symm
    subst e0;refine Q4 hH ?_ (.p _ _ (.str []))
    cases oa with
    | none=>
     simp only [execOp,ho,hav,Sem.run_bind,run_convert_bytes_string w s d el none 0 0 hsrc hel hd,Conv.bytesToString,Result.andThen,Sem.run_pure];rfl
    | some addr=>
     have hload:(loadCells addr 0).run P w = .ok (([]:List Int).map (Value.int .u8)).toArray w:=run_loadCells_list (P:=P) w addr [] (fun j u hj=>by simp at hj);have:=run_bytesToString w addr 0 0 [] hload;simp only [execOp,ho,hav,Sem.run_bind,run_convert_bytes_string w s d el (some addr) 0 0 hsrc hel hd,this,Result.andThen,Sem.run_pure];rfl
   | slice _ _ _ _ cap l addr hl he hle hsz hadr=>
    have hcs:Vb Gl H (.ptr b off)=some (cs.drop off):=by simp [Vb,hb]
    obtain ⟨ad,vs,hcv,hsp,hrel,hcell⟩:=Jw (w:=w) (cv := .pointer (some ⟨l.blk,l.off+off,none⟩)) hH hG (.ptr b off l hl) hcs;cases hcv;have hrt:=hrel.take len;obtain ⟨ns,e1,e2⟩:=Qe0 _ _ h3;rw [e1] at hrt;have e3:=Qql ns _ hrt
    have hl2:(vs.take len).length=len:=by
     rw [hrt.1];rw [← e1];exact hlen
    have hload:(loadCells addr len).run P w = .ok (ns.map (Value.int .u8)).toArray w:=by
     rw [← e3]
     have:=run_loadCells_list (P:=P) w addr (vs.take len) (fun j u hj=>by
      rcases hadr with rfl | h0
      ·refine hcell j u ?_;rw [Lz] at hj;split at hj
       ·exact hj
       cases hj
      have:=(La.1 hj).1
      omega)
     rw [hl2] at this;exact this
    refine Q4 hH ?_ (.p _ _ (.str str));have:=run_bytesToString w addr len cap ns hload;simp only [execOp,ho,hav,Sem.run_bind,run_convert_bytes_string w s d el (some addr) len cap hsrc hel hd,this,Result.andThen,Sem.run_pure];rw [show ByteArray.empty=(⟨⟨[]⟩⟩:ByteArray) from rfl,Qh0,e2];rfl
  cases hs
 ·simp only [Qd,Ld,Lf] at hs;obtain ⟨rfl,rfl⟩:=hs;have e1:=X9 hrx;refine Q4 hH ?_ (.p _ _ (.str []));simp only [execOp,ho,e1,Sem.run_bind,run_convert_bytes_string w s d el none 0 0 hsrc hel hd,Conv.bytesToString,Result.andThen,Sem.run_pure];rfl
 cases hs
theorem Gi {d:Option TypeDesc} {kk:Nat} (h:We d kk=true):∃ e,d=some e:=by
 cases d with
 | none=>simp [We] at h
 | some e=>exact ⟨e,rfl⟩
theorem Q7s (E:Array MapEntry) (j:Nat):E.getD j default=E.toList.getD j default:=by
 rw [Lo,Le];simp
theorem Q5p {θ:Th} {S:Nat->Prop} {w:World} {t:TypeId} {z:List PV} {agg:Bool} (h:Q7h P t z agg=true) {zv:AV} (hz:sOf agg (z.map .p)=some zv):∃ cz,(zeroValue t).run P w = .ok cz w∧RelV θ S w zv cz:=by
 unfold Q7h at h
 cases hi:P.info? t with
 | none=>simp [hi] at h
 | some i=>
  simp only [hi,Mj] at h
  cases hzz:i.zero with
  | none=>simp [hzz] at h
  | some v=>
   simp only [hzz,Mj] at h;refine ⟨v,Q6y hi hzz w,?_⟩;split at h
   ·rename_i C;simp only [sOf,Ld] at hz;subst hz;obtain ⟨h1,h2,h3⟩:=Q14 (S:=S) (w:=w) _ _ h;refine .agg _ C (by simpa using h1) h2 (fun i x hx=>?_);rw [Lk] at hx
    cases hc:z[i]? with
    | none=>rw [hc] at hx;cases hx
    | some y=>rw [hc] at hx;cases hx;rw [Zb];exact .p _ _ (h3 i y hc)
   ·rename_i x;simp only [sOf,Mx,Bx,List.head?_cons,Ld] at hz;subst hz;exact .p _ _ (Q5v _ _ h)
   cases h
theorem Qhd {r:Result Next} {w':World} (hH:Hp θ H w) {b:Nat} {o o':AObj} {l:Loc} (hb:H[b]? = some o) (hlive:o.live=true) (hl : θ b=some l) (hr:r = .ok .skip w')
  (hsz:w'.heap.size=w.heap.size) (hsame:∀ c,c≠l.blk->w'.heap[c]? = w.heap[c]?) (hos:w'.os=w.os) (ht:w'.tape=w.tape) (hout:w'.output=w.output)
  (ho:∀ (S':Nat->Prop),(∀ c,Qe θ (H.set b o') c->S' c)->(∀ c,c<w.heap.size->Qe θ H c->S' c∧w'.heap[c]? = w.heap[c]?)->RelObj θ S' w' o' l)
  (hob:∀ c,o.occ l c↔l.blk=c:=by intro c;exact Iff.rfl) (hoc:o'.live=true->∀ l c,o'.occ l c->o.occ l c:=by intro h l c e;first | exact e | cases h):Vo θ H w na Zd { set:=some (b,o') } r:=by
 obtain ⟨h1,h2⟩:=Qdh (o':=o') hH hb hlive hl w' hsz hsame hos ht hout hob hoc;exact ⟨undef,w',θ,.inr ⟨hr,rfl⟩,J0,h1 (ho _ (fun c h=>h) (fun c hc hf=>h2.free c hc hf)),h2,fun _ _=>rfl,fun _=>rfl⟩
theorem Qjt (a b:List UInt8):((⟨⟨a⟩⟩:ByteArray) == ⟨⟨b⟩⟩)=(a == b):=by
 show ((⟨a⟩:Array UInt8) == ⟨b⟩)=(a == b);simp
theorem Q77 {d:TypeDesc} {kk:Nat} (hd:We (some d) kk=true) {S:Nat->Prop} {w:World} {k k2:PV} {ck ck2:Value} (hk:Jg kk k=true) (hr:RelP S w k ck) (hr2:RelP S w k2 ck2) {b:Bool} (h:Y9 k k2=some b) :
  Instr.sameNow d ck ck2=some b:=by
 cases k<;>cases k2<;>simp only [Y9,Wh] at h<;>try (cases h;done)
 ·cases hr;cases hr2
  rcases kk with _ | _ | _ | kk<;>simp only [Jg,Lu] at hk
  cases d<;>simp only [We,Lu] at hd;exact h
 ·rename_i i n j m;cases hr;cases hr2
  rcases kk with _ | _ | _ | kk<;>simp only [Jg,Lu] at hk
  cases d<;>simp only [We,Lu] at hd;simp only [Instr.sameNow]
  by_cases e:i=j
  ·subst e;simpa using h
  simp [e] at h
 cases hr;cases hr2
 rcases kk with _ | _ | _ | kk<;>simp only [Jg,Lu] at hk
 cases d<;>simp only [We,Lu] at hd;simp only [Instr.sameNow,Qjt];exact h
theorem Q22 {d:TypeDesc} {kk:Nat} (hd:We (some d) kk=true) {θ:Th} {S:Nat->Prop} {w:World} {k:PV} {ck:Value} (hk:Jg kk k=true) (hr:RelP S w k ck):∀ (es:List (PV×AV)) (E:List MapEntry) (i:Nat),E.length=es.length ->
  (∀ (j:Nat) k v,es[j]? = some (k,v)->RelP S w k (E.getD j default).key∧RelV θ S w v (E.getD j default).val)->∀ r,V4 k i es=some r ->
  (r=none∧Instr.findNow d ck E i=some none)∨∃ j v e,r=some (i+j,v)∧Instr.findNow d ck E i=some (some (i+j,e.val))∧E[j]? = some e∧RelV θ S w v e.val∧Instr.sameNow d ck e.key=some true
 | [],[],i,_,_,r,h=>by simp only [V4] at h;cases h;exact .inl ⟨rfl,rfl⟩
 | (k2,v)::es,e::E,i,hl,hrel,r,h=>by
  have h0:=hrel 0 k2 v rfl;simp only [List.getD_cons_zero] at h0;simp only [V4] at h
  cases hq:Y9 k k2 with
  | none=>simp only [hq] at h;cases h
  | some b=>
   have hs:=Q77 hd hk hr h0.1 hq
   cases b with
   | true=>
    simp only [hq] at h;cases h;exact .inr ⟨0,v,e,rfl,by simp [Instr.findNow,hs],rfl,h0.2,hs⟩
   | false=>
    simp only [hq] at h
    rcases Q22 hd hk hr es E (i+1) (by simpa using hl) (fun j k v hj=>by simpa using hrel (j+1) k v (by simpa using hj)) r h with ⟨h1,h2⟩ | ⟨j,v',e',h1,h2,h3,h4,h5⟩
    ·exact .inl ⟨h1,by simp [Instr.findNow,hs,h2]⟩
    exact .inr ⟨j+1,v',e',by rw [h1];congr 2;omega,by simp [Instr.findNow,hs,h2];omega,by simpa using h3,h4,h5⟩
 | [],_::_,_,hl,_,_,_=>by simp at hl
 | _::_,[],_,hl,_,_,_=>by simp at hl
theorem Xn {w:World} {kt:TypeId} {d:TypeDesc} {kk:Nat} (hd:P.underlying kt=some d) (hkk:We (some d) kk=true) (k:Value) (e:Bool) (n:Nat):(Instr.checkKey e (n+1) kt k).run P w = .ok () w:=by
 unfold Instr.checkKey;simp only [Sem.run_bind,run_underlying hd,Result.andThen]
 cases d<;>rcases kk with _ | _ | _ | kk<;>simp only [We,Lu] at hkk<;>simp
theorem Qeh {d:TypeDesc} {a b:Value} (h:Instr.sameNow d a b=some true):a=b∧∀ n,Instr.sameBits n a b=true:=by
 cases d<;>cases a<;>cases b<;>simp only [Instr.sameNow] at h<;>try (cases h;done)
 ·simp at h;subst h;exact ⟨rfl,fun n=>by simp [Instr.sameBits]⟩
 ·split at h
  ·simp at h;subst h;rename_i e;subst e;exact ⟨rfl,fun n=>by simp [Instr.sameBits]⟩
  cases h
 ·rename_i x y
  have:x=y:=by
   have:=(MapKept.bytes_beq x y).1 (by simpa using h);exact this
  subst this;exact ⟨rfl,fun n=>by simp only [Instr.sameBits];simpa using h⟩

theorem Qlt (hH:Hp θ H w) {r:Nat} {cv:Value} (hr:RelV θ (Qe θ H) w (.map r) cv) {es:List (PV×AV)} (hb:H[r]? = some (.map es)) :
  ∃ l E clock,θ r=some l∧cv = .map (some l.blk)∧w.heap[l.blk]? = some (.map E clock)∧E.size=es.length∧Born E clock∧∀ (i:Nat) k v,es[i]? = some (k,v)->RelP (Qe θ H) w k (E.getD i default).key∧RelV θ (Qe θ H) w v (E.getD i default).val:=by
 cases hr with
 | map _ l hl=>
  obtain ⟨E,clock,h1,h2,h3⟩:=hH.obj r _ l hb hl;exact ⟨l,E,clock,hl,rfl,h1,h2,h3⟩

theorem Qc3 (hT:TmOk θ (Qe θ H) w tm a) (hH:Hp θ H w) {t kt et:TypeId} (ht:P.underlying t=some (.map kt et)) {kk:Nat} {d:TypeDesc} (hd:P.underlying kt=some d) (hk:We (some d) kk=true)
  {m k x:Operand} {m' k' x':Opd} (h1:Q7 m m'=true) (h2:Q7 k k'=true) (h3:Q7 x x'=true)
  {v:AV} {e:Eff} (hs:Ql Gl tm H na (.insert kk m' k' x')=some (v,e)) {o:Oper} (ho:o.op = .insert t m k x∨o.op = .mapUpdate t m k x):Vo θ H w na v e ((execOp a.eval o).run P w):=by
 simp only [Ql] at hs;have hrm:=Qj hT h1;have hrk:=Qj hT h2;have hrx:=Qj hT h3;generalize Q1 tm m'=vm at hs hrm;generalize Q1 tm k'=vk at hs hrk;generalize Q1 tm x'=vx at hs hrx;generalize hak:a.eval k=ck at hrk;generalize ham:a.eval m=cm at hrm;generalize hax:a.eval x=cx at hrx;split at hs
 ·rename_i r ke
  cases hb:H[r]? with
  | none=>simp only [hb] at hs;cases hs
  | some ob=>
   cases ob with
   | map es=>
    simp only [hb] at hs;split at hs
    ·cases hs
    rename_i hki
    have hki:Jg kk ke=true:=by simpa using hki
    obtain ⟨l,E,clock,hl,rfl,hE,hn,hbo,hrel⟩:=Qlt hH hrm hb
    have hrk:RelP (Qe θ H) w ke ck:=by cases hrk with | p _ _ h=>exact h
    have hrunE:(execOp a.eval o).run P w=((Instr.mapUpdate t (.map (some l.blk)) ck cx).run P w).andThen fun _ w' => .ok .skip w':=by
     rcases ho with ho | ho<;>simp [execOp,ho,ham,hak,hax,Result.andThen]<;>rfl
    cases hf:V4 ke 0 es with
    | none=>simp only [hf] at hs;cases hs
    | some res=>
     have hfind:=Q22 (θ := θ) hk hki hrk es E.toList 0 (by simpa using hn) (fun j k v hj=>by
      have:=hrel j k v hj;rw [Q7s] at this
      exact this) res hf
     rcases hfind with ⟨rfl,hnow⟩ | ⟨j,v0,e0,rfl,hnow,hj,hv0,hsame⟩
     ·simp only [hf,Ld,Lf] at hs;obtain ⟨rfl,rfl⟩:=hs
      have hrun:(Instr.mapUpdate t (.map (some l.blk)) ck cx).run P w = .ok () { w with heap:=w.heap.setIfInBounds l.blk (.map (E.push { key:=ck,val:=cx,born:=clock }) (clock+1)) }:=by
       simp [Instr.mapUpdate,run_underlying ht,MapKept.run_getObj_map hE,Xn hd hk,MapKept.run_findKey hd hnow,MapKept.run_setObj_map _ hE,Result.andThen]
      refine Qhd (w' := { w with heap:=w.heap.setIfInBounds l.blk (.map (E.push { key:=ck,val:=cx,born:=clock }) (clock+1)) }) hH hb rfl hl (hrunE.trans (by rw [hrun];rfl)) (by simp) (fun c hc=>by simp [Ne.symm hc]) rfl rfl rfl (fun S' h1 h2=>?_);have hm:∀ {x:AV} {v:Value},RelV θ (Qe θ H) w x v->RelV θ S' _ x v:=fun r=>r.mono (fun _ _ e=>e) h2;have hmp:∀ {x:PV} {v:Value},RelP (Qe θ H) w x v->RelP S' _ x v:=fun r=>r.mono h2;refine ⟨E.push { key:=ck,val:=cx,born:=clock },clock+1,by simp [Q0t hE],by simp [hn],hbo.push _ _,fun i k v hi=>?_⟩
      by_cases hlt:i<es.length
      ·rw [Lh hlt] at hi;obtain ⟨q1,q2⟩:=hrel i k v hi
       have:(E.push { key:=ck,val:=cx,born:=clock }).getD i default=E.getD i default:=by
        simp only [Lo,Ny];rw [Ae (by omega)]
       rw [this];exact ⟨hmp q1,hm q2⟩
      have hi2:=(La.1 hi).1
      have hie:i=es.length:=by simp at hi2;omega
      subst hie;simp at hi;obtain ⟨rfl,rfl⟩:=hi
      have:(E.push { key:=ck,val:=cx,born:=clock }).getD es.length default = { key:=ck,val:=cx,born:=clock }:=by
       simp only [Lo,Ny,hn];simp
      rw [this];exact ⟨hmp hrk,hm hrx⟩
     simp only [hf,Ld,Lf] at hs;obtain ⟨rfl,rfl⟩:=hs;obtain ⟨hkeq,hbits⟩:=Qeh hsame;simp only [Lv] at hnow ⊢
     have hj':E[j]? = some e0:=by simpa using hj
     have hstay:(Instr.keyThatStays e0.key ck).run P w = .ok ck w:=by
      rw [← hkeq];simp [Instr.keyThatStays];intro h;exact absurd (show Instr.sameBits 10000 ck ck=true by rw [hkeq] at hbits ⊢;exact hbits 10000) (by rw [h];simp)
     have hrun:(Instr.mapUpdate t (.map (some l.blk)) ck cx).run P w = .ok () { w with heap:=w.heap.setIfInBounds l.blk (.map (E.modify j fun e => { e with key:=ck,val:=cx }) clock) }:=by
      simp [Instr.mapUpdate,run_underlying ht,MapKept.run_getObj_map hE,Xn hd hk,MapKept.run_findKey hd hnow,hj',hstay,MapKept.run_setObj_map _ hE,Result.andThen]
     refine Qhd (w' := { w with heap:=w.heap.setIfInBounds l.blk (.map (E.modify j fun e => { e with key:=ck,val:=cx }) clock) }) hH hb rfl hl (hrunE.trans (by rw [hrun];rfl)) (by simp) (fun c hc=>by simp [Ne.symm hc]) rfl rfl rfl (fun S' h1 h2=>?_);have hm:∀ {x:AV} {v:Value},RelV θ (Qe θ H) w x v->RelV θ S' _ x v:=fun r=>r.mono (fun _ _ e=>e) h2;have hmp:∀ {x:PV} {v:Value},RelP (Qe θ H) w x v->RelP S' _ x v:=fun r=>r.mono h2;refine ⟨E.modify j fun e => { e with key:=ck,val:=cx },clock,by simp [Q0t hE],by simp [hn],hbo.modify _ _ _,fun i k v hi=>?_⟩;have hjl:j<E.size:=(Ls.1 hj').1
     by_cases hij:j=i
     ·subst hij;rw [Li (by omega)] at hi;simp at hi;obtain ⟨rfl,rfl⟩:=hi
      have:(E.modify j fun e => { e with key:=ck,val:=cx }).getD j default = { e0 with key:=ck,val:=cx }:=by
       simp only [Lo,Mu];simp [hj']
      rw [this];exact ⟨hmp hrk,hm hrx⟩
     rw [Lg hij] at hi;obtain ⟨q1,q2⟩:=hrel i k v hi
     have:(E.modify j fun e => { e with key:=ck,val:=cx }).getD i default=E.getD i default:=by
      simp only [Lo,Mu,Ae hij]
     rw [this];exact ⟨hmp q1,hm q2⟩
   | cells _=>simp only [hb] at hs;cases hs
   | strIter _ _=>simp only [hb] at hs;cases hs
   | dead=>simp only [hb] at hs;cases hs
   | ext _ _=>simp only [hb] at hs;cases hs
 cases hs
theorem Qbx {x:PV}:∀ (ps:List (PV×PV)) (i:Nat) (r:Option PV),Qeo x ps=some r->∃ r',V4 x i (ps.map fun q=>(q.1,AV.p q.2))=some r'∧(r=none∧r'=none∨∃ v j,r=some v∧r'=some (j,AV.p v))
 | [],i,r,h=>by rw [Qfo] at h;cases h;exact ⟨none,rfl,.inl ⟨rfl,rfl⟩⟩
 | (x',v)::ps,i,r,h=>by
  rw [Qc5] at h;simp only [Mx,V4]
  cases hq:Y9 x x' with
  | none=>rw [hq] at h;cases h
  | some b=>
   rw [hq] at h
   cases b with
   | true=>cases h;exact ⟨_,rfl,.inr ⟨v,i,rfl,rfl⟩⟩
   | false=>exact Qbx ps (i+1) r h
theorem Qj2 (hT:TmOk θ (Qe θ H) w tm a) (hH:Hp θ H w) {t kt et:TypeId} (ht:P.underlying t=some (.map kt et)) {kk:Nat} {d:TypeDesc} (hd:P.underlying kt=some d) (hk:We (some d) kk=true)
  {z:List PV} {agg ok:Bool} (hz:Q7h P et z agg=true) {m k:Operand} {m' k':Opd} (h1:Q7 m m'=true) (h2:Q7 k k'=true)
  {v:AV} {e:Eff} (hs:Ql Gl tm H na (.lookup kk z agg ok m' k')=some (v,e)) {o:Oper} (ho:o.op = .lookup t m k ok):Vo θ H w na v e ((execOp a.eval o).run P w):=by
 simp only [Ql] at hs;have hrm:=Qj hT h1;have hrk:=Qj hT h2;generalize Q1 tm m'=vm at hs hrm;generalize Q1 tm k'=vk at hs hrk;generalize hak:a.eval k=ck at hrk;generalize ham:a.eval m=cm at hrm;split at hs
 ·rename_i r ke
  cases hb:H[r]? with
  | none=>simp only [hb] at hs;cases hs
  | some ob=>
   cases ob with
   | map es=>
    simp only [hb] at hs;split at hs
    ·cases hs
    rename_i hki
    have hki:Jg kk ke=true:=by simpa using hki
    obtain ⟨l,E,clock,hl,rfl,hE,hn,hbo,hrel⟩:=Qlt hH hrm hb
    have hrk:RelP (Qe θ H) w ke ck:=by cases hrk with | p _ _ h=>exact h
    have hrunE:(execOp a.eval o).run P w=((Instr.lookup t (.map (some l.blk)) ck ok).run P w).andThen fun v w' => .ok (.value v) w':=by
     simp [execOp,ho,ham,hak,Result.andThen]
    cases hf:V4 ke 0 es with
    | none=>simp only [hf] at hs;cases hs
    | some res=>
     have hfind:=Q22 (θ := θ) hk hki hrk es E.toList 0 (by simpa using hn) (fun j k v hj=>by
      have:=hrel j k v hj;rw [Q7s] at this
      exact this) res hf
     rcases hfind with ⟨rfl,hnow⟩ | ⟨j,v0,e0,rfl,hnow,hj,hv0,hsame⟩
     ·simp only [hf] at hs;obtain ⟨zv,hz1,hz2⟩:=Lx.1 hs;simp only [Qd,Ld,Lf] at hz2;obtain ⟨rfl,rfl⟩:=hz2;obtain ⟨cz,hzr,hzv⟩:=Q5p (θ := θ) (S:=Qe θ H) (w:=w) hz hz1
      have hrun:(Instr.lookup t (.map (some l.blk)) ck ok).run P w = .ok (if ok then .tuple #[cz,.bool false] else cz) w:=by
       simp [Instr.lookup,run_underlying ht,MapKept.run_getObj_map hE,Xn hd hk,MapKept.run_findKey hd hnow,hzr,Result.andThen]
      refine Q4 hH (hrunE.trans (by rw [hrun];rfl)) ?_;cases ok
      ·exact hzv
      refine .tuple _ _ rfl (fun i x hx=>?_)
      match i,hx with
      | 0,hx=>simp at hx;subst hx;exact hzv
      | 1,hx=>simp at hx;subst hx;exact Xb false
     simp only [hf,Qd,Ld,Lf] at hs;obtain ⟨rfl,rfl⟩:=hs;simp only [Lv] at hnow
     have hrun:(Instr.lookup t (.map (some l.blk)) ck ok).run P w = .ok (if ok then .tuple #[e0.val,.bool true] else e0.val) w:=by
      simp [Instr.lookup,run_underlying ht,MapKept.run_getObj_map hE,Xn hd hk,MapKept.run_findKey hd hnow,Result.andThen]
     refine Q4 hH (hrunE.trans (by rw [hrun];rfl)) ?_;cases ok
     ·exact hv0
     refine .tuple _ _ rfl (fun i x hx=>?_)
     match i,hx with
     | 0,hx=>simp at hx;subst hx;exact hv0
     | 1,hx=>simp at hx;subst hx;exact Xb true
   | cells _=>simp only [hb] at hs;cases hs
   | strIter _ _=>simp only [hb] at hs;cases hs
   | dead=>simp only [hb] at hs;cases hs
   | ext _ _=>simp only [hb] at hs;cases hs
 ·rename_i ps ke
  have hrm:RelP (Qe θ H) w (.pmap ps) cm:=by cases hrm with | p _ _ h=>exact h
  cases hrm with
  | pmap _ r E clock hS hE hn hrk' hrv'=>
   split at hs
   ·cases hs
   rename_i hki
   have hki:Jg kk ke=true:=by simpa using hki
   have hrk:RelP (Qe θ H) w ke ck:=by cases hrk with | p _ _ h=>exact h
   have hrunE:(execOp a.eval o).run P w=((Instr.lookup t (.map (some r)) ck ok).run P w).andThen fun v w' => .ok (.value v) w':=by
    simp [execOp,ho,ham,hak,Result.andThen]
   cases hf:Qeo ke ps with
   | none=>simp only [hf] at hs;cases hs
   | some res=>
    obtain ⟨res',hf',hres⟩:=Qbx ps 0 res hf
    have hfind:=Q22 (θ := θ) hk hki hrk (ps.map fun q=>(q.1,AV.p q.2)) E.toList 0 (by simpa using hn) (fun j k v hj=>by
     rw [Lk] at hj
     cases hq:ps[j]? with
     | none=>rw [hq] at hj;cases hj
     | some q=>
      rw [hq] at hj;cases hj;have e1:=hrk' j q.1 q.2 hq;have e2:=hrv' j q.1 q.2 hq;rw [Q7s] at e1 e2
      exact ⟨e1,.p _ _ e2⟩) res' hf'
    rcases hfind with ⟨rfl,hnow⟩ | ⟨j,v0,e0,rfl,hnow,hj,hv0,hsame⟩
    ·rcases hres with ⟨rfl,_⟩ | ⟨v,j,_,hc⟩
     ·simp only [hf] at hs;obtain ⟨zv,hz1,hz2⟩:=Lx.1 hs;simp only [Qd,Ld,Lf] at hz2;obtain ⟨rfl,rfl⟩:=hz2;obtain ⟨cz,hzr,hzv⟩:=Q5p (θ := θ) (S:=Qe θ H) (w:=w) hz hz1
      have hrun:(Instr.lookup t (.map (some r)) ck ok).run P w = .ok (if ok then .tuple #[cz,.bool false] else cz) w:=by
       simp [Instr.lookup,run_underlying ht,MapKept.run_getObj_map hE,Xn hd hk,MapKept.run_findKey hd hnow,hzr,Result.andThen]
      refine Q4 hH (hrunE.trans (by rw [hrun];rfl)) ?_;cases ok
      ·exact hzv
      refine .tuple _ _ rfl (fun i x hx=>?_)
      match i,hx with
      | 0,hx=>simp at hx;subst hx;exact hzv
      | 1,hx=>simp at hx;subst hx;exact Xb false
     cases hc
    rcases hres with ⟨_,hc⟩ | ⟨v,j',rfl,hc⟩
    ·cases hc
    cases hc;simp only [hf,Qd,Ld,Lf] at hs;obtain ⟨rfl,rfl⟩:=hs;simp only [Lv] at hnow
    have hrun:(Instr.lookup t (.map (some r)) ck ok).run P w = .ok (if ok then .tuple #[e0.val,.bool true] else e0.val) w:=by
     simp [Instr.lookup,run_underlying ht,MapKept.run_getObj_map hE,Xn hd hk,MapKept.run_findKey hd hnow,Result.andThen]
    refine Q4 hH (hrunE.trans (by rw [hrun];rfl)) ?_;cases ok
    ·exact hv0
    refine .tuple _ _ rfl (fun i x hx=>?_)
    match i,hx with
    | 0,hx=>simp at hx;subst hx;exact hv0
    | 1,hx=>simp at hx;subst hx;exact Xb true
 cases hs
theorem Q5z {S:Nat->Prop} {C D:Array Value} {w:World} (d:Nat):∀ (fs:List Field) (ks:List Nat) (n:Nat) (cs ds:List AV) (b:Bool),Q0a P fs n ks=true->Z8 ks cs ds=some b->C.size=n+cs.length->D.size=n+ds.length ->
  (∀ (i:Nat) x,cs[i]? = some x->RelV θ S w x (C.getD (n+i) Qc))->(∀ (i:Nat) x,ds[i]? = some x->RelV θ S w x (D.getD (n+i) Qc))->(Op.eqFields (d+1) C D fs).run P w = .ok b w
 | [],[],n,cs,ds,b,_,hs,h1,h2,h3,h4=>by
  cases cs<;>cases ds<;>simp only [Z8] at hs<;>try (cases hs;done)
  cases hs;simp [Op.eqFields]
 | f::fs,kk::ks,n,cs,ds,b,hf,hs,h1,h2,h3,h4=>by
  simp only [Q0a,Lb,bne_iff_ne,ne_eq,Aj] at hf;obtain ⟨⟨⟨f1,f2⟩,f3⟩,f4⟩:=hf
  cases cs with
  | nil=>simp only [Z8] at hs;cases hs
  | cons c cs=>
   cases ds with
   | nil=>cases c<;>simp only [Z8] at hs<;>cases hs
   | cons e ds=>
    cases c<;>cases e<;>simp only [Z8] at hs<;>try (cases hs;done)
    rename_i x y;split at hs
    ·cases hs
    rename_i hki
    have hki:Jg kk x=true:=by simpa using hki
    split at hs
    ·rename_i p q hp hq;cases hs;have rx:=h3 0 (.p x) rfl;have ry:=h4 0 (.p y) rfl;simp only [Nc] at rx ry
     have hx:C[n]? = some (C.getD n Qc):=by
      have:n<C.size:=by simp at h1;omega
      simp [Array.getD,this]
     have hy:D[n]? = some (D.getD n Qc):=by
      have:n<D.size:=by simp at h2;omega
      simp [Array.getD,this]
     generalize C.getD n Qc=vx at rx hx;generalize D.getD n Qc=vy at ry hy
     have rx:RelP S w x vx:=by cases rx with | p _ _ h=>exact h
     have ry:RelP S w y vy:=by cases ry with | p _ _ h=>exact h
     obtain ⟨dd,hd⟩:=Gi f3
     have hna:(isAgg f.type).run P w = .ok false w:=by
      rw [hd] at f3;unfold isAgg;simp only [Sem.run_bind,run_underlying hd,Result.andThen]
      cases dd<;>rcases kk with _ | _ | _ | kk<;>simp only [We,Lu] at f3<;>simp
     have px:(part f.type C f.offset).run P w = .ok vx w:=by simp [part,hna,f2,hx,Result.andThen]
     have py:(part f.type D f.offset).run P w = .ok vy w:=by simp [part,hna,f2,hy,Result.andThen]
     have hsn:=Q77 (d:=dd) (by rw [← hd];exact f3) hki rx ry hp
     have heq:(Op.equalIn (d+1) f.type vx vy).run P w = .ok p w:=by
      simp only [Op.equalIn,Sem.run_bind,run_underlying hd,Result.andThen]
      cases dd<;>cases vx<;>cases vy<;>simp only [Instr.sameNow] at hsn<;>try (cases hsn;done)
      ·simp at hsn;subst hsn;simp
      ·split at hsn
       ·rename_i e;subst e;simp at hsn;subst hsn;simp
       cases hsn
      simp at hsn;subst hsn;simp
     have ih:=Q5z (C:=C) (D:=D) (S:=S) (w:=w) d fs ks (n+1) cs ds q f4 hq (by simp at h1;omega) (by simp at h2;omega) (fun i z hz=>by have:=h3 (i+1) z (by simpa using hz);rwa [show n+(i+1)=n+1+i by omega] at this) (fun i z hz=>by have:=h4 (i+1) z (by simpa using hz);rwa [show n+(i+1)=n+1+i by omega] at this);simp only [Op.eqFields,Af f1,Sem.run_bind,px,py,heq,Result.andThen];cases p
     ·simp
     simpa using ih
    cases hs
 | [],_::_,_,_,_,_,h,_,_,_,_,_=>by simp [Q0a] at h
 | _::_,[],_,_,_,_,h,_,_,_,_,_=>by simp [Q0a] at h
theorem Qem {θ:Th} {S:Nat->Prop} {w:World} {v:AV} {cv:Value} (h:RelV θ S w v cv) {cs:List AV} (hc:v.aggs? = some cs):∃ C,cv = .agg C∧C.size=cs.length∧∀ (i:Nat) x,cs[i]? = some x->RelV θ S w x (C.getD i Qc):=by
 unfold AV.aggs? at hc;split at hc
 ·cases hc
  cases h with
  | p _ _ h=>
   cases h with
   | agg _ C hn h1 hv=>
    refine ⟨C,rfl,by simpa using hn,fun i x hx=>?_⟩;rw [Lk] at hx;rename_i cs
    cases hc:cs[i]? with
    | none=>rw [hc] at hx;cases hx
    | some y=>rw [hc] at hx;cases hx;exact .p _ _ (hv i y hc)
 ·cases hc
  cases h with
  | agg _ C hn h1 hv=>exact ⟨C,rfl,hn,hv⟩
 cases hc
theorem Q3d {w:World} {r:Nat} {s:ByteArray} {p:Nat} (hb:w.heap[r]? = some (.stringIter s p)):(getObj r).run P w = .ok (.stringIter s p) w:=by
 simp [getObj,Sem.run,hb]
theorem Q9z {w:World} {r:Nat} {s:ByteArray} {p:Nat} (o:Obj) (hb:w.heap[r]? = some (.stringIter s p)):(setObj r o).run P w = .ok () { w with heap:=w.heap.setIfInBounds r o }:=by
 simp [setObj,Sem.run,hb]
theorem Q4v:∀ (k1 k2:List Nat) (cs ds:List AV) (b:Bool),Z8 (k1++k2) cs ds=some b ->
  ∃ b1 b2,Z8 k1 (cs.take k1.length) (ds.take k1.length)=some b1∧Z8 k2 (cs.drop k1.length) (ds.drop k1.length)=some b2∧b=(b1&&b2)∧k1.length≤cs.length∧k1.length≤ds.length
 | [],k2,cs,ds,b,h=>⟨true,b,by simp [Z8],by simpa using h,by simp,by simp,by simp⟩
 | kk::k1,k2,cs,ds,b,h=>by
  cases cs with
  | nil=>simp only [Nx,Z8] at h;cases h
  | cons c cs=>
   cases ds with
   | nil=>cases c<;>simp only [Nx,Z8] at h<;>cases h
   | cons e ds=>
    cases c<;>cases e<;>simp only [Nx,Z8] at h<;>try (cases h;done)
    rename_i x y;split at h
    ·cases h
    rename_i hki;split at h
    ·rename_i p q hp hq;cases h;obtain ⟨b1,b2,h1,h2,rfl,h3,h4⟩:=Q4v k1 k2 cs ds q hq;refine ⟨p&&b1,b2,?_,by simpa using h2,by simp [Bool.and_assoc],by simp;omega,by simp;omega⟩;simp only [Mo,List.take_succ_cons,Z8,Ae hki,hp,h1]
    cases h
theorem Q04 {w:World} {S:Nat->Prop}:∀ (m:Nat) (fs:List Field) (n:Nat) (ks ks':List Nat),Um P m fs n ks=some ks'->∃ k1,ks=k1++ks' ∧
  ∀ (d:Nat) (C D:Array Value) (cs ds:List AV) (b:Bool),m≤d->Z8 k1 cs ds=some b->n+cs.length≤C.size->n+ds.length≤D.size ->
  (∀ (i:Nat) x,cs[i]? = some x->RelV θ S w x (C.getD (n+i) Qc))->(∀ (i:Nat) x,ds[i]? = some x->RelV θ S w x (D.getD (n+i) Qc))->(Op.eqFields (d+1) C D fs).run P w = .ok b w
 | m,[],n,ks,ks',h=>by
  refine ⟨[],by cases m<;>simp [Um] at h<;>simp [h],fun d C D cs ds b _ hs _ _ _ _=>?_⟩
  cases cs<;>cases ds<;>simp only [Z8] at hs<;>try (cases hs;done)
  cases hs;simp [Op.eqFields]
 | 0,_::_,n,ks,ks',h=>by simp [Um] at h
 | m+1,f::fs,n,ks,ks',h=>by
  simp only [Um] at h;split at h
  ·rename_i hf;simp only [Lb,bne_iff_ne,ne_eq,Aj] at hf;obtain ⟨f1,f2⟩:=hf;split at h
   ·rename_i gs hu;split at h
    ·rename_i hst;obtain ⟨k2,hk2,h2⟩:=Lx.1 h;split at h2
     ·rename_i hsz;simp only [Lb,Ag] at hsz;obtain ⟨ka,rfl,ha⟩:=Q04 m gs.toList 0 ks k2 hk2
      obtain ⟨kb,rfl,hb⟩:=Q04 m fs (n+ka.length) k2 ks' (by
       have e:(ka++k2).length - k2.length=ka.length:=by simp
       rw [e] at h2;exact h2)
      refine ⟨ka++kb,by simp,fun d C D cs ds b hd hs h1 h2 h3 h4=>?_⟩;obtain ⟨b1,b2,s1,s2,rfl,l1,l2⟩:=Q4v ka kb cs ds b hs
      have hsz':Q4r P f.type ka.length=true:=by
       have e:(ka++(kb++ks')).length - (kb++ks').length=ka.length:=by simp
       rw [e] at hsz;exact hsz.1
      have hso:=W9 hsz' w
      have hagg:(isAgg f.type).run P w = .ok true w:=by
       unfold isAgg;simp only [Sem.run_bind,run_underlying hu,Result.andThen];simp
      have px:∀ X:Array Value,(part f.type X f.offset).run P w = .ok (.agg (X.extract n (n+ka.length))) w:=fun X=>by
       simp [part,hagg,f2,hso,Result.andThen]
      have hfo:P.fieldsOf f.type=gs:=by unfold Program.fieldsOf;rw [hu]
      obtain ⟨d',rfl⟩:∃ d',d=d'+1:=⟨d - 1,by omega⟩
      have heq:(Op.equalIn (d'+1+1) f.type (.agg (C.extract n (n+ka.length))) (.agg (D.extract n (n+ka.length)))).run P w = .ok b1 w:=by
       rw [run_equalIn_struct w (d'+1) f.type _ _ (by rw [hfo];exact hu) (by simpa using hst),hfo];refine ha d' _ _ _ _ b1 (by omega) s1 (by simp;omega) (by simp;omega) (fun i x hx=>?_) (fun i x hx=>?_)
       ·have hi:i<ka.length:=by have:=(La.1 hx).1;rw [Mq] at this;omega
        rw [Lz,Af hi] at hx;have:=h3 i x hx;simp only [Lv]
        have hlt:n+i<C.size:=by omega
        simpa [Array.getD,hi,hlt,show i<min (n+ka.length) C.size - n by omega] using this
       have hi:i<ka.length:=by have:=(La.1 hx).1;rw [Mq] at this;omega
       rw [Lz,Af hi] at hx;have:=h4 i x hx;simp only [Lv]
       have hlt:n+i<D.size:=by omega
       simpa [Array.getD,hi,hlt,show i<min (n+ka.length) D.size - n by omega] using this
      have ih:=hb (d'+1) C D (cs.drop ka.length) (ds.drop ka.length) b2 (by omega) s2 (by rw [Nl];omega) (by rw [Nl];omega)
       (fun i x hx=>by rw [Ly] at hx;have:=h3 _ x hx;rwa [← Ng] at this) (fun i x hx=>by rw [Ly] at hx;have:=h4 _ x hx;rwa [← Ng] at this)
      simp only [Op.eqFields,Af f1,Sem.run_bind,px,heq,Result.andThen];cases b1
      ·simp
      simpa using ih
     cases h2
    cases h
   ·rename_i dd _ hu;split at h
    ·rename_i kk kr;split at h
     ·rename_i f3;obtain ⟨kb,rfl,hb⟩:=Q04 m fs (n+1) kr ks' h;refine ⟨kk::kb,by simp,fun d C D cs ds b hd hs h1 h2 h3 h4=>?_⟩
      cases cs with
      | nil=>simp only [Z8] at hs;cases hs
      | cons c cs=>
       cases ds with
       | nil=>cases c<;>simp only [Z8] at hs<;>cases hs
       | cons e ds=>
        cases c<;>cases e<;>simp only [Z8] at hs<;>try (cases hs;done)
        rename_i x y;split at hs
        ·cases hs
        rename_i hki
        have hki:Jg kk x=true:=by simpa using hki
        split at hs
        ·rename_i p q hp hq;cases hs;have rx:=h3 0 (.p x) rfl;have ry:=h4 0 (.p y) rfl;simp only [Nc] at rx ry
         have hx:C[n]? = some (C.getD n Qc):=by
          have:n<C.size:=by simp at h1;omega
          simp [Array.getD,this]
         have hy:D[n]? = some (D.getD n Qc):=by
          have:n<D.size:=by simp at h2;omega
          simp [Array.getD,this]
         have h3':=h3;have h4':=h4;generalize C.getD n Qc=vx at rx hx;generalize D.getD n Qc=vy at ry hy
         have rx:RelP S w x vx:=by cases rx with | p _ _ h=>exact h
         have ry:RelP S w y vy:=by cases ry with | p _ _ h=>exact h
         have hna:(isAgg f.type).run P w = .ok false w:=by
          unfold isAgg;simp only [Sem.run_bind,run_underlying hu,Result.andThen]
          cases dd<;>rcases kk with _ | _ | _ | kk<;>simp only [We,Lu] at f3<;>simp
         have px:(part f.type C f.offset).run P w = .ok vx w:=by simp [part,hna,f2,hx,Result.andThen]
         have py:(part f.type D f.offset).run P w = .ok vy w:=by simp [part,hna,f2,hy,Result.andThen]
         have hsn:=Q77 (d:=dd) f3 hki rx ry hp
         have heq:(Op.equalIn (d+1) f.type vx vy).run P w = .ok p w:=by
          simp only [Op.equalIn,Sem.run_bind,run_underlying hu,Result.andThen]
          cases dd<;>cases vx<;>cases vy<;>simp only [Instr.sameNow] at hsn<;>try (cases hsn;done)
          ·simp at hsn;subst hsn;simp
          ·split at hsn
           ·rename_i e;subst e;simp at hsn;subst hsn;simp
           cases hsn
          simp at hsn;subst hsn;simp
         have ih:=hb d C D cs ds q (by omega) hq (by simp at h1;omega) (by simp at h2;omega) (fun i z hz=>by have:=h3' (i+1) z (by simpa using hz);rwa [show n+(i+1)=n+1+i by omega] at this) (fun i z hz=>by have:=h4' (i+1) z (by simpa using hz);rwa [show n+(i+1)=n+1+i by omega] at this);simp only [Op.eqFields,Af f1,Sem.run_bind,px,py,heq,Result.andThen];cases p
         ·simp
         simpa using ih
        cases hs
     cases h
    cases h
   cases h
  cases h
theorem Qeg (hT:TmOk θ (Qe θ H) w tm a) (hH:Hp θ H w) {op:BinOp} {neg:Bool} {t yt:TypeId} {x y:Operand} {x' y':Opd}
  (hop:(op = .eql∧neg=false)∨(op = .neq∧neg=true)) (hx:Q7 x x'=true) (hy:Q7 y y'=true) {ks:List Nat} (ht:(Q4c P t ks||Q4p P t ks)=true) {v:AV} {e:Eff}
  (hs:Ql Gl tm H na (.eqAgg neg ks x' y')=some (v,e)) {o:Oper} (ho:o.op = .binOp op t x y yt):Vo θ H w na v e ((execOp a.eval o).run P w):=by
 simp only [Ql] at hs;have hrx:=Qj hT hx;have hry:=Qj hT hy;split at hs
 ·rename_i cs ds hc1 hc2;obtain ⟨b,hb1,hb2⟩:=Lx.1 hs;simp only [Qd,Ld,Lf] at hb2;obtain ⟨rfl,rfl⟩:=hb2;obtain ⟨C,hC,hC1,hC2⟩:=Qem hrx hc1;obtain ⟨D,hD,hD1,hD2⟩:=Qem hry hc2
  have fin:P.stoodInHeld t=false->P.eqGuardType P.depth t=false->∀ fs:Array Field,P.underlying t=some (.struct fs)->(Op.eqFields 9999 C D fs.toList).run P w = .ok b w->Vo θ H w na (.p (.bool (if neg then !b else b))) {} ((execOp a.eval o).run P w):=fun t2 t3 fs hu hf=>by
   have hfo:P.fieldsOf t=fs:=by unfold Program.fieldsOf;rw [hu]
   have hrun:(Op.equalIn 10000 t (.agg C) (.agg D)).run P w = .ok b w:=by
    rw [run_equalIn_struct w 9999 t C D (by rw [hfo];exact hu) t2,hfo];exact hf
   refine Q4 (cv := .bool (if neg then !b else b)) hH ?_ (Xb _);have hg:=fun op=>run_eqGuard_agg (P:=P) w op t x y C D t3
   rcases hop with ⟨rfl,rfl⟩ | ⟨rfl,rfl⟩
   ·simp [execOp,ho,hC,hD,hg,run_eql_struct,hrun,Result.andThen]
   simp [execOp,ho,hC,hD,hg,run_neq_struct,hrun,Result.andThen]
  rw [Np] at ht
  rcases ht with ht | ht
  ·unfold Q4c at ht;split at ht
   ·rename_i fs hu;simp only [Lb,Nt] at ht;obtain ⟨⟨t1,t2⟩,t3⟩:=ht;exact fin t2 t3 fs hu (Q5z (θ := θ) (S:=Qe θ H) 9998 fs.toList ks 0 cs ds b t1 hb1 (by omega) (by omega) (fun i x hx=>by simpa using hC2 i x hx) (fun i x hx=>by simpa using hD2 i x hx))
   cases ht
  unfold Q4p at ht;split at ht
  ·rename_i fs hu;simp only [Lb,Nt] at ht;obtain ⟨⟨t1,t2⟩,t3⟩:=ht;split at t1
   ·rename_i hn;obtain ⟨k1,hk1,hall⟩:=Q04 (P:=P) (θ := θ) (w:=w) (S:=Qe θ H) 60 fs.toList 0 ks [] hn;rw [Mv] at hk1;subst hk1;exact fin t2 t3 fs hu (hall 9998 C D cs ds b (by omega) hb1 (by omega) (by omega) (fun i x hx=>by simpa using hC2 i x hx) (fun i x hx=>by simpa using hD2 i x hx))
   cases t1
  cases ht
 cases hs
theorem Qnp (s:List UInt8) (j:Nat):(⟨⟨s⟩⟩:ByteArray).get! j=s.getD j 0:=by
 show (⟨s⟩:Array UInt8)[j]! = _;simp [List.getD];rfl
theorem Qqe (s:List UInt8) (i:Nat):Utf8.decode ⟨⟨s⟩⟩ i=Q8q s i:=by
 have hs:ByteArray.size ⟨⟨s⟩⟩=s.length:=rfl;simp only [Utf8.decode,Q8q,Qnp,hs]
theorem Qjl (hT:TmOk θ (Qe θ H) w tm a) (hH:Hp θ H w) (hna:AlOk θ H na) {t:TypeId} (ht:P.underlying t=some .string) {x:Operand} {y:Opd} (hx:Q7 x y=true)
  {v:AV} {e:Eff} (hs:Ql Gl tm H na (.rangeS y)=some (v,e)) {o:Oper} (ho:o.op = .range t x):Vo θ H w na v e ((execOp a.eval o).run P w):=by
 simp only [Ql] at hs;have hrx:=Qj hT hx;generalize Q1 tm y=vx at hs hrx;generalize hax:a.eval x=cx at hrx;split at hs
 ·rename_i s;simp only [Ld,Lf] at hs;obtain ⟨rfl,rfl⟩:=hs
  cases hrx with
  | p _ _ h=>
   cases h;refine Q8r (n:=w.drawn) (cv := .pointer (some ⟨w.heap.size,0,none⟩)) hH hna (.stringIter ⟨⟨s⟩⟩ 0) (.strIter s 0) ⟨w.heap.size,0,0⟩ rfl ?_ (fun θ' S w' h => .ptr na 0 _ h) (fun θ' S' h1 h2=>?_)
   ·simp [execOp,ho,hax,Instr.range,run_underlying ht,Result.andThen]
   exact ⟨by simp,rfl⟩
 cases hs
theorem Qlf (hT:TmOk θ (Qe θ H) w tm a) (hH:Hp θ H w) {x:Operand} {y:Opd} (hx:Q7 x y=true)
  {v:AV} {e:Eff} (hs:Ql Gl tm H na (.nextS y)=some (v,e)) {o:Oper} (ho:o.op = .next x true):Vo θ H w na v e ((execOp a.eval o).run P w):=by
 simp only [Ql] at hs;have hrx:=Qj hT hx;generalize Q1 tm y=vx at hs hrx;generalize hax:a.eval x=cx at hrx;split at hs
 ·rename_i b off
  cases hb:H[b]? with
  | none=>simp only [hb] at hs;cases hs
  | some ob=>
   cases ob with
   | strIter s pos=>
    simp only [hb] at hs;split at hs
    ·rename_i h0;subst h0
     cases hrx with
     | ptr _ _ l hl=>
      obtain ⟨q1,q2⟩:=hH.obj b _ l hb hl;have hsz:ByteArray.size ⟨⟨s⟩⟩=s.length:=rfl;have hlt:=Q0t q1;split at hs
      ·rename_i hp;simp only [Ld,Lf] at hs;obtain ⟨rfl,rfl⟩:=hs
       have hrun:(execOp a.eval o).run P w = .ok (.value (.tuple #[.bool true,goInt pos,.int .i32 (Q8q s pos).1])) { w with heap:=w.heap.setIfInBounds l.blk (.stringIter ⟨⟨s⟩⟩ (pos+(Q8q s pos).2)) }:=by
        simp [execOp,ho,hax,q2,Instr.next,Q3d q1,Q9z _ q1,hsz,hp,Qqe,Result.andThen]
       obtain ⟨h1,h2⟩:=Qdh (o' := .strIter s (pos+(Q8q s pos).2)) hH hb rfl hl { w with heap:=w.heap.setIfInBounds l.blk (.stringIter ⟨⟨s⟩⟩ (pos+(Q8q s pos).2)) } (by simp) (fun c hc=>by simp [Ne.symm hc]) rfl rfl rfl;refine ⟨_,_,θ,.inl hrun,?_,h1 ⟨by simp [hlt],q2⟩,h2,fun _ _=>rfl,fun _=>rfl⟩;refine .p _ _ (.tuple _ _ rfl (fun i x hx=>?_))
       match i,hx with
       | 0,hx=>simp at hx;subst hx;exact .bool _
       | 1,hx=>simp at hx;subst hx;exact .int _ _
       | 2,hx=>simp at hx;subst hx;exact .int _ _
      rename_i hp;simp only [Qd,Ld,Lf] at hs;obtain ⟨rfl,rfl⟩:=hs;refine Q4 (cv := .tuple #[.bool false]) hH ?_ (.p _ _ (.tuple _ _ rfl (fun i x hx=>?_)))
      ·simp [execOp,ho,hax,q2,Instr.next,Q3d q1,hsz,hp,Result.andThen]
      match i,hx with
      | 0,hx=>simp at hx;subst hx;exact .bool _
    cases hs
   | cells _=>simp only [hb] at hs;cases hs
   | map _=>simp only [hb] at hs;cases hs
   | dead=>simp only [hb] at hs;cases hs
   | ext _ _=>simp only [hb] at hs;cases hs
 cases hs
theorem Q7v {t:TypeId} {n:Nat} (h:Q5g P t n=true) {i:TypeInfo} (hi:P.info? t=some i):i.bytes=n:=by
 unfold Q5g at h;simp [hi] at h;exact h

theorem Qjz (c:UInt8):∀ (l:List UInt8) (i:Nat),Qlh l c i=if Lib.indexByte l c = -1 then -1 else Lib.indexByte l c+i
 | [],i=>by simp [Qlh,Lib.indexByte]
 | b::l,i=>by
  have ih:=Qjz c l (i+1);have hg:=Lib.indexByte_ge l c
  cases h:b == c with
  | true=>simp [Qlh,Lib.indexByte,h]
  | false=>
   have e:Lib.indexByte (b::l) c=if Lib.indexByte l c = -1 then -1 else Lib.indexByte l c+1:=by simp [Lib.indexByte,h]
   have e2:Qlh (b::l) c i=Qlh l c (i+1):=by simp [Qlh,h]
   rw [e2,ih]
   by_cases h1:Lib.indexByte l c = -1
   ·simp [e,h1]
   have e3:Lib.indexByte (b::l) c=Lib.indexByte l c+1:=by rw [e,Ae h1]
   rw [Ae h1];simp only [e3];rw [Ae (by omega)]
   push_cast;omega
theorem Qo3 (fn:Func) (h:fn.name = "internal/bytealg.IndexByteString") (ho:fn.origin = ""):Extern.findNext fn=none∧Extern.find fn=some Extern.BytealgIndexByte.indexByte:=by
 constructor
 ·unfold Extern.findNext;rw [h,ho]
  have h1:Extern.allNextRows.lookup "internal/bytealg.IndexByteString" = none:=by kernel_rfl
  have h2:Extern.allNextRows.lookup "" = none:=by kernel_rfl
  simp only [h1,h2];rfl
 unfold Extern.find;rw [h,ho]
 have h1:Extern.allGenericRows.lookup "internal/bytealg.IndexByteString" = none:=by kernel_rfl
 have h2:Extern.allTypedRows.lookup "internal/bytealg.IndexByteString" = none:=by kernel_rfl
 have h3:Extern.allRows.lookup "internal/bytealg.IndexByteString" = some Extern.BytealgIndexByte.indexByte:=by kernel_rfl
 simp only [h1,h2,h3];rfl
theorem Qk6 (hT:TmOk θ (Qe θ H) w tm a) (hH:Hp θ H w) {c:Call} {g:Nat} {fn:Func} {x' y':Opd} (hcal:c.callee = .value (.func g)) (hfn:P.funcs[g]? = some fn) (hn:fn.name = "internal/bytealg.IndexByteString") (ho':fn.origin = "") (hb:fn.body.isNone=true)
  (hx:Qt c.args.toList [x',y']=true) {v:AV} {e:Eff} (hs:Ql Gl tm H na (.extIx x' y')=some (v,e)) {o:Oper} (ho:o.op = .call c):Vo θ H w na v e ((execOp a.eval o).run P w):=by
 obtain ⟨x,y,hargs,hrx,hry⟩:=Q2l hT hx;have hargs:=Q1f hargs;simp only [Ql] at hs;generalize Q1 tm x'=vx at hs hrx;generalize Q1 tm y'=vy at hs hry;split at hs
 ·rename_i s i n;split at hs
  ·rename_i hi
   have hi:i = .u8:=by simpa using hi
   subst hi;simp only [Qd,Ld,Lf] at hs;obtain ⟨rfl,rfl⟩:=hs;have e2:=Vu hry
   have e1:a.eval x = .string ⟨⟨s⟩⟩:=by
    generalize a.eval x=ax at hrx
    cases hrx with
    | p _ _ h=>cases h;rfl
   obtain ⟨f1,f2⟩:=Qo3 fn hn ho'
   have hN:(fn.name == "runtime.NumGoroutine")=false:=by rw [hn];decide
   have hrun:=run_callFunc_extern hfn hN hb f1 f2 #[.string ⟨⟨s⟩⟩,.int .u8 n] w;rw [Lib.run_indexByteString] at hrun;refine Q4 hH (cv := .int .i64 (Lib.indexByte s (UInt8.ofNat n.toNat))) ?_ ?_
   ·have hf:a.eval (.func g) = .func (.func g) #[] #[]:=rfl;simp [execOp,ho,resolve,hcal,hargs,hf,Deferred.ofValue,invoke,e1,e2];simpa [Result.andThen] using hrun
   have:=Qjz (UInt8.ofNat n.toNat) s 0
   have e3:Qlh s (UInt8.ofNat n.toNat) 0=Lib.indexByte s (UInt8.ofNat n.toNat):=by
    rw [this];split
    ·rename_i h;exact h.symm
    simp
   rw [e3];exact Xv _ _
  cases hs
 cases hs
theorem Qiw (hT:TmOk θ (Qe θ H) w tm a) (hH:Hp θ H w) {t d:TypeId} {x:Operand} {x':Opd} (hx:Q7 x x'=true) (ht:P.underlying t=some (.slice d)) (hd:(P.info? d).isSome=true)
  {v:AV} {e:Eff} (hs:Ql Gl tm H na (.sliceZ x')=some (v,e)) {o:Oper} (ho:o.op = .slice t x none (some (.const (.int .i64 0))) (some (.const (.int .i64 0)))):Vo θ H w na v e ((execOp a.eval o).run P w):=by
 simp only [Ql] at hs;have hrx:=Qj hT hx;obtain ⟨ti,hti⟩:=Option.isSome_iff_exists.1 hd;have hc0:a.eval (.const (.int .i64 0)) = .int .i64 0:=rfl
 have run:∀ (ad:Option Addr) (len cap:Nat),a.eval x = .slice ad len cap->(execOp a.eval o).run P w = .ok (.value (.slice ad 0 0)) w:=by
  intro ad len cap hax;simp [execOp,ho,hax,hc0,Instr.sliceAt,Instr.slice,Instr.sliceBounds,Instr.sliceBound,run_underlying ht,Result.andThen,asIntOf,sizeOf,typeInfo,hti]
 have fin:∀ (ad:Option Addr) (len cap:Nat),a.eval x = .slice ad len cap->Vo θ H w na (.p .slice0) {} ((execOp a.eval o).run P w):=fun ad len cap h=>Q4 hH (run ad len cap h) (.p _ _ (.slice0 ad));generalize Q1 tm x'=vx at hs hrx
 split at hs<;>try (cases hs;done)
 all_goals
  simp only [Qd,Ld,Lf] at hs;obtain ⟨rfl,rfl⟩:=hs
 ·exact fin _ _ _ (X9 hrx)
 ·obtain ⟨ad,h⟩:=Q1w hrx;exact fin _ _ _ h
 ·generalize hax:a.eval x=ax at hrx
  cases hrx with
  | p _ _ hp=>
   cases hp with
   | sliceE _ ad cap _=>exact fin _ _ _ hax
   | slice _ rows blk off cap val he hrl hcap hS hc hone hv=>exact fin _ _ _ hax
 generalize hax:a.eval x=ax at hrx
 cases hrx with
 | slice _ _ _ _ cap lc addr hθ he hlen hsz hadr=>exact fin _ _ _ hax
 | sliceN _ _ _ _=>exact fin _ _ _ hax
theorem Qq2 (hT:TmOk θ (Qe θ H) w tm a) (hH:Hp θ H w) {op:BinOp} {neg:Bool} {t d yt:TypeId} {x:Operand} {x':Opd} (hop:(op = .eql∧neg=false)∨(op = .neq∧neg=true)) (hx:Q7 x x'=true) (ht:P.underlying t=some (.slice d))
  {v:AV} {e:Eff} (hs:Ql Gl tm H na (.eqN neg x')=some (v,e)) {o:Oper} (ho:o.op = .binOp op t x (.const (.slice none 0 0)) yt):Vo θ H w na v e ((execOp a.eval o).run P w):=by
 simp only [Ql] at hs;have hrx:=Qj hT hx;have hc0:a.eval (.const (.slice none 0 0)) = .slice none 0 0:=rfl
 have run:∀ (ad:Option Addr) (len cap:Nat),a.eval x = .slice ad len cap->(execOp a.eval o).run P w = .ok (.value (.bool (if neg then !ad.isNone else ad.isNone))) w:=by
  intro ad len cap hax
  rcases hop with ⟨rfl,rfl⟩ | ⟨rfl,rfl⟩
  ·have hb:binOp .eql t (.slice ad len cap) (.slice none 0 0)=(do pure (.bool (← Op.equal t (.slice ad len cap) (.slice none 0 0)))):=by simp only [binOp]
   simp [execOp,ho,hax,hc0,eqGuard,hb,run_equal_slice_nil w t d ad len cap ht,Result.andThen]
  simp [execOp,ho,hax,hc0,eqGuard,run_neq_slice_nil w t d ad len cap ht,Result.andThen]
 have fin:∀ (ad:Option Addr) (len cap:Nat),a.eval x = .slice ad len cap->Vo θ H w na (.p (.bool (if neg then !ad.isNone else ad.isNone))) {} ((execOp a.eval o).run P w):=fun ad len cap h=>Q4 hH (run ad len cap h) (Xb _);generalize Q1 tm x'=vx at hs hrx
 split at hs<;>try (cases hs;done)
 ·simp only [Qd,Ld,Lf] at hs;obtain ⟨rfl,rfl⟩:=hs;have:=fin _ _ _ (X9 hrx);cases neg<;>exact this
 ·simp only [Qd,Ld,Lf] at hs;obtain ⟨rfl,rfl⟩:=hs;generalize hax:a.eval x=ax at hrx
  cases hrx with
  | p _ _ hp=>
   cases hp with
   | sliceS ad cap=>
    have:=fin _ _ _ hax;cases neg<;>exact this
 ·split at hs
  ·rename_i es rows hr;simp only [Qd,Ld,Lf] at hs;obtain ⟨rfl,rfl⟩:=hs;generalize hax:a.eval x=ax at hrx
   cases hrx with
   | p _ _ hp=>
    cases hp with
    | sliceE _ ad cap _=>simp at hr
    | slice _ rows blk off cap val he hrl hcap hS hc hone hv=>
     have:=fin _ _ _ hax;cases neg<;>exact this
  cases hs
 split at hs
 ·rename_i es b off len hl;simp only [Qd,Ld,Lf] at hs;obtain ⟨rfl,rfl⟩:=hs;generalize hax:a.eval x=ax at hrx
  cases hrx with
  | slice _ _ _ _ cap lc addr hθ he hlen hsz hadr=>
   have:=fin _ _ _ hax;cases neg<;>exact this
  | sliceN _ _ _ _=>omega
 cases hs
theorem Qlc (fn:Func) (h:fn.name = "internal/bytealg.CountString") (ho:fn.origin = ""):Extern.findNext fn=none∧Extern.find fn=some Extern.BytealgCount.count:=by
 constructor
 ·unfold Extern.findNext;rw [h,ho]
  have h1:Extern.allNextRows.lookup "internal/bytealg.CountString" = none:=by kernel_rfl
  have h2:Extern.allNextRows.lookup "" = none:=by kernel_rfl
  simp only [h1,h2];rfl
 unfold Extern.find;rw [h,ho]
 have h1:Extern.allGenericRows.lookup "internal/bytealg.CountString" = none:=by kernel_rfl
 have h2:Extern.allTypedRows.lookup "internal/bytealg.CountString" = none:=by kernel_rfl
 have h3:Extern.allRows.lookup "internal/bytealg.CountString" = some Extern.BytealgCount.count:=by kernel_rfl
 simp only [h1,h2,h3];rfl
theorem Qfx (c:UInt8):∀ (l:List UInt8) (n:Nat),Qac l c n=n+Lib.countByte l c
 | [],n=>by simp [Qac,Lib.countByte]
 | b::l,n=>by
  unfold Qac
  by_cases h:b == c
  ·rw [Af h,Qfx c l (n+1)];simp [Lib.countByte,List.count_cons,h];omega
  rw [Ae h,Qfx c l n];simp [Lib.countByte,List.count_cons,h]
theorem Qk5 (hT:TmOk θ (Qe θ H) w tm a) (hH:Hp θ H w) {c:Call} {g:Nat} {fn:Func} {x' y':Opd} (hcal:c.callee = .value (.func g)) (hfn:P.funcs[g]? = some fn) (hn:fn.name = "internal/bytealg.CountString") (ho':fn.origin = "") (hb:fn.body.isNone=true)
  (hx:Qt c.args.toList [x',y']=true) {v:AV} {e:Eff} (hs:Ql Gl tm H na (.extCt x' y')=some (v,e)) {o:Oper} (ho:o.op = .call c):Vo θ H w na v e ((execOp a.eval o).run P w):=by
 obtain ⟨x,y,hargs,hrx,hry⟩:=Q2l hT hx;have hargs:=Q1f hargs;simp only [Ql] at hs;generalize Q1 tm x'=vx at hs hrx;generalize Q1 tm y'=vy at hs hry;split at hs
 ·rename_i s i n;split at hs
  ·rename_i hi
   have hi:i = .u8:=by simpa using hi
   subst hi;simp only [Qd,Ld,Lf] at hs;obtain ⟨rfl,rfl⟩:=hs;have e2:=Vu hry
   have e1:a.eval x = .string ⟨⟨s⟩⟩:=by
    generalize a.eval x=ax at hrx
    cases hrx with
    | p _ _ h=>cases h;rfl
   obtain ⟨f1,f2⟩:=Qlc fn hn ho'
   have hN:(fn.name == "runtime.NumGoroutine")=false:=by rw [hn];decide
   have hrun:=run_callFunc_extern hfn hN hb f1 f2 #[.string ⟨⟨s⟩⟩,.int .u8 n] w;rw [Lib.run_countString] at hrun;refine Q4 hH (cv := .int .i64 (Lib.countByte s (UInt8.ofNat n.toNat):Nat)) ?_ ?_
   ·have hf:a.eval (.func g) = .func (.func g) #[] #[]:=rfl;simp [execOp,ho,resolve,hcal,hargs,hf,Deferred.ofValue,invoke,e1,e2];simpa [Result.andThen] using hrun
   rw [Qfx,Lv];exact .p _ _ (.int _ _)
  cases hs
 cases hs
theorem Qg8 (hT:TmOk θ (Qe θ H) w tm a) (hH:Hp θ H w) {s d:TypeId} {i:IntKind} (hs0:P.underlying s=some (.int i)) (hd:P.underlying d=some .string) {x:Operand} {x':Opd} (hx:Q7 x x'=true)
  {v:AV} {e:Eff} (hs:Ql Gl tm H na (.runeStr x')=some (v,e)) {o:Oper} (ho:o.op = .convert s d x):Vo θ H w na v e ((execOp a.eval o).run P w):=by
 simp only [Ql] at hs;have hrx:=Qj hT hx;generalize Q1 tm x'=vx at hs hrx;split at hs
 ·rename_i kk n;simp only [Qd,Ld,Lf] at hs;obtain ⟨rfl,rfl⟩:=hs;have e1:=Vu hrx
  have hc:(convert s d (.int kk n)).run P w = .ok (.string (Utf8.encode n)) w:=by
   unfold convert;simp [run_underlying hs0,run_underlying hd,Conv.intToString,Result.andThen]
  have e2:(Utf8.encode n)=⟨⟨(Utf8.encode n).data.toList⟩⟩:=rfl;refine Q4 (cv := .string (Utf8.encode n)) hH (by simp [execOp,ho,e1,hc,Result.andThen]) ?_;exact .p _ _ (.str _)
 cases hs
theorem Qfy (hT:TmOk θ (Qe θ H) w tm a) (hH:Hp θ H w) {t:TypeId} {d:TypeDesc} (ht:P.underlying t=some d) (hd:∀ ms,d ≠ .interface ms) {x:Operand} {x':Opd} (hx:Q7 x x'=true)
  {v:AV} {e:Eff} (hs:Ql Gl tm H na (.mkIface t x')=some (v,e)) {o:Oper} (ho:o.op = .makeInterface t x):Vo θ H w na v e ((execOp a.eval o).run P w):=by
 simp only [Ql,Qd,Ld,Lf] at hs;obtain ⟨rfl,rfl⟩:=hs;refine Q4 (cv := .iface t (a.eval x)) hH ?_ (.iface t _ _ (Qj hT hx))
 have:(Instr.makeInterface t (a.eval x)).run P w = .ok (.iface t (a.eval x)) w:=by
  unfold Instr.makeInterface;simp only [Sem.run_bind,run_underlying ht,Result.andThen]
  cases d<;>first | rfl | exact absurd rfl (hd _)
 simp [execOp,ho,this,Result.andThen]
theorem Qdz {θ:Th} {S:Nat->Prop} {w:World} {v u:AV} {cv cu:Value} (h1:RelV θ S w v cv) (h2:RelV θ S w u cu):RelV θ S w (.tuple [v,u]) (.tuple #[cv,cu]):=
 .tuple _ _ rfl fun i x hi=>by
  match i with
  | 0=>simp at hi;subst hi;exact h1
  | 1=>simp at hi;subst hi;exact h2
  | i+2=>simp at hi
theorem Qjs (hT:TmOk θ (Qe θ H) w tm a) (hH:Hp θ H w) {t xt:TypeId} {d:TypeDesc} (ht:P.underlying t=some d) (hd:∀ ms,d ≠ .interface ms) {z:List PV} {agg ok:Bool} (hz:Q7h P t z agg=true) {x:Operand} {x':Opd} (hx:Q7 x x'=true)
  {v:AV} {e:Eff} (hs:Ql Gl tm H na (.asserT t z agg ok x')=some (v,e)) {o:Oper} (ho:o.op = .typeAssert x xt t ok):Vo θ H w na v e ((execOp a.eval o).run P w):=by
 simp only [Ql] at hs;have hrx:=Qj hT hx;generalize Q1 tm x'=vx at hs hrx
 have key:∀ (u:TypeId) (q:AV) (cq:Value),a.eval x = .iface u cq->RelV θ (Qe θ H) w q cq ->
   (if u=t then Qd (if ok then .tuple [q,.p (.bool true)] else q) else if ok=true then (sOf agg (z.map .p)).bind fun z=>Qd (.tuple [z,.p (.bool false)]) else none)=some (v,e)->Vo θ H w na v e ((execOp a.eval o).run P w):=by
  intro u q cq hax hq hs
  by_cases hu:u=t
  ·subst hu;rw [Af rfl] at hs;simp only [Qd,Ld,Lf] at hs;obtain ⟨rfl,rfl⟩:=hs
   have run:(Instr.typeAssert (.iface u cq) xt u ok).run P w = .ok (if ok then .tuple #[cq,.bool true] else cq) w:=by
    unfold Instr.typeAssert;simp only [Sem.run_bind,run_underlying ht,Result.andThen]
    cases d<;>first | (cases ok<;>simp) | exact absurd rfl (hd _)
   refine Q4 (cv:=if ok then .tuple #[cq,.bool true] else cq) hH (by simp [execOp,ho,hax,run,Result.andThen]) ?_;cases ok
   ·exact hq
   exact Qdz hq (Xb _)
  rw [Ae hu] at hs
  cases ok with
  | false=>simp at hs
  | true=>
   simp only [Ak] at hs;obtain ⟨zv,h1,h2⟩:=Lx.1 hs;simp only [Qd,Ld,Lf] at h2;obtain ⟨rfl,rfl⟩:=h2;obtain ⟨cz,h3,h4⟩:=Q5p (θ := θ) (S:=Qe θ H) (w:=w) hz h1
   have run:(Instr.typeAssert (.iface u cq) xt t true).run P w = .ok (.tuple #[cz,.bool false]) w:=by
    unfold Instr.typeAssert;simp only [Sem.run_bind,run_underlying ht,Result.andThen]
    cases d<;>first | (simp [hu,h3,Result.andThen];done) | exact absurd rfl (hd _)
   exact Q4 (cv := .tuple #[cz,.bool false]) hH (by simp [execOp,ho,hax,run,Result.andThen]) (Qdz h4 (Xb _))
 generalize hax:a.eval x=ax at hrx;split at hs
 ·cases hrx with
  | iface _ _ cq hq=>exact key _ _ _ hax hq hs
 ·cases hrx with
  | p _ _ hp=>
   cases hp with
   | iface _ _ cq hq=>exact key _ _ _ hax (.p _ _ hq) hs
 cases hs
theorem Qnr {t u:TypeId} {q:Value} {ms:Array (String×TypeId)} (h:P.underlying t=some (.interface ms)) (n:Nat):(Op.equalIn (n+1) t (.iface u q) .nilIface).run P w = .ok false w:=by
 simp [Op.equalIn,run_underlying h]
theorem Qnc {t:TypeId} {ms:Array (String×TypeId)} (h:P.underlying t=some (.interface ms)) (n:Nat):(Op.equalIn (n+1) t .nilIface .nilIface).run P w = .ok true w:=by
 simp [Op.equalIn,run_underlying h]
theorem Qnw {t:TypeId} {f:Fn} {A B:Array Value} {ps rs:Array TypeId} {va:Bool} (h:P.underlying t=some (.func ps rs va)) (n:Nat):(Op.equalIn (n+1) t (.func f A B) .nilFunc).run P w = .ok false w:=by
 simp [Op.equalIn,run_underlying h]
theorem Qnj {t:TypeId} {ps rs:Array TypeId} {va:Bool} (h:P.underlying t=some (.func ps rs va)) (n:Nat):(Op.equalIn (n+1) t .nilFunc .nilFunc).run P w = .ok true w:=by
 simp [Op.equalIn,run_underlying h]
theorem Q4n {op:BinOp} {neg:Bool} {t:TypeId} {x y:Value} {b:Bool} (hop:(op = .eql∧neg=false)∨(op = .neq∧neg=true)) (h1:binOp .eql t x y=(do pure (.bool (← Op.equal t x y)))) (h2:binOp .neq t x y=(do pure (.bool (!(← Op.equal t x y)))))
  (h:(Op.equalIn (9999+1) t x y).run P w = .ok b w):(binOp op t x y).run P w = .ok (.bool (if neg then !b else b)) w:=by
 have h':(Op.equal t x y).run P w = .ok b w:=h
 rcases hop with ⟨rfl,rfl⟩ | ⟨rfl,rfl⟩
 ·rw [h1];simp [h',Result.andThen]
 rw [h2];simp [h',Result.andThen]
theorem Qqd (hT:TmOk θ (Qe θ H) w tm a) (hH:Hp θ H w) {op:BinOp} {neg:Bool} {t yt:TypeId} {ms:Array (String×TypeId)} {x:Operand} {x':Opd} (hop:(op = .eql∧neg=false)∨(op = .neq∧neg=true)) (hx:Q7 x x'=true) (ht:P.underlying t=some (.interface ms))
  {v:AV} {e:Eff} (hs:Ql Gl tm H na (.eqI neg x')=some (v,e)) {o:Oper} (ho:o.op = .binOp op t x (.const .nilIface) yt):Vo θ H w na v e ((execOp a.eval o).run P w):=by
 simp only [Ql] at hs;have hrx:=Qj hT hx;have hc0:a.eval (.const .nilIface) = .nilIface:=rfl
 have k1:∀ u q,a.eval x = .iface u q->v = .p (.bool neg)->e = {}->Vo θ H w na v e ((execOp a.eval o).run P w):=by
  intro u q hax h1 h2;subst h1 h2;refine Q4 hH ?_ (Xb _);have hb:=Q4n (P:=P) (w:=w) hop rfl rfl (Qnr (u:=u) (q:=q) ht 9999)
  have hg:eqGuard op t x (.const .nilIface) (.iface u q) .nilIface=pure ():=by cases op<;>rfl
  simp only [execOp,ho,hax,hc0,hg,Sem.run_bind,Sem.run_pure,Result.andThen,hb];cases neg<;>rfl
 have k2:a.eval x = .nilIface->v = .p (.bool (!neg))->e = {}->Vo θ H w na v e ((execOp a.eval o).run P w):=by
  intro hax h1 h2;subst h1 h2;refine Q4 hH ?_ (Xb _);have hb:=Q4n (P:=P) (w:=w) hop rfl rfl (Qnc ht 9999);have hg:eqGuard op t x (.const .nilIface) .nilIface .nilIface=pure ():=eqGuard_nil_constR _ _ _ _;simp only [execOp,ho,hax,hc0,hg,Sem.run_bind,Sem.run_pure,Result.andThen,hb];cases neg<;>rfl
 generalize Q1 tm x'=vx at hs hrx;generalize hax:a.eval x=ax at hrx;split at hs
 ·simp only [Qd,Ld,Lf] at hs
  cases hrx with
  | iface _ _ cq hq=>exact k1 _ _ hax hs.1.symm hs.2.symm
 ·simp only [Qd,Ld,Lf] at hs
  cases hrx with
  | p _ _ hp=>
   cases hp with
   | iface _ _ cq hq=>exact k1 _ _ hax hs.1.symm hs.2.symm
 ·simp only [Qd,Ld,Lf] at hs
  cases hrx with
  | p _ _ hp=>
   cases hp with
   | nilIface=>exact k2 hax hs.1.symm hs.2.symm
 cases hs
theorem Qp5 (hT:TmOk θ (Qe θ H) w tm a) (hH:Hp θ H w) {op:BinOp} {neg:Bool} {t yt:TypeId} {ps rs:Array TypeId} {va:Bool} {x:Operand} {x':Opd} (hop:(op = .eql∧neg=false)∨(op = .neq∧neg=true)) (hx:Q7 x x'=true) (ht:P.underlying t=some (.func ps rs va))
  {v:AV} {e:Eff} (hs:Ql Gl tm H na (.eqF neg x')=some (v,e)) {o:Oper} (ho:o.op = .binOp op t x (.const .nilFunc) yt):Vo θ H w na v e ((execOp a.eval o).run P w):=by
 simp only [Ql] at hs;have hrx:=Qj hT hx;have hc0:a.eval (.const .nilFunc) = .nilFunc:=rfl
 have k1:∀ f A B,a.eval x = .func f A B->v = .p (.bool neg)->e = {}->Vo θ H w na v e ((execOp a.eval o).run P w):=by
  intro f A B hax h1 h2;subst h1 h2;refine Q4 hH ?_ (Xb _);have hb:=Q4n (P:=P) (w:=w) hop rfl rfl (Qnw (f:=f) (A:=A) (B:=B) ht 9999)
  have hg:eqGuard op t x (.const .nilFunc) (.func f A B) .nilFunc=pure ():=by cases op<;>rfl
  simp only [execOp,ho,hax,hc0,hg,Sem.run_bind,Sem.run_pure,Result.andThen,hb];cases neg<;>rfl
 have k2:a.eval x = .nilFunc->v = .p (.bool (!neg))->e = {}->Vo θ H w na v e ((execOp a.eval o).run P w):=by
  intro hax h1 h2;subst h1 h2;refine Q4 hH ?_ (Xb _);have hb:=Q4n (P:=P) (w:=w) hop rfl rfl (Qnj ht 9999)
  have hg:eqGuard op t x (.const .nilFunc) .nilFunc .nilFunc=pure ():=by cases op<;>rfl
  simp only [execOp,ho,hax,hc0,hg,Sem.run_bind,Sem.run_pure,Result.andThen,hb];cases neg<;>rfl
 generalize Q1 tm x'=vx at hs hrx;generalize hax:a.eval x=ax at hrx;split at hs
 ·simp only [Qd,Ld,Lf] at hs
  cases hrx with
  | func _ _ _ A B hA hB hav hbv=>exact k1 _ _ _ hax hs.1.symm hs.2.symm
 ·simp only [Qd,Ld,Lf] at hs
  cases hrx with
  | p _ _ hp=>
   cases hp with
   | func _ _ _ A B hA hB hav hbv=>exact k1 _ _ _ hax hs.1.symm hs.2.symm
 ·simp only [Qd,Ld,Lf] at hs
  cases hrx with
  | p _ _ hp=>
   cases hp with
   | nilFunc=>exact k2 hax hs.1.symm hs.2.symm
 cases hs
theorem Qev {r:Result Next} {w':World} {v:AV} {cv:Value} (hH:Hp θ H w) {b:Nat} {o o':AObj} {l:Loc} (hb:H[b]? = some o) (hlive:o.live=true) (hl : θ b=some l) (hr:r = .ok (.value cv) w')
  (hv:RelV θ (Qe θ (H.set b o')) w' v cv) (hsz:w'.heap.size=w.heap.size) (hsame:∀ c,c≠l.blk->w'.heap[c]? = w.heap[c]?) (hos:w'.os=w.os) (ht:w'.tape=w.tape) (hout:w'.output=w.output)
  (ho:∀ (S':Nat->Prop),(∀ c,Qe θ (H.set b o') c->S' c)->(∀ c,c<w.heap.size->Qe θ H c->S' c∧w'.heap[c]? = w.heap[c]?)->RelObj θ S' w' o' l)
  (hob:∀ c,o.occ l c↔l.blk=c:=by intro c;exact Iff.rfl) (hoc:o'.live=true->∀ l c,o'.occ l c->o.occ l c:=by intro h l c e;first | exact e | cases h):Vo θ H w na v { set:=some (b,o') } r:=by
 obtain ⟨h1,h2⟩:=Qdh (o':=o') hH hb hlive hl w' hsz hsame hos ht hout hob hoc;exact ⟨cv,w',θ,.inl hr,hv,h1 (ho _ (fun c h=>h) (fun c hc hf=>h2.free c hc hf)),h2,fun _ _=>rfl,fun _=>rfl⟩
theorem Qp9 (hT:TmOk θ (Qe θ H) w tm a) (hH:Hp θ H w) {c:Call} {t kt et:TypeId} (hcal:c.callee = .builtin .delete) {m' k':Opd} (hx:Qt c.args.toList [m',k']=true) (hty:c.argTypes[0]? = some t)
  (ht:P.underlying t=some (.map kt et)) {kk:Nat} {d:TypeDesc} (hd:P.underlying kt=some d) (hk:We (some d) kk=true)
  {v:AV} {e:Eff} (hs:Ql Gl tm H na (.del kk m' k')=some (v,e)) {o:Oper} (ho:o.op = .call c):Vo θ H w na v e ((execOp a.eval o).run P w):=by
 obtain ⟨m,k,hargs,hrm,hrk⟩:=Q2l hT hx;have hargs:=Q1f hargs;simp only [Ql] at hs;generalize Q1 tm m'=vm at hs hrm;generalize Q1 tm k'=vk at hs hrk;generalize hak:a.eval k=ck at hrk;generalize ham:a.eval m=cm at hrm;split at hs
 ·rename_i r ke
  cases hb:H[r]? with
  | none=>simp only [hb] at hs;cases hs
  | some ob=>
   cases ob with
   | map es=>
    simp only [hb] at hs;split at hs
    ·cases hs
    rename_i hki
    have hki:Jg kk ke=true:=by simpa using hki
    obtain ⟨l,E,clock,hl,rfl,hE,hn,hbo,hrel⟩:=Qlt hH hrm hb
    have hrk:RelP (Qe θ H) w ke ck:=by cases hrk with | p _ _ h=>exact h
    have hrunE:∀ w',(Builtin.delete_ c.argTypes o.type #[.map (some l.blk),ck]).run P w = .ok (.tuple #[]) w'->(execOp a.eval o).run P w = .ok (.value (.tuple #[])) w':=by
     intro w' hr;simp [execOp,ho,resolve,hcal,hargs,invoke,builtin,ham,hak,hr,Result.andThen]
    cases hf:V4 ke 0 es with
    | none=>simp only [hf] at hs;cases hs
    | some res=>
     have hfind:=Q22 (θ := θ) hk hki hrk es E.toList 0 (by simpa using hn) (fun j k v hj=>by
      have:=hrel j k v hj;rw [Q7s] at this
      exact this) res hf
     rcases hfind with ⟨rfl,hnow⟩ | ⟨j,v0,e0,rfl,hnow,hj,hv0,hsame⟩
     ·simp only [hf,Ld,Lf] at hs;obtain ⟨rfl,rfl⟩:=hs
      have hrun:(Builtin.delete_ c.argTypes o.type #[.map (some l.blk),ck]).run P w = .ok (.tuple #[]) { w with heap:=w.heap.setIfInBounds l.blk (.map E clock) }:=by
       simp [Builtin.delete_,hty,run_underlying ht,MapKept.run_getObj_map hE,Xn hd hk,MapKept.run_findKey hd hnow,MapKept.run_setObj_map _ hE,Result.andThen]
      refine Qev (w' := { w with heap:=w.heap.setIfInBounds l.blk (.map E clock) }) hH hb rfl hl (hrunE _ hrun) J0 (by simp) (fun c hc=>by simp [Ne.symm hc]) rfl rfl rfl (fun S' h1 h2=>?_);have hm:∀ {x:AV} {v:Value},RelV θ (Qe θ H) w x v->RelV θ S' _ x v:=fun r=>r.mono (fun _ _ e=>e) h2;have hmp:∀ {x:PV} {v:Value},RelP (Qe θ H) w x v->RelP S' _ x v:=fun r=>r.mono h2;exact ⟨E,clock,by simp [Q0t hE],hn,hbo,fun i k v hi=>⟨hmp (hrel i k v hi).1,hm (hrel i k v hi).2⟩⟩
     simp only [hf,Ld,Lf] at hs;obtain ⟨rfl,rfl⟩:=hs;simp only [Lv] at hnow ⊢
     have hj':E[j]? = some e0:=by simpa using hj
     have hjl:j<E.size:=(Ls.1 hj').1
     have hrun:(Builtin.delete_ c.argTypes o.type #[.map (some l.blk),ck]).run P w = .ok (.tuple #[]) { w with heap:=w.heap.setIfInBounds l.blk (.map (E.eraseIdxIfInBounds j) clock) }:=by
      simp [Builtin.delete_,hty,run_underlying ht,MapKept.run_getObj_map hE,Xn hd hk,MapKept.run_findKey hd hnow,MapKept.run_setObj_map _ hE,Result.andThen]
     refine Qev (w' := { w with heap:=w.heap.setIfInBounds l.blk (.map (E.eraseIdxIfInBounds j) clock) }) hH hb rfl hl (hrunE _ hrun) J0 (by simp) (fun c hc=>by simp [Ne.symm hc]) rfl rfl rfl (fun S' h1 h2=>?_);have hm:∀ {x:AV} {v:Value},RelV θ (Qe θ H) w x v->RelV θ S' _ x v:=fun r=>r.mono (fun _ _ e=>e) h2;have hmp:∀ {x:PV} {v:Value},RelP (Qe θ H) w x v->RelP S' _ x v:=fun r=>r.mono h2
     have hget:∀ i,(E.eraseIdxIfInBounds j).getD i default=E.getD (if i<j then i else i+1) default:=by
      intro i;rw [Q7s,Q7s];simp only [Array.eraseIdxIfInBounds,hjl,dif_pos,Bu,Le,Bt]
      by_cases hij:i<j<;>simp [hij]
     refine ⟨E.eraseIdxIfInBounds j,clock,by simp [Q0t hE],by rw [Array.eraseIdxIfInBounds,dif_pos hjl,Array.size_eraseIdx,Nv,Af (by omega),hn],hbo.erase _,fun i k v hi=>?_⟩;rw [hget];rw [Bt] at hi
     by_cases hij:i<j
     ·rw [Af hij] at hi ⊢;exact ⟨hmp (hrel i k v hi).1,hm (hrel i k v hi).2⟩
     rw [Ae hij] at hi ⊢;exact ⟨hmp (hrel _ k v hi).1,hm (hrel _ k v hi).2⟩
   | cells _=>simp only [hb] at hs;cases hs
   | strIter _ _=>simp only [hb] at hs;cases hs
   | dead=>simp only [hb] at hs;cases hs
   | ext _ _=>simp only [hb] at hs;cases hs
 cases hs
theorem Qhg (hT:TmOk θ (Qe θ H) w tm a) (hH:Hp θ H w) (hG:GlobOK Gl θ H w) (hna:AlOk θ H na) {o:Oper} {c:COp} (hk:Q1t P o.op c=true) (hc:c.isCall=false) {v:AV} {e:Eff}
  (hs:Ql Gl tm H na c=some (v,e)):Vo θ H w na v e ((execOp a.eval o).run P w):=by
 obtain ⟨dst,op,ty,pos,aft,gd⟩:=o
 simp only at hk
 unfold Q1t at hk;split at hk
 ·exact Qhp hT hH hk hs (.inl rfl)
 ·exact Qhp hT hH hk hs (.inr rfl)
 ·simp only [Lb] at hk;exact Qny hT hH hk.1.1 hk.1.2 hk.2 hs rfl
 ·exact Qlg hH hna hk hs rfl
 ·exact Qq1 hT hH hna hk hs rfl
 ·simp only [Lb] at hk;obtain ⟨h1,h2⟩:=hk;refine Qlp hT hH h1 ?_ hs rfl;split at h2
  ·rename_i fs hu;simp only [Lb] at h2
   exact .inl ⟨fs,hu,fun f hf=>by
    obtain ⟨i,hi,rfl⟩:=Array.mem_iff_getElem.1 hf;have:=h2.1;simp at this
    exact this i hi,h2.2⟩
  ·rename_i n el hu;simp only [Lb] at h2;exact .inr ⟨n,el,hu,h2.1,h2.2⟩
  cases h2
 ·split at hk
  ·rename_i el hu;simp only [Lb,Aj,Ag] at hk;obtain ⟨⟨⟨⟨⟨⟨h1,h2⟩,h3⟩,h4⟩,h5⟩,h6⟩,h7⟩:=hk;subst h5;exact Qb6 hT hH hna hu h1 h2 h3 h4 (by simpa using h6) h7 hs rfl
  cases hk
 ·simp only [Lb] at hk;exact Qmm hT hH hG hk.1.1 hk.1.2 hk.2 hs rfl
 ·simp only [Lb] at hk;exact Ql1 hT hH hk.1.1 hk.1.2 hk.2 hs rfl
 ·exact Qei hT hH hk hs rfl
 ·simp only [Lb] at hk;exact Qqi hT hH hk.1.1 hk.1.2 hk.2 hs rfl
 ·simp only [Lb] at hk;exact Qq9 hT hH hk.1.1 hk.1.2 hk.2 hs rfl
 ·simp only [Lb] at hk;obtain ⟨⟨⟨h1,h2⟩,h3⟩,h4⟩:=hk;split at h4
  ·rename_i hu;refine Qqq hT hH ?_ h2 h3 hu hs rfl;split at h1
   ·exact .inl ⟨rfl,by simpa using h1⟩
   ·exact .inr ⟨rfl,h1⟩
   cases h1
  cases h4
 ·simp only [Lb] at hk;obtain ⟨⟨⟨h1,h2⟩,h3⟩,h4⟩:=hk;split at h4
  ·rename_i d hu;refine Qpc hT hH ?_ h2 h3 hu hs rfl;split at h1
   ·exact .inl ⟨rfl,by simpa using h1⟩
   ·exact .inr ⟨rfl,h1⟩
   cases h1
  cases h4
 ·simp only [Lb] at hk;exact Qeg hT hH (.inl ⟨rfl,rfl⟩) hk.1.2 hk.2 hk.1.1 hs rfl
 ·simp only [Lb] at hk;exact Qeg hT hH (.inr ⟨rfl,rfl⟩) hk.1.2 hk.2 hk.1.1 hs rfl
 ·exact Qpv hT hH hk hs rfl
 ·exact Qqz hT hH hk hs rfl
 ·simp only [Lb] at hk;obtain ⟨h1,h2⟩:=hk;split at h2
  ·rename_i j i hu1 hu2;simp only [Aj] at h2;subst h2;exact Qms hT hH hu1 hu2 h1 hs rfl
  cases h2
 ·simp only [Lb] at hk;obtain ⟨h1,h2⟩:=hk;split at h2
  ·rename_i hu1 hu2;simp only [Ql] at hs;have hrx:=Qj hT h1;split at hs
   ·rename_i str hv;rw [hv] at hrx;simp only [Bc,Q4m,Nh,Lj,and_self,Ak,List.take_length,Bh,Qd,Ld,Lf] at hs;obtain ⟨rfl,rfl⟩:=hs;exact Q4 hH (by simp [execOp,Q3e hrx,convert,run_underlying hu1,run_underlying hu2,Result.andThen]) (.p _ _ (.str str))
   cases hs
  cases h2
 ·simp only [Lb] at hk;obtain ⟨h1,h2⟩:=hk;split at h2
  ·rename_i el hu1 hu2;split at h2
   ·rename_i hu3;exact Qge hT hH hna hu1 hu2 hu3 h1 hs rfl
   cases h2
  cases h2
 ·simp only [Lb] at hk;obtain ⟨h1,h2⟩:=hk;split at h2
  ·rename_i el hu1 hu2;split at h2
   ·rename_i hu3;exact Qkg hT hH hG hu1 hu2 hu3 h1 hs rfl
   cases h2
  cases h2
 ·simp only [Lb,Aj] at hk;obtain ⟨⟨h1,h2⟩,h3⟩:=hk;subst h1;exact Q7w hT hH h2 h3 hs rfl
 ·simp only [Lb,Aj] at hk;obtain ⟨⟨h1,h2⟩,h3⟩:=hk;subst h1;exact Q7w hT hH h2 h3 hs rfl
 ·exact Qg6 hH hna hs rfl
 ·simp only [Lb] at hk;obtain ⟨h1,h2⟩:=hk;split at h2
  ·rename_i hu;exact Qjl hT hH hna hu h1 hs rfl
  cases h2
 ·exact Qlf hT hH hk hs rfl
 ·simp only [Lb] at hk;obtain ⟨⟨⟨h1,h2⟩,h3⟩,h4⟩:=hk;split at h4
  ·rename_i kt et hu;obtain ⟨d,hd⟩:=Gi h4;rw [hd] at h4;exact Qc3 hT hH hu hd h4 h1 h2 h3 hs (.inl rfl)
  cases h4
 ·simp only [Lb] at hk;obtain ⟨⟨⟨h1,h2⟩,h3⟩,h4⟩:=hk;split at h4
  ·rename_i kt et hu;obtain ⟨d,hd⟩:=Gi h4;rw [hd] at h4;exact Qc3 hT hH hu hd h4 h1 h2 h3 hs (.inr rfl)
  cases h4
 ·simp only [Lb,Aj] at hk;obtain ⟨⟨⟨h1,h2⟩,h3⟩,h4⟩:=hk;subst h3;split at h4
  ·rename_i kt et hu;simp only [Lb] at h4;obtain ⟨h5,h7⟩:=h4;obtain ⟨d,hd⟩:=Gi h7;rw [hd] at h7;exact Qj2 hT hH hu hd h7 h5 h1 h2 hs rfl
  cases h4
 ·simp only [Lb] at hk;obtain ⟨⟨h1,h2⟩,h3⟩:=hk;split at h3
  ·rename_i el hu;simp only [Lb,Ag] at h3;exact Qd6 hT hH hna hu h3.1.1.1.1 h3.1.1.1.2 h3.1.1.2 h3.1.2 h3.2 h1 h2 hs rfl
  cases h3
 ·simp only [Lb] at hk;obtain ⟨⟨⟨h1,h2⟩,h3⟩,h4⟩:=hk;split at h4
  ·rename_i hu;exact Qeb hT hH h1 h2 h3 hu hs rfl
  cases h4
 ·simp only [Lb] at hk;obtain ⟨⟨⟨h1,h2⟩,h3⟩,h4⟩:=hk;split at h4
  ·rename_i el hu;exact Qkm hT hH h1 h2 h3 hu h4 hs rfl
  cases h4
 ·simp only [Lb] at hk;obtain ⟨⟨⟨h1,h2⟩,h3⟩,h4⟩:=hk;split at h4
  ·rename_i m el hu;simp only [Lb,Aj,Ag] at h4;obtain ⟨⟨rfl,h5⟩,h6⟩:=h4;exact Qe8 hT hH h1 h2 h3 hu h5 h6 hs rfl
  cases h4
 ·rename_i t x f x' off;simp only [Lb] at hk;obtain ⟨h1,h2⟩:=hk;split at h2
  ·rename_i fs hu
   cases hf:fs[f]? with
   | none=>rw [hf] at h2;simp at h2
   | some fd=>
    simp only [hf,Mj,Lb,Aj,Ag] at h2;obtain ⟨h3,h4⟩:=h2;subst h3;exact Qcl hT hH hu hf h4 h1 hs rfl
  cases h2
 ·rename_i t x f x' off n agg;simp only [Lb] at hk;obtain ⟨h1,h2⟩:=hk;split at h2
  ·rename_i fs hu
   cases hf:fs[f]? with
   | none=>rw [hf] at h2;simp at h2
   | some fd=>
    simp only [hf,Mj,Lb,Aj] at h2;obtain ⟨⟨h3,h4⟩,h5⟩:=h2;subst h3;exact Qla hT hH hu hf h4 h5 h1 hs rfl
  cases h2
 ·simp only [Lb] at hk;obtain ⟨⟨h1,h2⟩,h3⟩:=hk;split at h3
  ·rename_i el hu;exact Qcf hT hH hu h3 h1 h2 hs rfl
  cases h3
 ·simp only [Lb] at hk;obtain ⟨⟨h1,h2⟩,h3⟩:=hk;split at h3
  ·rename_i n el hu;simp only [Lb,Aj] at h3;obtain ⟨h4,h5⟩:=h3;subst h4;exact Qf3 hT hH hu h5 h1 h2 hs rfl
  cases h3
 ·simp only [Lb] at hk;obtain ⟨⟨h1,h2⟩,h3⟩:=hk;split at h3
  ·rename_i hu;exact Qez hT hH hu h1 h2 hs rfl
  cases h3
 ·simp only [Lb,Aj] at hk;obtain ⟨h1,h2⟩:=hk;subst h2;exact Qgt hT hH h1 hs rfl
 ·split at hk
  ·rename_i hcal;simp only [Lb] at hk;obtain ⟨h1,h2⟩:=hk;split at h2
   ·rename_i t hty;split at h2
    ·rename_i hu;exact Qit hT hH hcal h1 hty hu hs rfl
    cases h2
   cases h2
  cases hk
 ·split at hk
  ·rename_i hcal;simp only [Lb] at hk;obtain ⟨h1,h2⟩:=hk;split at h2
   ·rename_i t hty;split at h2
    ·rename_i hu;exact Qmb hT hH hcal h1 hty hu hs rfl
    cases h2
   cases h2
  cases hk
 ·split at hk
  ·rename_i hcal;simp only [Lb] at hk;obtain ⟨h1,h2⟩:=hk;split at h2
   ·rename_i t hty;split at h2
    ·rename_i hu;exact Qjh hT hH hcal h1 hty hu hs rfl
    cases h2
   cases h2
  cases hk
 ·rename_i esz bytes s x;split at hk
  ·rename_i hcal;simp only [Lb] at hk;obtain ⟨h1,h2⟩:=hk;split at h2
   ·rename_i t u hty;split at h2
    ·rename_i el hu;simp only [Lb,Ag] at h2;obtain ⟨⟨⟨⟨⟨h3,h4⟩,h5⟩,h6⟩,h7⟩,h8⟩:=h2;obtain ⟨i,hi,hsz⟩:=Q6x h3;have hby:=Q7v h4 hi;simp only [hi,Mj] at h7
     cases hz:i.zero with
     | none=>rw [hz] at h7;simp at h7
     | some z=>
      simp only [hz,Mj,Aj] at h7;refine Q71 hT hH hG hna hcal h1 hty hu hi hsz hby h5 h6 hz h7 ?_ hs rfl;split at h8
      ·exact .inl ⟨_,by assumption⟩
      ·exact .inr (by assumption)
      cases h8
    cases h2
   cases h2
  cases hk
 ·rename_i esz bytes s x;split at hk
  ·rename_i hcal;simp only [Lb] at hk;obtain ⟨h1,h2⟩:=hk;split at h2
   ·rename_i t u hty;split at h2
    ·rename_i el hu;simp only [Lb,Ag] at h2;obtain ⟨⟨⟨⟨⟨h3,h4⟩,h5⟩,h6⟩,h7⟩,h8⟩:=h2;obtain ⟨i,hi,hsz⟩:=Q6x h3;have hby:=Q7v h4 hi;simp only [hi,Mj] at h7
     cases hz:i.zero with
     | none=>rw [hz] at h7;simp at h7
     | some z=>
      simp only [hz,Mj,Aj] at h7;refine Qgr hT hH hG hna hcal h1 hty hu hi hsz hby h5 h6 hz h7 ?_ hs rfl;split at h8
      ·exact .inl ⟨_,by assumption⟩
      ·exact .inr (by assumption)
      cases h8
    cases h2
   cases h2
  cases hk
 ·split at hk
  ·rename_i hcal;simp only [Lb] at hk;obtain ⟨h1,h2⟩:=hk;split at h2
   ·rename_i t u hty;split at h2
    ·rename_i el hu;simp only [Lb] at h2;obtain ⟨h3,_⟩:=h2;obtain ⟨i,hi,hsz⟩:=Q6x h3;exact Qna hT hH hG hcal h1 hty hu hi hsz hs rfl
    cases h2
   cases h2
  cases hk
 ·split at hk
  ·rename_i hcal;exact Qqr hT hH hcal hk hs rfl
  cases hk
 ·split at hk
  ·rename_i hcal;exact Qp3 hT hH hcal hk hs rfl
  cases hk
 ·cases hc
 ·cases hc
 ·simp only [Lb] at hk;obtain ⟨⟨⟨⟨h1,h2⟩,h3⟩,h5⟩,h4⟩:=hk;split at h4
  ·rename_i el hu;exact Qjr hT hH h1 h2 h3 h5 hu h4 hs rfl
  cases h4
 ·simp only [Lb] at hk;obtain ⟨h1,h2⟩:=hk;split at h2
  ·rename_i d hu;simp only [Lb] at h2;exact Qiw hT hH h1 hu h2.2 hs rfl
  cases h2
 ·rename_i op _ _ _ _ _;simp only [Lb] at hk;obtain ⟨⟨h0,h1⟩,h2⟩:=hk;split at h2
  ·rename_i d hu;refine Qq2 hT hH ?_ h1 hu hs rfl;split at h0
   ·exact .inl ⟨rfl,by simpa using h0⟩
   ·exact .inr ⟨rfl,h0⟩
   cases h0
  cases h2
 ·split at hk
  ·rename_i hcal;rename_i c' g;simp only [Lb] at hk;obtain ⟨h1,h2⟩:=hk
   cases hfn:P.funcs[g]? with
   | none=>rw [hfn] at h1;simp at h1
   | some fn=>
    rw [hfn] at h1;simp only [Mj,Lb,Aj] at h1;exact Qk6 hT hH hcal hfn h1.1.1 h1.1.2 h1.2 h2 hs rfl
  cases hk
 ·simp only [Lb] at hk;obtain ⟨h1,h2⟩:=hk;split at h2
  ·rename_i u1 u2;exact Qg8 hT hH u1 u2 h1 hs rfl
  cases h2
 ·split at hk
  ·rename_i hcal;rename_i c' g;simp only [Lb] at hk;obtain ⟨h1,h2⟩:=hk
   cases hfn:P.funcs[g]? with
   | none=>rw [hfn] at h1;simp at h1
   | some fn=>
    rw [hfn] at h1;simp only [Mj,Lb,Aj] at h1;exact Qk5 hT hH hcal hfn h1.1.1 h1.1.2 h1.2 h2 hs rfl
  cases hk
 ·simp only [Lb,Aj] at hk;obtain ⟨⟨rfl,h1⟩,h2⟩:=hk;split at h2
  ·cases h2
  ·rename_i d hne hu;exact Qfy hT hH hu hne h1 hs rfl
  cases h2
 ·simp only [Lb,Aj] at hk;obtain ⟨⟨⟨⟨rfl,rfl⟩,h1⟩,hz⟩,h2⟩:=hk;split at h2
  ·cases h2
  ·rename_i d hne hu;exact Qjs hT hH hu hne hz h1 hs rfl
  cases h2
 ·split at hk
  ·rename_i hcal;simp only [Lb] at hk;obtain ⟨h1,h2⟩:=hk;split at h2
   ·rename_i t hty;split at h2
    ·rename_i kt et hu;obtain ⟨d,hd⟩:=Gi h2;rw [hd] at h2;exact Qp9 hT hH hcal h1 hty hu hd h2 hs rfl
    cases h2
   cases h2
  cases hk
 ·rename_i op _ _ _ _ _;simp only [Lb] at hk;obtain ⟨⟨h0,h1⟩,h2⟩:=hk;split at h2
  ·rename_i ms hu;refine Qqd hT hH ?_ h1 hu hs rfl;split at h0
   ·exact .inl ⟨rfl,by simpa using h0⟩
   ·exact .inr ⟨rfl,h0⟩
   cases h0
  cases h2
 ·rename_i op _ _ _ _ _;simp only [Lb] at hk;obtain ⟨⟨h0,h1⟩,h2⟩:=hk;split at h2
  ·rename_i ps rs va hu;refine Qp5 hT hH ?_ h1 hu hs rfl;split at h0
   ·exact .inl ⟨rfl,by simpa using h0⟩
   ·exact .inr ⟨rfl,h0⟩
   cases h0
  cases h2
 ·simp only [Ql] at hs;cases hs
 cases hk
end
end
end Go.Av
