/- Part of FromsnBack: the law returns true; no condition. -/
import Derived.Test.YthbmcbacbhfnmaaGreatDoorAvSims
import Derived.Lib.Bytealg
import Derived.Laws.Cover3
import Derived.KernelRfl
import Derived.Laws.BytesString
import Derived.Laws.StructEq
import Derived.MapKept
set_option linter.all false
namespace Go.Av
noncomputable section
set_option maxHeartbeats 4000000
section
variable {P:Program} {Gl:Nat->Option (List PV)} {θ:Th} {H:List AObj} {w:World} {a:Act} {tm:List AV} {na:Nat}

def Qow:∀ (cs:List AV) (s:List UInt8),Qvm cs=some s->∃ ns:List Int,cs=ns.map (fun n => .p (.int .u8 n))∧s=ns.map fun n=>UInt8.ofNat n.toNat
 | [],s,h=>by simp_all [Qvm]
 | c::cs,s,h=>by
  unfold Qvm at h;split at h
  ·simp_all
  ·rename_i n r heq;cases heq;rw [Mo] at h;obtain ⟨s',h1,rfl⟩:=h;obtain ⟨ns,rfl,rfl⟩:=Qow _ s' h1;exact ⟨n::ns,rfl,rfl⟩
  simp_all
def Z4t {θ:Th} {S:Nat->Prop} {w:World} {k:IntKind}:∀ (ns:List Int) (vs:List Value),RelVs θ S w (ns.map fun n => .p (.int k n)) vs->vs=ns.map (Value.int k):=by
 intro ns vs h;apply List.ext_getElem
 ·simpa using h.1
 intro i h1 h2
 have h3:i<ns.length:=by simp_all
 have:=h.2.2 i (.p (.int k ns[i])) (by simp)
 grind [Q3c]
def Qsp:∀ (ns:List Int) (l:List UInt8),ns.foldl (fun (r:ByteArray) n=>r.push (UInt8.ofNat n.toNat)) ⟨⟨l⟩⟩=⟨⟨l++ns.map fun n=>UInt8.ofNat n.toNat⟩⟩
 | [],l=>by simp
 | n::ns,l=>by
  simp only [List.foldl_cons,Mv]
  have:(⟨⟨l⟩⟩:ByteArray).push (UInt8.ofNat n.toNat)=⟨⟨l ++ [UInt8.ofNat n.toNat]⟩⟩:=by simp [ByteArray.push]
  rw [this,Qsp ns];simp
theorem Qyn (hT:TmOk θ (Qu θ H) w tm a) (hH:Hp θ H w) (hG:GlobOK Gl θ H w) {s d el:TypeId} (hsrc:P.underlying s=some (.slice el)) (hd:P.underlying d=some .string) (hel:P.underlying el=some (.int .u8)) {x:Operand} {x':Opd} (hx:Ql x x'=true)
  {v:AV} {e:Eff} (hs:step Gl tm H na (.strOf x')=some (v,e)) {o:Oper} (ho:o.op = .convert s d x):Q34 θ H w na v e ((execOp a.eval o).run P w):=by
 simp only [step] at hs;have hrx:=Ze hT hx;generalize Q9 tm x'=vx at hs hrx;split at hs
 ·rename_i es b off len;split at hs
  ·rename_i cs hb;obtain ⟨cs',h1,h2⟩:=Ls.1 hs;obtain ⟨str,h3,h4⟩:=Ls.1 h2;simp only [Qv,Lb,Lg] at h4;obtain ⟨rfl,rfl⟩:=h4;obtain ⟨rfl,hlen⟩:=Q5s h1;generalize hav:a.eval x=av at hrx
   cases hrx with
   | sliceN _ _ _ oa=>
    have e0:str = []:=by simp_all [Qvm]
    subst e0;refine Qk hH ?_ (.p _ _ (.str []))
    cases oa with
    | none=>
     simp only [execOp,ho,hav,Sem.run_bind,run_convert_bytes_string w s d el none 0 0 hsrc hel hd,Conv.bytesToString,Result.andThen,Sem.run_pure];rfl
    | some addr=>
     have hload:(loadCells addr 0).run P w = .ok (([]:List Int).map (Value.int .u8)).toArray w:=run_loadCells_list (P:=P) w addr [] (fun j u hj=>by simp_all);have:=run_bytesToString w addr 0 0 [] hload;simp only [execOp,ho,hav,Sem.run_bind,run_convert_bytes_string w s d el (some addr) 0 0 hsrc hel hd,this,Result.andThen,Sem.run_pure];rfl
   | slice _ _ _ _ cap l addr hl he hle hsz hadr=>
    have hcs:Q2q Gl H (.ptr b off)=some (cs.drop off):=by simp_all [Q2q]
    obtain ⟨ad,vs,hcv,hsp,hrel,hcell⟩:=Q5q (w:=w) (cv := .pointer (some ⟨l.blk,l.off+off,none⟩)) hH hG (.ptr b off l hl) hcs;cases hcv;have hrt:=hrel.take len;obtain ⟨ns,e1,e2⟩:=Qow _ _ h3;rw [e1] at hrt;have e3:=Z4t ns _ hrt
    have hl2:(vs.take len).length=len:=by simp_all
    have hload:(loadCells addr len).run P w = .ok (ns.map (Value.int .u8)).toArray w:=by grind [run_loadCells_list]
    refine Qk hH ?_ (.p _ _ (.str str));have:=run_bytesToString w addr len cap ns hload;simp only [execOp,ho,hav,Sem.run_bind,run_convert_bytes_string w s d el (some addr) len cap hsrc hel hd,this,Result.andThen,Sem.run_pure];rw [show ByteArray.empty=(⟨⟨[]⟩⟩:ByteArray) from rfl,Qsp,e2];rfl
  simp_all
 ·simp only [Qv,Lb,Lg] at hs;obtain ⟨rfl,rfl⟩:=hs;have e1:=Q06 hrx;refine Qk hH ?_ (.p _ _ (.str []));simp only [execOp,ho,e1,Sem.run_bind,run_convert_bytes_string w s d el none 0 0 hsrc hel hd,Conv.bytesToString,Result.andThen,Sem.run_pure];rfl
 simp_all
theorem Q6d {d:Option TypeDesc} {kk:Nat} (h:Q16 d kk=true):∃ e,d=some e:=by
 cases d<;>simp_all [Q16]
theorem Qqn (E:Array MapEntry) (j:Nat):E.getD j default=E.toList.getD j default:=by
 simp
def Qct {θ:Th} {S:Nat->Prop} {w:World} {t:TypeId} {z:List PV} {agg:Bool} (h:Qeo P t z agg=true) {zv:AV} (hz:sOf agg (z.map .p)=some zv):∃ cz,(zeroValue t).run P w = .ok cz w∧RelV θ S w zv cz:=by
 unfold Qeo at h
 cases hi:P.info? t with
 | none=>simp_all
 | some i=>
  simp only [hi,Mw] at h
  cases hzz:i.zero with
  | none=>simp_all
  | some v=>
   simp only [hzz,Mw] at h;refine ⟨v,Qea hi hzz w,?_⟩;split at h
   ·rename_i C;simp only [sOf,Lb] at hz;subst hz;obtain ⟨h1,h2,h3⟩:=Q84 (S:=S) (w:=w) _ _ h;refine .agg _ C (by simp_all) h2 (fun i x hx=>?_);rw [Ll] at hx
    cases hc:z[i]? with
    | none=>simp_all
    | some y=>rw [hc] at hx;cases hx;rw [Q5k];exact .p _ _ (h3 i y hc)
   ·rename_i x;simp only [sOf,Mv,Bk,List.head?_cons,Lb] at hz;subst hz;exact .p _ _ (Qcx _ _ h)
   simp_all
def Qtj {r:Result Next} {w':World} (hH:Hp θ H w) {b:Nat} {o o':AObj} {l:Loc} (hb:H[b]? = some o) (hlive:o.live=true) (hl : θ b=some l) (hr:r = .ok .skip w')
  (hsz:w'.heap.size=w.heap.size) (hsame:∀ c,c≠l.blk->w'.heap[c]? = w.heap[c]?) (hos:w'.os=w.os) (ht:w'.tape=w.tape) (hout:w'.output=w.output)
  (ho:∀ (S':Nat->Prop),(∀ c,Qu θ (H.set b o') c->S' c)->(∀ c,c<w.heap.size->Qu θ H c->S' c∧w'.heap[c]? = w.heap[c]?)->RelObj θ S' w' o' l)
  (hob:∀ c,o.occ l c↔l.blk=c:=by intro c;exact Iff.rfl) (hoc:o'.live=true->∀ l c,o'.occ l c->o.occ l c:=by intro h l c e;first | exact e | cases h):Q34 θ H w na Uw { set:=some (b,o') } r:=by
 obtain ⟨h1,h2⟩:=Qle (o':=o') hH hb hlive hl w' hsz hsame hos ht hout hob hoc;exact ⟨undef,w',θ,.inr ⟨hr,rfl⟩,Q4n,h1 (ho _ (fun c h=>h) (fun c hc hf=>h2.free c hc hf)),h2,fun _ _=>rfl,fun _=>rfl⟩
theorem Qvf (a b:List UInt8):((⟨⟨a⟩⟩:ByteArray) == ⟨⟨b⟩⟩)=(a == b):=by
 show ((⟨a⟩:Array UInt8) == ⟨b⟩)=(a == b);simp
def Qef {d:TypeDesc} {kk:Nat} (hd:Q16 (some d) kk=true) {S:Nat->Prop} {w:World} {k k2:PV} {ck ck2:Value} (hk:Q73 kk k=true) (hr:RelP S w k ck) (hr2:RelP S w k2 ck2) {b:Bool} (h:Jx k k2=some b) :
  Instr.sameNow d ck ck2=some b:=by
 cases k<;>cases k2<;>simp only [Jx,Q4i] at h<;>try (cases h;done)
 ·cases hr;cases hr2
  rcases kk with _ | _ | _ | kk<;>simp only [Q73,Mg] at hk
  cases d<;>simp only [Q16,Mg] at hd;exact h
 ·rename_i i n j m;cases hr;cases hr2
  rcases kk with _ | _ | _ | kk<;>simp only [Q73,Mg] at hk
  cases d<;>simp_all [Q16]
  simp_all [Instr.sameNow]
 cases hr;cases hr2
 rcases kk with _ | _ | _ | kk<;>simp_all [Q73]
 grind [Q16,Instr.sameNow,Qvf]
def Q98 {d:TypeDesc} {kk:Nat} (hd:Q16 (some d) kk=true) {θ:Th} {S:Nat->Prop} {w:World} {k:PV} {ck:Value} (hk:Q73 kk k=true) (hr:RelP S w k ck):∀ (es:List (PV×AV)) (E:List MapEntry) (i:Nat),E.length=es.length ->
  (∀ (j:Nat) k v,es[j]? = some (k,v)->RelP S w k (E.getD j default).key∧RelV θ S w v (E.getD j default).val)->∀ r,Q43 k i es=some r ->
  (r=none∧Instr.findNow d ck E i=some none)∨∃ j v e,r=some (i+j,v)∧Instr.findNow d ck E i=some (some (i+j,e.val))∧E[j]? = some e∧RelV θ S w v e.val∧Instr.sameNow d ck e.key=some true
 | [],[],i,_,_,r,h=>by simp only [Q43] at h;cases h;exact .inl ⟨rfl,rfl⟩
 | (k2,v)::es,e::E,i,hl,hrel,r,h=>by
  have h0:=hrel 0 k2 v rfl;simp only [List.getD_cons_zero] at h0;simp only [Q43] at h
  cases hq:Jx k k2 with
  | none=>simp_all
  | some b=>
   have hs:=Qef hd hk hr h0.1 hq
   cases b with
   | true=>
    simp only [hq] at h;cases h;exact .inr ⟨0,v,e,rfl,by simp [Instr.findNow,hs],rfl,h0.2,hs⟩
   | false=>
    simp only [hq] at h
    rcases Q98 hd hk hr es E (i+1) (by simp_all) (fun j k v hj=>by simpa using hrel (j+1) k v (by simp_all)) r h with ⟨h1,h2⟩ | ⟨j,v',e',h1,h2,h3,h4,h5⟩
    ·simp_all [Instr.findNow]
    exact .inr ⟨j+1,v',e',by grind,by grind [Instr.findNow],by simp_all,h4,h5⟩
 | [],_::_,_,hl,_,_,_=>by simp_all
 | _::_,[],_,hl,_,_,_=>by simp_all
def Q0n {w:World} {kt:TypeId} {d:TypeDesc} {kk:Nat} (hd:P.underlying kt=some d) (hkk:Q16 (some d) kk=true) (k:Value) (e:Bool) (n:Nat):(Instr.checkKey e (n+1) kt k).run P w = .ok () w:=by
 unfold Instr.checkKey;simp only [Sem.run_bind,run_underlying hd,Result.andThen]
 cases d<;>rcases kk with _ | _ | _ | kk<;>simp only [Q16,Mg] at hkk<;>simp
def Qnh {d:TypeDesc} {a b:Value} (h:Instr.sameNow d a b=some true):a=b∧∀ n,Instr.sameBits n a b=true:=by
 cases d<;>cases a<;>cases b<;>simp only [Instr.sameNow] at h<;>simp_all
 ·simp_all [Instr.sameBits]
 ·simp_all [Instr.sameBits]
 simp_all [MapKept.bytes_beq,Instr.sameBits]

def Qx1 (hH:Hp θ H w) {r:Nat} {cv:Value} (hr:RelV θ (Qu θ H) w (.map r) cv) {es:List (PV×AV)} (hb:H[r]? = some (.map es)) :
  ∃ l E clock,θ r=some l∧cv = .map (some l.blk)∧w.heap[l.blk]? = some (.map E clock)∧E.size=es.length∧Born E clock∧∀ (i:Nat) k v,es[i]? = some (k,v)->RelP (Qu θ H) w k (E.getD i default).key∧RelV θ (Qu θ H) w v (E.getD i default).val:=by
 cases hr with
 | map _ l hl=>
  obtain ⟨E,clock,h1,h2,h3⟩:=hH.obj r _ l hb hl<;>grind

theorem Qka (hT:TmOk θ (Qu θ H) w tm a) (hH:Hp θ H w) {t kt et:TypeId} (ht:P.underlying t=some (.map kt et)) {kk:Nat} {d:TypeDesc} (hd:P.underlying kt=some d) (hk:Q16 (some d) kk=true)
  {m k x:Operand} {m' k' x':Opd} (h1:Ql m m'=true) (h2:Ql k k'=true) (h3:Ql x x'=true)
  {v:AV} {e:Eff} (hs:step Gl tm H na (.insert kk m' k' x')=some (v,e)) {o:Oper} (ho:o.op = .insert t m k x∨o.op = .mapUpdate t m k x):Q34 θ H w na v e ((execOp a.eval o).run P w):=by
 simp only [step] at hs;have hrm:=Ze hT h1;have hrk:=Ze hT h2;have hrx:=Ze hT h3;generalize Q9 tm m'=vm at hs hrm;generalize Q9 tm k'=vk at hs hrk;generalize Q9 tm x'=vx at hs hrx;generalize hak:a.eval k=ck at hrk;generalize ham:a.eval m=cm at hrm;generalize hax:a.eval x=cx at hrx;split at hs
 ·rename_i r ke
  cases hb:H[r]? with
  | none=>simp_all
  | some ob=>
   cases ob with
   | map es=>
    simp only [hb] at hs;split at hs
    ·cases hs
    rename_i hki
    have hki:Q73 kk ke=true:=by simp_all
    obtain ⟨l,E,clock,hl,rfl,hE,hn,hbo,hrel⟩:=Qx1 hH hrm hb
    have hrk:RelP (Qu θ H) w ke ck:=dV
    have hrunE:(execOp a.eval o).run P w=((Instr.mapUpdate t (.map (some l.blk)) ck cx).run P w).andThen fun _ w' => .ok .skip w':=by
     rcases ho with ho | ho<;>simp_all [execOp]<;>rfl
    cases hf:Q43 ke 0 es with
    | none=>simp_all
    | some res=>
     have hfind:=Q98 (θ := θ) hk hki hrk es E.toList 0 (by omega) (fun j k v hj=>by
      simp_all) res hf
     rcases hfind with ⟨rfl,hnow⟩ | ⟨j,v0,e0,rfl,hnow,hj,hv0,hsame⟩
     ·simp only [hf,Lb,Lg] at hs;obtain ⟨rfl,rfl⟩:=hs
      have hrun:(Instr.mapUpdate t (.map (some l.blk)) ck cx).run P w = .ok () { w with heap:=w.heap.setIfInBounds l.blk (.map (E.push { key:=ck,val:=cx,born:=clock }) (clock+1)) }:=by
       simp [Instr.mapUpdate,run_underlying ht,MapKept.run_getObj_map hE,Q0n hd hk,MapKept.run_findKey hd hnow,MapKept.run_setObj_map _ hE,Result.andThen]
      refine Qtj (w' := { w with heap:=w.heap.setIfInBounds l.blk (.map (E.push { key:=ck,val:=cx,born:=clock }) (clock+1)) }) hH hb rfl hl (hrunE.trans (by simp_all)) (by simp) (fun c hc=>by grind) rfl rfl rfl (fun S' h1 h2=>?_);have hm:∀ {x:AV} {v:Value},RelV θ (Qu θ H) w x v->RelV θ S' _ x v:=fun r=>r.mono (fun _ _ e=>e) h2;have hmp:∀ {x:PV} {v:Value},RelP (Qu θ H) w x v->RelP S' _ x v:=fun r=>r.mono h2;refine ⟨E.push { key:=ck,val:=cx,born:=clock },clock+1,by grind,by simp_all,hbo.push _ _,fun i k v hi=>?_⟩
      by_cases hlt:i<es.length
      ·rw [Lm hlt] at hi;obtain ⟨q1,q2⟩:=hrel i k v hi
       have:(E.push { key:=ck,val:=cx,born:=clock }).getD i default=E.getD i default:=by
        simp only [Mb,Array.getElem?_push]
        grind
       simp_all
      have hi2:=(Ld.1 hi).1
      have hie:i=es.length:=by grind
      subst hie;simp at hi;obtain ⟨rfl,rfl⟩:=hi
      have:(E.push { key:=ck,val:=cx,born:=clock }).getD es.length default = { key:=ck,val:=cx,born:=clock }:=by
       simp only [Mb,Array.getElem?_push,hn];simp
      simp_all
     simp only [hf,Lb,Lg] at hs;obtain ⟨rfl,rfl⟩:=hs;obtain ⟨hkeq,hbits⟩:=Qnh hsame;simp only [Mi] at hnow ⊢
     have hj':E[j]? = some e0:=by simp_all
     have hstay:(Instr.keyThatStays e0.key ck).run P w = .ok ck w:=by simp_all [Instr.keyThatStays]
     have hrun:(Instr.mapUpdate t (.map (some l.blk)) ck cx).run P w = .ok () { w with heap:=w.heap.setIfInBounds l.blk (.map (E.modify j fun e => { e with key:=ck,val:=cx }) clock) }:=by
      simp [Instr.mapUpdate,run_underlying ht,MapKept.run_getObj_map hE,Q0n hd hk,MapKept.run_findKey hd hnow,hj',hstay,MapKept.run_setObj_map _ hE,Result.andThen]
     refine Qtj (w' := { w with heap:=w.heap.setIfInBounds l.blk (.map (E.modify j fun e => { e with key:=ck,val:=cx }) clock) }) hH hb rfl hl (hrunE.trans (by simp_all)) (by simp) (fun c hc=>by grind) rfl rfl rfl (fun S' h1 h2=>?_);have hm:∀ {x:AV} {v:Value},RelV θ (Qu θ H) w x v->RelV θ S' _ x v:=fun r=>r.mono (fun _ _ e=>e) h2;have hmp:∀ {x:PV} {v:Value},RelP (Qu θ H) w x v->RelP S' _ x v:=fun r=>r.mono h2;refine ⟨E.modify j fun e => { e with key:=ck,val:=cx },clock,by grind,by simp_all,hbo.modify _ _ _,fun i k v hi=>?_⟩;have hjl:j<E.size:=(Mh.1 hj').1
     by_cases hij:j=i
     ·subst hij;rw [Lt (by omega)] at hi;simp at hi;obtain ⟨rfl,rfl⟩:=hi
      have:(E.modify j fun e => { e with key:=ck,val:=cx }).getD j default = { e0 with key:=ck,val:=cx }:=by
       simp only [Mb,Ni];simp [hj']
      simp_all
     simp_all [Array.getElem?_modify]
   | cells _=>simp_all
   | strIter _ _=>simp_all
   | dead=>simp_all
   | ext _ _=>simp_all
 simp_all
def Qki {x:PV}:∀ (ps:List (PV×PV)) (i:Nat) (r:Option PV),Qpa x ps=some r->∃ r',Q43 x i (ps.map fun q=>(q.1,AV.p q.2))=some r'∧(r=none∧r'=none∨∃ v j,r=some v∧r'=some (j,AV.p v))
 | [],i,r,h=>by rw [Qok] at h;cases h;exact ⟨none,rfl,.inl ⟨rfl,rfl⟩⟩
 | (x',v)::ps,i,r,h=>by
  rw [Qkp] at h;simp only [Mv,Q43]
  cases hq:Jx x x' with
  | none=>simp_all
  | some b=>
   rw [hq] at h
   cases b with
   | true=>exact dl
   | false=>exact Qki ps (i+1) r h
theorem Quz (hT:TmOk θ (Qu θ H) w tm a) (hH:Hp θ H w) {t kt et:TypeId} (ht:P.underlying t=some (.map kt et)) {kk:Nat} {d:TypeDesc} (hd:P.underlying kt=some d) (hk:Q16 (some d) kk=true)
  {z:List PV} {agg ok:Bool} (hz:Qeo P et z agg=true) {m k:Operand} {m' k':Opd} (h1:Ql m m'=true) (h2:Ql k k'=true)
  {v:AV} {e:Eff} (hs:step Gl tm H na (.lookup kk z agg ok m' k')=some (v,e)) {o:Oper} (ho:o.op = .lookup t m k ok):Q34 θ H w na v e ((execOp a.eval o).run P w):=by
 simp only [step] at hs;have hrm:=Ze hT h1;have hrk:=Ze hT h2;generalize Q9 tm m'=vm at hs hrm;generalize Q9 tm k'=vk at hs hrk;generalize hak:a.eval k=ck at hrk;generalize ham:a.eval m=cm at hrm;split at hs
 ·rename_i r ke
  cases hb:H[r]? with
  | none=>exact fh
  | some ob=>
   cases ob with
   | map es=>
    simp only [hb] at hs;split at hs
    ·cases hs
    rename_i hki
    have hki:Q73 kk ke=true:=by simpa using hki
    obtain ⟨l,E,clock,hl,rfl,hE,hn,hbo,hrel⟩:=Qx1 hH hrm hb
    have hrk:RelP (Qu θ H) w ke ck:=dV
    have hrunE:(execOp a.eval o).run P w=((Instr.lookup t (.map (some l.blk)) ck ok).run P w).andThen fun v w' => .ok (.value v) w':=iY
    cases hf:Q43 ke 0 es with
    | none=>simp only [hf] at hs;cases hs
    | some res=>
     have hfind:=Q98 (θ := θ) hk hki hrk es E.toList 0 ix (fun j k v hj=>by
      have:=hrel j k v hj;rw [Qqn] at this
      exact this) res hf
     rcases hfind with ⟨rfl,hnow⟩ | ⟨j,v0,e0,rfl,hnow,hj,hv0,hsame⟩
     ·simp only [hf] at hs;obtain ⟨zv,hz1,hz2⟩:=Ls.1 hs;simp only [Qv,Lb,Lg] at hz2;obtain ⟨rfl,rfl⟩:=hz2;obtain ⟨cz,hzr,hzv⟩:=Qct (θ := θ) (S:=Qu θ H) (w:=w) hz hz1
      have hrun:(Instr.lookup t (.map (some l.blk)) ck ok).run P w = .ok (if ok then .tuple #[cz,.bool false] else cz) w:=dz
      exact bz
     simp only [hf,Qv,Lb,Lg] at hs;obtain ⟨rfl,rfl⟩:=hs;simp only [Mi] at hnow
     have hrun:(Instr.lookup t (.map (some l.blk)) ck ok).run P w = .ok (if ok then .tuple #[e0.val,.bool true] else e0.val) w:=dG
     exact bE
   | cells _=>exact fh
   | strIter _ _=>exact fh
   | dead=>exact fh
   | ext _ _=>exact fh
 ·rename_i ps ke
  have hrm:RelP (Qu θ H) w (.pmap ps) cm:=by cases hrm with | p _ _ h=>exact h
  cases hrm with
  | pmap _ r E clock hS hE hn hrk' hrv'=>
   split at hs
   ·cases hs
   rename_i hki
   have hki:Q73 kk ke=true:=by simpa using hki
   have hrk:RelP (Qu θ H) w ke ck:=dV
   have hrunE:(execOp a.eval o).run P w=((Instr.lookup t (.map (some r)) ck ok).run P w).andThen fun v w' => .ok (.value v) w':=iY
   cases hf:Qpa ke ps with
   | none=>simp only [hf] at hs;cases hs
   | some res=>
    obtain ⟨res',hf',hres⟩:=Qki ps 0 res hf
    have hfind:=Q98 (θ := θ) hk hki hrk (ps.map fun q=>(q.1,AV.p q.2)) E.toList 0 ix (fun j k v hj=>by
     rw [Ll] at hj
     cases hq:ps[j]? with
     | none=>rw [hq] at hj;cases hj
     | some q=>
      rw [hq] at hj;cases hj;have e1:=hrk' j q.1 q.2 hq;have e2:=hrv' j q.1 q.2 hq;rw [Qqn] at e1 e2
      exact ⟨e1,.p _ _ e2⟩) res' hf'
    rcases hfind with ⟨rfl,hnow⟩ | ⟨j,v0,e0,rfl,hnow,hj,hv0,hsame⟩
    ·rcases hres with ⟨rfl,_⟩ | ⟨v,j,_,hc⟩
     ·simp only [hf] at hs;obtain ⟨zv,hz1,hz2⟩:=Ls.1 hs;simp only [Qv,Lb,Lg] at hz2;obtain ⟨rfl,rfl⟩:=hz2;obtain ⟨cz,hzr,hzv⟩:=Qct (θ := θ) (S:=Qu θ H) (w:=w) hz hz1
      have hrun:(Instr.lookup t (.map (some r)) ck ok).run P w = .ok (if ok then .tuple #[cz,.bool false] else cz) w:=dz
      exact bz
     cases hc
    rcases hres with ⟨_,hc⟩ | ⟨v,j',rfl,hc⟩
    ·cases hc
    cases hc;simp only [hf,Qv,Lb,Lg] at hs;obtain ⟨rfl,rfl⟩:=hs;simp only [Mi] at hnow
    have hrun:(Instr.lookup t (.map (some r)) ck ok).run P w = .ok (if ok then .tuple #[e0.val,.bool true] else e0.val) w:=dG
    exact bE
 cases hs
def Qdj {S:Nat->Prop} {C D:Array Value} {w:World} (d:Nat):∀ (fs:List Field) (ks:List Nat) (n:Nat) (cs ds:List AV) (b:Bool),Q77 P fs n ks=true->V6 ks cs ds=some b->C.size=n+cs.length->D.size=n+ds.length ->
  (∀ (i:Nat) x,cs[i]? = some x->RelV θ S w x (C.getD (n+i) Qr))->(∀ (i:Nat) x,ds[i]? = some x->RelV θ S w x (D.getD (n+i) Qr))->(Op.eqFields (d+1) C D fs).run P w = .ok b w
 | [],[],n,cs,ds,b,_,hs,h1,h2,h3,h4=>by
  cases cs<;>cases ds<;>simp only [V6] at hs<;>try (cases hs;done)
  simp_all [Op.eqFields]
 | f::fs,kk::ks,n,cs,ds,b,hf,hs,h1,h2,h3,h4=>by
  simp only [Q77,Le,bne_iff_ne,ne_eq,Aj] at hf;obtain ⟨⟨⟨f1,f2⟩,f3⟩,f4⟩:=hf
  cases cs with
  | nil=>simp only [V6] at hs;cases hs
  | cons c cs=>
   cases ds with
   | nil=>cases c<;>simp only [V6] at hs<;>cases hs
   | cons e ds=>
    cases c<;>cases e<;>simp only [V6] at hs<;>try (cases hs;done)
    rename_i x y;split at hs
    ·cases hs
    rename_i hki
    have hki:Q73 kk x=true:=by simp_all
    split at hs
    ·rename_i p q hp hq;cases hs;have rx:=h3 0 (.p x) rfl;have ry:=h4 0 (.p y) rfl;simp only [Bj] at rx ry
     have hx:C[n]? = some (C.getD n Qr):=by simp_all
     have hy:D[n]? = some (D.getD n Qr):=by simp_all
     generalize C.getD n Qr=vx at rx hx;generalize D.getD n Qr=vy at ry hy
     have rx:RelP S w x vx:=by cases rx with | p _ _ h=>exact h
     have ry:RelP S w y vy:=by cases ry with | p _ _ h=>exact h
     obtain ⟨dd,hd⟩:=Q6d f3
     have hna:(isAgg f.type).run P w = .ok false w:=by
      rw [hd] at f3;unfold isAgg;simp only [Sem.run_bind,run_underlying hd,Result.andThen]
      exact gk
     have px:(part f.type C f.offset).run P w = .ok vx w:=by simp_all [part]
     have py:(part f.type D f.offset).run P w = .ok vy w:=by simp_all [part]
     have hsn:=Qef (d:=dd) (by simp_all) hki rx ry hp
     have heq:(Op.equalIn (d+1) f.type vx vy).run P w = .ok p w:=by
      simp only [Op.equalIn,Sem.run_bind,run_underlying hd,Result.andThen]
      cases dd<;>cases vx<;>cases vy<;>simp only [Instr.sameNow] at hsn<;>try (cases hsn;done)
      ·simp_all
      ·simp_all
      simp_all
     have ih:=Qdj (C:=C) (D:=D) (S:=S) (w:=w) d fs ks (n+1) cs ds q f4 hq (by grind) (by grind) (fun i z hz=>by have:=h3 (i+1) z (by simp_all);grind) (fun i z hz=>by have:=h4 (i+1) z (by simp_all);exact gq);simp only [Op.eqFields,Af f1,Sem.run_bind,px,py,heq,Result.andThen];cases p<;>simp_all
    simp_all
 | [],_::_,_,_,_,_,h,_,_,_,_,_=>by simp [Q77] at h
 | _::_,[],_,_,_,_,h,_,_,_,_,_=>by simp [Q77] at h
def Qnm {θ:Th} {S:Nat->Prop} {w:World} {v:AV} {cv:Value} (h:RelV θ S w v cv) {cs:List AV} (hc:v.aggs? = some cs):∃ C,cv = .agg C∧C.size=cs.length∧∀ (i:Nat) x,cs[i]? = some x->RelV θ S w x (C.getD i Qr):=by
 unfold AV.aggs? at hc;split at hc
 ·cases hc
  cases h with
  | p _ _ h=>
   cases h with
   | agg _ C hn h1 hv=>
    refine ⟨C,rfl,by simp_all,fun i x hx=>?_⟩;rw [Ll] at hx;rename_i cs
    cases hc:cs[i]? with
    | none=>simp_all
    | some y=>rw [hc] at hx;cases hx;exact .p _ _ (hv i y hc)
 ·cases hc
  cases h with
  | agg _ C hn h1 hv=>exact ⟨C,rfl,hn,hv⟩
 cases hc
def Qb9 {w:World} {r:Nat} {s:ByteArray} {p:Nat} (hb:w.heap[r]? = some (.stringIter s p)):(getObj r).run P w = .ok (.stringIter s p) w:=by
 simp [getObj,Sem.run,hb]
def Qj4 {w:World} {r:Nat} {s:ByteArray} {p:Nat} (o:Obj) (hb:w.heap[r]? = some (.stringIter s p)):(setObj r o).run P w = .ok () { w with heap:=w.heap.setIfInBounds r o }:=by
 simp [setObj,Sem.run,hb]
def Qca:∀ (k1 k2:List Nat) (cs ds:List AV) (b:Bool),V6 (k1++k2) cs ds=some b ->
  ∃ b1 b2,V6 k1 (cs.take k1.length) (ds.take k1.length)=some b1∧V6 k2 (cs.drop k1.length) (ds.drop k1.length)=some b2∧b=(b1&&b2)∧k1.length≤cs.length∧k1.length≤ds.length
 | [],k2,cs,ds,b,h=>⟨true,b,by simp [V6],gP,by simp,by simp,by simp⟩
 | kk::k1,k2,cs,ds,b,h=>by
  cases cs with
  | nil=>simp only [Ng,V6] at h;cases h
  | cons c cs=>
   cases ds with
   | nil=>cases c<;>simp only [Ng,V6] at h<;>cases h
   | cons e ds=>
    cases c<;>cases e<;>simp only [Ng,V6] at h<;>try (cases h;done)
    rename_i x y;split at h
    ·cases h
    rename_i hki;split at h
    ·rename_i p q hp hq;cases h;obtain ⟨b1,b2,h1,h2,rfl,h3,h4⟩:=Qca k1 k2 cs ds q hq;refine ⟨p&&b1,b2,?_,by simpa using h2,by simp [Bool.and_assoc],fy,fy⟩;simp only [Mj,List.take_succ_cons,V6,Ae hki,hp,h1]
    cases h
def Q72 {w:World} {S:Nat->Prop}:∀ (m:Nat) (fs:List Field) (n:Nat) (ks ks':List Nat),Q4h P m fs n ks=some ks'->∃ k1,ks=k1++ks' ∧
  ∀ (d:Nat) (C D:Array Value) (cs ds:List AV) (b:Bool),m≤d->V6 k1 cs ds=some b->n+cs.length≤C.size->n+ds.length≤D.size ->
  (∀ (i:Nat) x,cs[i]? = some x->RelV θ S w x (C.getD (n+i) Qr))->(∀ (i:Nat) x,ds[i]? = some x->RelV θ S w x (D.getD (n+i) Qr))->(Op.eqFields (d+1) C D fs).run P w = .ok b w
 | m,[],n,ks,ks',h=>by
  refine ⟨[],by cases m<;>simp [Q4h] at h<;>simp [h],fun d C D cs ds b _ hs _ _ _ _=>?_⟩
  cases cs<;>cases ds<;>simp only [V6] at hs<;>try (cases hs;done)
  cases hs;simp [Op.eqFields]
 | 0,_::_,n,ks,ks',h=>by simp [Q4h] at h
 | m+1,f::fs,n,ks,ks',h=>by
  simp only [Q4h] at h;split at h
  ·rename_i hf;simp only [Le,bne_iff_ne,ne_eq,Aj] at hf;obtain ⟨f1,f2⟩:=hf;split at h
   ·rename_i gs hu;split at h
    ·rename_i hst;obtain ⟨k2,hk2,h2⟩:=Ls.1 h;split at h2
     ·rename_i hsz;simp only [Le,Ag] at hsz;obtain ⟨ka,rfl,ha⟩:=Q72 m gs.toList 0 ks k2 hk2
      obtain ⟨kb,rfl,hb⟩:=Q72 m fs (n+ka.length) k2 ks' (by
       grind)
      refine ⟨ka++kb,by simp,fun d C D cs ds b hd hs h1 h2 h3 h4=>?_⟩;obtain ⟨b1,b2,s1,s2,rfl,l1,l2⟩:=Qca ka kb cs ds b hs
      have hsz':Qc2 P f.type ka.length=true:=by grind
      have hso:=Q1g hsz' w
      have hagg:(isAgg f.type).run P w = .ok true w:=by simp_all [isAgg,run_underlying]
      have px:∀ X:Array Value,(part f.type X f.offset).run P w = .ok (.agg (X.extract n (n+ka.length))) w:=fun X=>by
       simp_all [part]
      have hfo:P.fieldsOf f.type=gs:=by simp_all [Program.fieldsOf]
      obtain ⟨d',rfl⟩:∃ d',d=d'+1:=⟨d - 1,by omega⟩
      have heq:(Op.equalIn (d'+1+1) f.type (.agg (C.extract n (n+ka.length))) (.agg (D.extract n (n+ka.length)))).run P w = .ok b1 w:=by
       rw [run_equalIn_struct w (d'+1) f.type _ _ (by grind) (by grind),hfo];refine ha d' _ _ _ _ b1 (by omega) s1 (by simp;omega) (by simp;omega) (fun i x hx=>?_) (fun i x hx=>?_)
       ·have hi:i<ka.length:=by grind
        rw [Nd,Af hi] at hx;have:=h3 i x hx;simp only [Mi]
        have hlt:n+i<C.size:=by omega
        simpa [Array.getD,hi,hlt,show i<min (n+ka.length) C.size - n by omega] using this
       have hi:i<ka.length:=by grind
       rw [Nd,Af hi] at hx;have:=h4 i x hx;simp only [Mi]
       have hlt:n+i<D.size:=by omega
       simpa [Array.getD,hi,hlt,show i<min (n+ka.length) D.size - n by omega] using this
      have ih:=hb (d'+1) C D (cs.drop ka.length) (ds.drop ka.length) b2 (by omega) s2 (by grind) (by grind)
       (fun i x hx=>by rw [Mx] at hx;have:=h3 _ x hx;rwa [← Ny] at this) (fun i x hx=>by simp_all [Nat.add_assoc])
      simp only [Op.eqFields,Af f1,Sem.run_bind,px,heq,Result.andThen];cases b1
      ·simp
      simpa using ih
     cases h2
    cases h
   ·rename_i dd _ hu;split at h
    ·rename_i kk kr;split at h
     ·rename_i f3;obtain ⟨kb,rfl,hb⟩:=Q72 m fs (n+1) kr ks' h;refine ⟨kk::kb,by simp,fun d C D cs ds b hd hs h1 h2 h3 h4=>?_⟩
      cases cs with
      | nil=>simp only [V6] at hs;cases hs
      | cons c cs=>
       cases ds with
       | nil=>cases c<;>simp only [V6] at hs<;>cases hs
       | cons e ds=>
        cases c<;>cases e<;>simp only [V6] at hs<;>try (cases hs;done)
        rename_i x y;split at hs
        ·cases hs
        rename_i hki
        have hki:Q73 kk x=true:=by grind
        split at hs
        ·rename_i p q hp hq;cases hs;have rx:=h3 0 (.p x) rfl;have ry:=h4 0 (.p y) rfl;simp only [Bj] at rx ry
         have hx:C[n]? = some (C.getD n Qr):=by
          have:n<C.size:=by grind
          simp [Array.getD,this]
         have hy:D[n]? = some (D.getD n Qr):=by
          have:n<D.size:=by grind
          simp [Array.getD,this]
         have h3':=h3;have h4':=h4;generalize C.getD n Qr=vx at rx hx;generalize D.getD n Qr=vy at ry hy
         have rx:RelP S w x vx:=by cases rx with | p _ _ h=>exact h
         have ry:RelP S w y vy:=by cases ry with | p _ _ h=>exact h
         have hna:(isAgg f.type).run P w = .ok false w:=by
          unfold isAgg;simp only [Sem.run_bind,run_underlying hu,Result.andThen]
          cases dd<;>rcases kk with _ | _ | _ | kk<;>simp only [Q16,Mg] at f3<;>simp
         have px:(part f.type C f.offset).run P w = .ok vx w:=by simp [part,hna,f2,hx,Result.andThen]
         have py:(part f.type D f.offset).run P w = .ok vy w:=by simp [part,hna,f2,hy,Result.andThen]
         have hsn:=Qef (d:=dd) f3 hki rx ry hp
         have heq:(Op.equalIn (d+1) f.type vx vy).run P w = .ok p w:=by
          simp only [Op.equalIn,Sem.run_bind,run_underlying hu,Result.andThen]
          cases dd<;>cases vx<;>cases vy<;>simp only [Instr.sameNow] at hsn<;>try (cases hsn;done)
          ·simp at hsn;subst hsn;simp
          ·split at hsn
           ·rename_i e;subst e;simp at hsn;subst hsn;simp
           cases hsn
          simp at hsn;subst hsn;simp
         have ih:=hb d C D cs ds q (by omega) hq (by simp at h1;omega) (by simp at h2;omega) (fun i z hz=>by have:=h3' (i+1) z (by simpa using hz);rwa [show n+(i+1)=n+1+i by omega] at this) (fun i z hz=>by have:=h4' (i+1) z (by simpa using hz);rwa [show n+(i+1)=n+1+i by omega] at this);simp only [Op.eqFields,Af f1,Sem.run_bind,px,py,heq,Result.andThen];cases p
         ·simp
         simpa using ih
        cases hs
     cases h
    cases h
   cases h
  cases h
theorem Qnf (hT:TmOk θ (Qu θ H) w tm a) (hH:Hp θ H w) {op:BinOp} {neg:Bool} {t yt:TypeId} {x y:Operand} {x' y':Opd}
  (hop:(op = .eql∧neg=false)∨(op = .neq∧neg=true)) (hx:Ql x x'=true) (hy:Ql y y'=true) {ks:List Nat} (ht:(Qbx P t ks||Qbl P t ks)=true) {v:AV} {e:Eff}
  (hs:step Gl tm H na (.eqAgg neg ks x' y')=some (v,e)) {o:Oper} (ho:o.op = .binOp op t x y yt):Q34 θ H w na v e ((execOp a.eval o).run P w):=by
 simp only [step] at hs;have hrx:=Ze hT hx;have hry:=Ze hT hy;split at hs
 ·rename_i cs ds hc1 hc2;obtain ⟨b,hb1,hb2⟩:=Ls.1 hs;simp only [Qv,Lb,Lg] at hb2;obtain ⟨rfl,rfl⟩:=hb2;obtain ⟨C,hC,hC1,hC2⟩:=Qnm hrx hc1;obtain ⟨D,hD,hD1,hD2⟩:=Qnm hry hc2
  have fin:P.stoodInHeld t=false->P.eqGuardType P.depth t=false->∀ fs:Array Field,P.underlying t=some (.struct fs)->(Op.eqFields 9999 C D fs.toList).run P w = .ok b w->Q34 θ H w na (.p (.bool (if neg then !b else b))) {} ((execOp a.eval o).run P w):=fun t2 t3 fs hu hf=>by
   have hfo:P.fieldsOf t=fs:=by unfold Program.fieldsOf;rw [hu]
   have hrun:(Op.equalIn 10000 t (.agg C) (.agg D)).run P w = .ok b w:=by
    rw [run_equalIn_struct w 9999 t C D (by rw [hfo];exact hu) t2,hfo];exact hf
   refine Qk (cv := .bool (if neg then !b else b)) hH ?_ (Q0d _);have hg:=fun op=>run_eqGuard_agg (P:=P) w op t x y C D t3
   rcases hop with ⟨rfl,rfl⟩ | ⟨rfl,rfl⟩
   ·simp [execOp,ho,hC,hD,hg,run_eql_struct,hrun,Result.andThen]
   simp [execOp,ho,hC,hD,hg,run_neq_struct,hrun,Result.andThen]
  rw [Nl] at ht
  rcases ht with ht | ht
  ·unfold Qbx at ht;split at ht
   ·rename_i fs hu;simp only [Le,Bool.not_eq_true'] at ht;obtain ⟨⟨t1,t2⟩,t3⟩:=ht;exact fin t2 t3 fs hu (Qdj (θ := θ) (S:=Qu θ H) 9998 fs.toList ks 0 cs ds b t1 hb1 (by omega) (by omega) (fun i x hx=>by simpa using hC2 i x hx) (fun i x hx=>by simpa using hD2 i x hx))
   cases ht
  unfold Qbl at ht;split at ht
  ·rename_i fs hu;simp only [Le,Bool.not_eq_true'] at ht;obtain ⟨⟨t1,t2⟩,t3⟩:=ht;split at t1
   ·rename_i hn;obtain ⟨k1,hk1,hall⟩:=Q72 (P:=P) (θ := θ) (w:=w) (S:=Qu θ H) 60 fs.toList 0 ks [] hn;rw [Na] at hk1;subst hk1;exact fin t2 t3 fs hu (hall 9998 C D cs ds b (by omega) hb1 (by omega) (by omega) (fun i x hx=>by simpa using hC2 i x hx) (fun i x hx=>by simpa using hD2 i x hx))
   cases t1
  cases ht
 cases hs
def Z1u (s:List UInt8) (j:Nat):(⟨⟨s⟩⟩:ByteArray).get! j=s.getD j 0:=by
 show (⟨s⟩:Array UInt8)[j]! = _;simp [List.getD];rfl
def Z7x (s:List UInt8) (i:Nat):Utf8.decode ⟨⟨s⟩⟩ i=Qfz s i:=by
 simp_all [ByteArray.size,Utf8.decode,Qfz,Z1u]
theorem Qv9 (hT:TmOk θ (Qu θ H) w tm a) (hH:Hp θ H w) (hna:AlOk θ H na) {t:TypeId} (ht:P.underlying t=some .string) {x:Operand} {y:Opd} (hx:Ql x y=true)
  {v:AV} {e:Eff} (hs:step Gl tm H na (.rangeS y)=some (v,e)) {o:Oper} (ho:o.op = .range t x):Q34 θ H w na v e ((execOp a.eval o).run P w):=by
 simp only [step] at hs;have hrx:=Ze hT hx;generalize Q9 tm y=vx at hs hrx;generalize hax:a.eval x=cx at hrx;split at hs
 ·rename_i s;simp only [Lb,Lg] at hs;obtain ⟨rfl,rfl⟩:=hs
  cases hrx with
  | p _ _ h=>
   cases h;refine Qgv (n:=w.drawn) (cv := .pointer (some ⟨w.heap.size,0,none⟩)) hH hna (.stringIter ⟨⟨s⟩⟩ 0) (.strIter s 0) ⟨w.heap.size,0,0⟩ rfl ?_ (fun θ' S w' h => .ptr na 0 _ h) (fun θ' S' h1 h2=>?_)
   ·simp_all [execOp,Instr.range,run_underlying]
   exact ⟨by simp,rfl⟩
 simp_all
theorem Qyw (hT:TmOk θ (Qu θ H) w tm a) (hH:Hp θ H w) {x:Operand} {y:Opd} (hx:Ql x y=true)
  {v:AV} {e:Eff} (hs:step Gl tm H na (.nextS y)=some (v,e)) {o:Oper} (ho:o.op = .next x true):Q34 θ H w na v e ((execOp a.eval o).run P w):=by
 simp only [step] at hs;have hrx:=Ze hT hx;generalize Q9 tm y=vx at hs hrx;generalize hax:a.eval x=cx at hrx;split at hs
 ·rename_i b off
  cases hb:H[b]? with
  | none=>simp_all
  | some ob=>
   cases ob with
   | strIter s pos=>
    simp only [hb] at hs;split at hs
    ·rename_i h0;subst h0
     cases hrx with
     | ptr _ _ l hl=>
      obtain ⟨q1,q2⟩:=hH.obj b _ l hb hl;have hsz:ByteArray.size ⟨⟨s⟩⟩=s.length:=rfl;have hlt:=Qqc q1;split at hs
      ·rename_i hp;simp only [Lb,Lg] at hs;obtain ⟨rfl,rfl⟩:=hs
       have hrun:(execOp a.eval o).run P w = .ok (.value (.tuple #[.bool true,goInt pos,.int .i32 (Qfz s pos).1])) { w with heap:=w.heap.setIfInBounds l.blk (.stringIter ⟨⟨s⟩⟩ (pos+(Qfz s pos).2)) }:=by
        simp [execOp,ho,hax,q2,Instr.next,Qb9 q1,Qj4 _ q1,hsz,hp,Z7x,Result.andThen]
       obtain ⟨h1,h2⟩:=Qle (o' := .strIter s (pos+(Qfz s pos).2)) hH hb rfl hl { w with heap:=w.heap.setIfInBounds l.blk (.stringIter ⟨⟨s⟩⟩ (pos+(Qfz s pos).2)) } (by simp) (fun c hc=>by grind) rfl rfl rfl;refine ⟨_,_,θ,.inl hrun,?_,h1 ⟨by simp_all,q2⟩,h2,fun _ _=>rfl,fun _=>rfl⟩;refine .p _ _ (.tuple _ _ rfl (fun i x hx=>?_))
       match i,hx with
       | 0,hx=>simp at hx;subst hx;exact .bool _
       | 1,hx=>simp at hx;subst hx;exact .int _ _
       | 2,hx=>simp at hx;subst hx;exact .int _ _
      rename_i hp;simp only [Qv,Lb,Lg] at hs;obtain ⟨rfl,rfl⟩:=hs;refine Qk (cv := .tuple #[.bool false]) hH ?_ (.p _ _ (.tuple _ _ rfl (fun i x hx=>?_)))
      ·simp [execOp,ho,hax,q2,Instr.next,Qb9 q1,hsz,hp,Result.andThen]
      match i,hx with
      | 0,hx=>simp at hx;subst hx;exact .bool _
    simp_all
   | cells _=>simp_all
   | map _=>simp_all
   | dead=>simp_all
   | ext _ _=>simp_all
 simp_all
def Qfc {t:TypeId} {n:Nat} (h:Qcq P t n=true) {i:TypeInfo} (hi:P.info? t=some i):i.bytes=n:=by
 simp_all [Qcq]

theorem Qws (c:UInt8):∀ (l:List UInt8) (i:Nat),Qk4 l c i=if Lib.indexByte l c = -1 then -1 else Lib.indexByte l c+i
 | [],i=>by rfl
 | b::l,i=>by
  have ih:=Qws c l (i+1);have hg:=Lib.indexByte_ge l c
  grind [Qk4,Lib.indexByte]
def Z2i (fn:Func) (h:fn.name = "internal/bytealg.IndexByteString") (ho:fn.origin = ""):Extern.findNext fn=none∧Extern.find fn=some Extern.BytealgIndexByte.indexByte:=by
 constructor
 ·unfold Extern.findNext;rw [h,ho]
  have h1:Extern.allNextRows.lookup "internal/bytealg.IndexByteString" = none:=by kernel_rfl
  have h2:Extern.allNextRows.lookup "" = none:=by kernel_rfl
  grind
 unfold Extern.find;rw [h,ho]
 have h1:Extern.allGenericRows.lookup "internal/bytealg.IndexByteString" = none:=by kernel_rfl
 have h2:Extern.allTypedRows.lookup "internal/bytealg.IndexByteString" = none:=by kernel_rfl
 have h3:Extern.allRows.lookup "internal/bytealg.IndexByteString" = some Extern.BytealgIndexByte.indexByte:=by kernel_rfl
 grind
theorem Qx7 (hT:TmOk θ (Qu θ H) w tm a) (hH:Hp θ H w) {c:Call} {g:Nat} {fn:Func} {x' y':Opd} (hcal:c.callee = .value (.func g)) (hfn:P.funcs[g]? = some fn) (hn:fn.name = "internal/bytealg.IndexByteString") (ho':fn.origin = "") (hb:fn.body.isNone=true)
  (hx:Xc c.args.toList [x',y']=true) {v:AV} {e:Eff} (hs:step Gl tm H na (.extIx x' y')=some (v,e)) {o:Oper} (ho:o.op = .call c):Q34 θ H w na v e ((execOp a.eval o).run P w):=by
 obtain ⟨x,y,hargs,hrx,hry⟩:=Q9m hT hx;have hargs:=Q8c hargs;simp only [step] at hs;generalize Q9 tm x'=vx at hs hrx;generalize Q9 tm y'=vy at hs hry;split at hs
 ·rename_i s i n;split at hs
  ·rename_i hi
   have hi:i = .u8:=by simp_all
   subst hi;simp only [Qv,Lb,Lg] at hs;obtain ⟨rfl,rfl⟩:=hs;have e2:=Q3c hry
   have e1:a.eval x = .string ⟨⟨s⟩⟩:=eJ
   obtain ⟨f1,f2⟩:=Z2i fn hn ho'
   have hN:(fn.name == "runtime.NumGoroutine")=false:=by simp_all
   have hrun:=run_callFunc_extern hfn hN hb f1 f2 #[.string ⟨⟨s⟩⟩,.int .u8 n] w;rw [Lib.run_indexByteString] at hrun;refine Qk hH (cv := .int .i64 (Lib.indexByte s (UInt8.ofNat n.toNat))) ?_ ?_
   ·exact d9
   grind [Qws,Q23]
  simp_all
 simp_all
theorem Quo (hT:TmOk θ (Qu θ H) w tm a) (hH:Hp θ H w) {t d:TypeId} {x:Operand} {x':Opd} (hx:Ql x x'=true) (ht:P.underlying t=some (.slice d)) (hd:(P.info? d).isSome=true)
  {v:AV} {e:Eff} (hs:step Gl tm H na (.sliceZ x')=some (v,e)) {o:Oper} (ho:o.op = .slice t x none (some (.const (.int .i64 0))) (some (.const (.int .i64 0)))):Q34 θ H w na v e ((execOp a.eval o).run P w):=by
 simp only [step] at hs;have hrx:=Ze hT hx;obtain ⟨ti,hti⟩:=Option.isSome_iff_exists.1 hd;have hc0:a.eval (.const (.int .i64 0)) = .int .i64 0:=rfl
 have run:∀ (ad:Option Addr) (len cap:Nat),a.eval x = .slice ad len cap->(execOp a.eval o).run P w = .ok (.value (.slice ad 0 0)) w:=by simp_all [execOp,Instr.sliceAt,Instr.slice,Instr.sliceBounds,Instr.sliceBound,run_underlying,asIntOf,sizeOf,typeInfo]
 have fin:∀ (ad:Option Addr) (len cap:Nat),a.eval x = .slice ad len cap->Q34 θ H w na (.p .slice0) {} ((execOp a.eval o).run P w):=fun ad len cap h=>Qk hH (run ad len cap h) (.p _ _ (.slice0 ad));generalize Q9 tm x'=vx at hs hrx
 split at hs<;>try (cases hs;done)
 all_goals
  simp only [Qv,Lb,Lg] at hs;obtain ⟨rfl,rfl⟩:=hs
 ·grind [Q06]
 ·grind [Q8s]
 ·generalize hax:a.eval x=ax at hrx
  exact eH
 exact jc
theorem Z6q (hT:TmOk θ (Qu θ H) w tm a) (hH:Hp θ H w) {op:BinOp} {neg:Bool} {t d yt:TypeId} {x:Operand} {x':Opd} (hop:(op = .eql∧neg=false)∨(op = .neq∧neg=true)) (hx:Ql x x'=true) (ht:P.underlying t=some (.slice d))
  {v:AV} {e:Eff} (hs:step Gl tm H na (.eqN neg x')=some (v,e)) {o:Oper} (ho:o.op = .binOp op t x (.const (.slice none 0 0)) yt):Q34 θ H w na v e ((execOp a.eval o).run P w):=by
 simp only [step] at hs;have hrx:=Ze hT hx;have hc0:a.eval (.const (.slice none 0 0)) = .slice none 0 0:=rfl
 have run:∀ (ad:Option Addr) (len cap:Nat),a.eval x = .slice ad len cap->(execOp a.eval o).run P w = .ok (.value (.bool (if neg then !ad.isNone else ad.isNone))) w:=by
  intro ad len cap hax
  rcases hop with ⟨rfl,rfl⟩ | ⟨rfl,rfl⟩
  ·have hb:binOp .eql t (.slice ad len cap) (.slice none 0 0)=(do pure (.bool (← Op.equal t (.slice ad len cap) (.slice none 0 0)))):=by rfl
   simp_all [execOp,eqGuard,run_equal_slice_nil]
  simp_all [execOp,eqGuard,run_neq_slice_nil]
 have fin:∀ (ad:Option Addr) (len cap:Nat),a.eval x = .slice ad len cap->Q34 θ H w na (.p (.bool (if neg then !ad.isNone else ad.isNone))) {} ((execOp a.eval o).run P w):=fun ad len cap h=>Qk hH (run ad len cap h) (Q0d _);generalize Q9 tm x'=vx at hs hrx
 split at hs<;>try (cases hs;done)
 ·grind [Qv,Q06]
 ·simp only [Qv,Lb,Lg] at hs;obtain ⟨rfl,rfl⟩:=hs;generalize hax:a.eval x=ax at hrx
  exact eH
 ·split at hs
  ·rename_i es rows hr;simp only [Qv,Lb,Lg] at hs;obtain ⟨rfl,rfl⟩:=hs;generalize hax:a.eval x=ax at hrx
   exact eH
  simp_all
 split at hs
 ·rename_i es b off len hl;simp only [Qv,Lb,Lg] at hs;obtain ⟨rfl,rfl⟩:=hs;exact jc
 simp_all
def Qzu (fn:Func) (h:fn.name = "internal/bytealg.CountString") (ho:fn.origin = ""):Extern.findNext fn=none∧Extern.find fn=some Extern.BytealgCount.count:=by
 constructor
 ·unfold Extern.findNext;rw [h,ho]
  have h1:Extern.allNextRows.lookup "internal/bytealg.CountString" = none:=by kernel_rfl
  have h2:Extern.allNextRows.lookup "" = none:=by kernel_rfl
  grind
 unfold Extern.find;rw [h,ho]
 have h1:Extern.allGenericRows.lookup "internal/bytealg.CountString" = none:=by kernel_rfl
 have h2:Extern.allTypedRows.lookup "internal/bytealg.CountString" = none:=by kernel_rfl
 have h3:Extern.allRows.lookup "internal/bytealg.CountString" = some Extern.BytealgCount.count:=by kernel_rfl
 grind
def Qr8 (c:UInt8):∀ (l:List UInt8) (n:Nat),Qao l c n=n+Lib.countByte l c
 | [],n=>by rfl
 | b::l,n=>by
  unfold Qao
  by_cases h:b == c
  ·rw [Af h,Qr8 c l (n+1)];grind [Lib.countByte]
  rw [Ae h,Qr8 c l n];simp_all [Lib.countByte]
theorem Qxi (hT:TmOk θ (Qu θ H) w tm a) (hH:Hp θ H w) {c:Call} {g:Nat} {fn:Func} {x' y':Opd} (hcal:c.callee = .value (.func g)) (hfn:P.funcs[g]? = some fn) (hn:fn.name = "internal/bytealg.CountString") (ho':fn.origin = "") (hb:fn.body.isNone=true)
  (hx:Xc c.args.toList [x',y']=true) {v:AV} {e:Eff} (hs:step Gl tm H na (.extCt x' y')=some (v,e)) {o:Oper} (ho:o.op = .call c):Q34 θ H w na v e ((execOp a.eval o).run P w):=by
 obtain ⟨x,y,hargs,hrx,hry⟩:=Q9m hT hx;have hargs:=Q8c hargs;simp only [step] at hs;generalize Q9 tm x'=vx at hs hrx;generalize Q9 tm y'=vy at hs hry;split at hs
 ·rename_i s i n;split at hs
  ·rename_i hi
   have hi:i = .u8:=by simp_all
   subst hi;simp only [Qv,Lb,Lg] at hs;obtain ⟨rfl,rfl⟩:=hs;have e2:=Q3c hry
   have e1:a.eval x = .string ⟨⟨s⟩⟩:=eJ
   obtain ⟨f1,f2⟩:=Qzu fn hn ho'
   have hN:(fn.name == "runtime.NumGoroutine")=false:=by simp_all
   have hrun:=run_callFunc_extern hfn hN hb f1 f2 #[.string ⟨⟨s⟩⟩,.int .u8 n] w;rw [Lib.run_countString] at hrun;refine Qk hH (cv := .int .i64 (Lib.countByte s (UInt8.ofNat n.toNat):Nat)) ?_ ?_
   ·exact d9
   rw [Qr8,Mi];exact .p _ _ (.int _ _)
  cases hs
 cases hs
theorem Qqm (hT:TmOk θ (Qu θ H) w tm a) (hH:Hp θ H w) {s d:TypeId} {i:IntKind} (hs0:P.underlying s=some (.int i)) (hd:P.underlying d=some .string) {x:Operand} {x':Opd} (hx:Ql x x'=true)
  {v:AV} {e:Eff} (hs:step Gl tm H na (.runeStr x')=some (v,e)) {o:Oper} (ho:o.op = .convert s d x):Q34 θ H w na v e ((execOp a.eval o).run P w):=by
 simp only [step] at hs;have hrx:=Ze hT hx;generalize Q9 tm x'=vx at hs hrx;split at hs
 ·rename_i kk n;simp only [Qv,Lb,Lg] at hs;obtain ⟨rfl,rfl⟩:=hs;have e1:=Q3c hrx
  have hc:(convert s d (.int kk n)).run P w = .ok (.string (Utf8.encode n)) w:=by
   unfold convert;simp [run_underlying hs0,run_underlying hd,Conv.intToString,Result.andThen]
  have e2:(Utf8.encode n)=⟨⟨(Utf8.encode n).data.toList⟩⟩:=rfl;refine Qk (cv := .string (Utf8.encode n)) hH (by simp [execOp,ho,e1,hc,Result.andThen]) ?_;exact .p _ _ (.str _)
 cases hs
theorem Qr9 (hT:TmOk θ (Qu θ H) w tm a) (hH:Hp θ H w) {t:TypeId} {d:TypeDesc} (ht:P.underlying t=some d) (hd:∀ ms,d ≠ .interface ms) {x:Operand} {x':Opd} (hx:Ql x x'=true)
  {v:AV} {e:Eff} (hs:step Gl tm H na (.mkIface t x')=some (v,e)) {o:Oper} (ho:o.op = .makeInterface t x):Q34 θ H w na v e ((execOp a.eval o).run P w):=by
 simp only [step,Qv,Lb,Lg] at hs;obtain ⟨rfl,rfl⟩:=hs;refine Qk (cv := .iface t (a.eval x)) hH ?_ (.iface t _ _ (Ze hT hx))
 have:(Instr.makeInterface t (a.eval x)).run P w = .ok (.iface t (a.eval x)) w:=by
  unfold Instr.makeInterface;simp only [Sem.run_bind,run_underlying ht,Result.andThen]
  cases d<;>first | rfl | exact absurd rfl (hd _)
 simp [execOp,ho,this,Result.andThen]
theorem Qpe {θ:Th} {S:Nat->Prop} {w:World} {v u:AV} {cv cu:Value} (h1:RelV θ S w v cv) (h2:RelV θ S w u cu):RelV θ S w (.tuple [v,u]) (.tuple #[cv,cu]):=
 .tuple _ _ rfl fun i x hi=>by
  match i with
  | 0=>simp at hi;subst hi;exact h1
  | 1=>simp at hi;subst hi;exact h2
  | i+2=>simp at hi
theorem Quc (hT:TmOk θ (Qu θ H) w tm a) (hH:Hp θ H w) {t xt:TypeId} {d:TypeDesc} (ht:P.underlying t=some d) (hd:∀ ms,d ≠ .interface ms) {z:List PV} {agg ok:Bool} (hz:Qeo P t z agg=true) {x:Operand} {x':Opd} (hx:Ql x x'=true)
  {v:AV} {e:Eff} (hs:step Gl tm H na (.asserT t z agg ok x')=some (v,e)) {o:Oper} (ho:o.op = .typeAssert x xt t ok):Q34 θ H w na v e ((execOp a.eval o).run P w):=by
 simp only [step] at hs;have hrx:=Ze hT hx;generalize Q9 tm x'=vx at hs hrx
 have key:∀ (u:TypeId) (q:AV) (cq:Value),a.eval x = .iface u cq->RelV θ (Qu θ H) w q cq ->
   (if u=t then Qv (if ok then .tuple [q,.p (.bool true)] else q) else if ok=true then (sOf agg (z.map .p)).bind fun z=>Qv (.tuple [z,.p (.bool false)]) else none)=some (v,e)->Q34 θ H w na v e ((execOp a.eval o).run P w):=by
  intro u q cq hax hq hs
  by_cases hu:u=t
  ·subst hu;rw [Af rfl] at hs;simp only [Qv,Lb,Lg] at hs;obtain ⟨rfl,rfl⟩:=hs
   have run:(Instr.typeAssert (.iface u cq) xt u ok).run P w = .ok (if ok then .tuple #[cq,.bool true] else cq) w:=by simp_all [Instr.typeAssert,run_underlying]
   refine Qk (cv:=if ok then .tuple #[cq,.bool true] else cq) hH (by simp_all [execOp]) ?_
   grind [Qpe,Q0d]
  rw [Ae hu] at hs
  cases ok with
  | false=>simp_all
  | true=>
   simp only [Ak] at hs;obtain ⟨zv,h1,h2⟩:=Ls.1 hs;simp only [Qv,Lb,Lg] at h2;obtain ⟨rfl,rfl⟩:=h2;obtain ⟨cz,h3,h4⟩:=Qct (θ := θ) (S:=Qu θ H) (w:=w) hz h1
   simp_all [Instr.typeAssert,run_underlying,Qk,execOp,Qpe,Q0d]
 generalize hax:a.eval x=ax at hrx;split at hs
 ·cases hrx<;>grind
 ·cases hrx with
  | p _ _ hp=>
   cases hp with
   | iface _ _ cq hq=>exact key _ _ _ hax (.p _ _ hq) hs
 simp_all
def Z06 {t u:TypeId} {q:Value} {ms:Array (String×TypeId)} (h:P.underlying t=some (.interface ms)) (n:Nat):(Op.equalIn (n+1) t (.iface u q) .nilIface).run P w = .ok false w:=df
def Z2f {t:TypeId} {ms:Array (String×TypeId)} (h:P.underlying t=some (.interface ms)) (n:Nat):(Op.equalIn (n+1) t .nilIface .nilIface).run P w = .ok true w:=df
def Z0w {t:TypeId} {f:Fn} {A B:Array Value} {ps rs:Array TypeId} {va:Bool} (h:P.underlying t=some (.func ps rs va)) (n:Nat):(Op.equalIn (n+1) t (.func f A B) .nilFunc).run P w = .ok false w:=df
def Z1h {t:TypeId} {ps rs:Array TypeId} {va:Bool} (h:P.underlying t=some (.func ps rs va)) (n:Nat):(Op.equalIn (n+1) t .nilFunc .nilFunc).run P w = .ok true w:=df
def Qby {op:BinOp} {neg:Bool} {t:TypeId} {x y:Value} {b:Bool} (hop:(op = .eql∧neg=false)∨(op = .neq∧neg=true)) (h1:binOp .eql t x y=(do pure (.bool (← Op.equal t x y)))) (h2:binOp .neq t x y=(do pure (.bool (!(← Op.equal t x y)))))
  (h:(Op.equalIn (9999+1) t x y).run P w = .ok b w):(binOp op t x y).run P w = .ok (.bool (if neg then !b else b)) w:=by
 have h':(Op.equal t x y).run P w = .ok b w:=h
 rcases hop with ⟨rfl,rfl⟩ | ⟨rfl,rfl⟩<;>simp_all
theorem Z68 (hT:TmOk θ (Qu θ H) w tm a) (hH:Hp θ H w) {op:BinOp} {neg:Bool} {t yt:TypeId} {ms:Array (String×TypeId)} {x:Operand} {x':Opd} (hop:(op = .eql∧neg=false)∨(op = .neq∧neg=true)) (hx:Ql x x'=true) (ht:P.underlying t=some (.interface ms))
  {v:AV} {e:Eff} (hs:step Gl tm H na (.eqI neg x')=some (v,e)) {o:Oper} (ho:o.op = .binOp op t x (.const .nilIface) yt):Q34 θ H w na v e ((execOp a.eval o).run P w):=by
 simp only [step] at hs;have hrx:=Ze hT hx;have hc0:a.eval (.const .nilIface) = .nilIface:=rfl
 have k1:∀ u q,a.eval x = .iface u q->v = .p (.bool neg)->e = {}->Q34 θ H w na v e ((execOp a.eval o).run P w):=by
  intro u q hax h1 h2;subst h1 h2;refine Qk hH ?_ (Q0d _);have hb:=Qby (P:=P) (w:=w) hop rfl rfl (Z06 (u:=u) (q:=q) ht 9999)
  have hg:eqGuard op t x (.const .nilIface) (.iface u q) .nilIface=pure ():=by cases op<;>rfl
  exact bO
 have k2:a.eval x = .nilIface->v = .p (.bool (!neg))->e = {}->Q34 θ H w na v e ((execOp a.eval o).run P w):=by
  intro hax h1 h2;subst h1 h2;refine Qk hH ?_ (Q0d _);have hb:=Qby (P:=P) (w:=w) hop rfl rfl (Z2f ht 9999);have hg:eqGuard op t x (.const .nilIface) .nilIface .nilIface=pure ():=eqGuard_nil_constR _ _ _ _;exact bO
 exact bh
theorem Z5k (hT:TmOk θ (Qu θ H) w tm a) (hH:Hp θ H w) {op:BinOp} {neg:Bool} {t yt:TypeId} {ps rs:Array TypeId} {va:Bool} {x:Operand} {x':Opd} (hop:(op = .eql∧neg=false)∨(op = .neq∧neg=true)) (hx:Ql x x'=true) (ht:P.underlying t=some (.func ps rs va))
  {v:AV} {e:Eff} (hs:step Gl tm H na (.eqF neg x')=some (v,e)) {o:Oper} (ho:o.op = .binOp op t x (.const .nilFunc) yt):Q34 θ H w na v e ((execOp a.eval o).run P w):=by
 simp only [step] at hs;have hrx:=Ze hT hx;have hc0:a.eval (.const .nilFunc) = .nilFunc:=rfl
 have k1:∀ f A B,a.eval x = .func f A B->v = .p (.bool neg)->e = {}->Q34 θ H w na v e ((execOp a.eval o).run P w):=by
  intro f A B hax h1 h2;subst h1 h2;refine Qk hH ?_ (Q0d _);have hb:=Qby (P:=P) (w:=w) hop rfl rfl (Z0w (f:=f) (A:=A) (B:=B) ht 9999)
  have hg:eqGuard op t x (.const .nilFunc) (.func f A B) .nilFunc=pure ():=by cases op<;>rfl
  exact bO
 have k2:a.eval x = .nilFunc->v = .p (.bool (!neg))->e = {}->Q34 θ H w na v e ((execOp a.eval o).run P w):=by
  intro hax h1 h2;subst h1 h2;refine Qk hH ?_ (Q0d _);have hb:=Qby (P:=P) (w:=w) hop rfl rfl (Z1h ht 9999)
  have hg:eqGuard op t x (.const .nilFunc) .nilFunc .nilFunc=pure ():=by cases op<;>rfl
  exact bO
 exact bh
def Qot {r:Result Next} {w':World} {v:AV} {cv:Value} (hH:Hp θ H w) {b:Nat} {o o':AObj} {l:Loc} (hb:H[b]? = some o) (hlive:o.live=true) (hl : θ b=some l) (hr:r = .ok (.value cv) w')
  (hv:RelV θ (Qu θ (H.set b o')) w' v cv) (hsz:w'.heap.size=w.heap.size) (hsame:∀ c,c≠l.blk->w'.heap[c]? = w.heap[c]?) (hos:w'.os=w.os) (ht:w'.tape=w.tape) (hout:w'.output=w.output)
  (ho:∀ (S':Nat->Prop),(∀ c,Qu θ (H.set b o') c->S' c)->(∀ c,c<w.heap.size->Qu θ H c->S' c∧w'.heap[c]? = w.heap[c]?)->RelObj θ S' w' o' l)
  (hob:∀ c,o.occ l c↔l.blk=c:=by intro c;exact Iff.rfl) (hoc:o'.live=true->∀ l c,o'.occ l c->o.occ l c:=by intro h l c e;first | exact e | cases h):Q34 θ H w na v { set:=some (b,o') } r:=by
 obtain ⟨h1,h2⟩:=Qle (o':=o') hH hb hlive hl w' hsz hsame hos ht hout hob hoc;exact ⟨cv,w',θ,.inl hr,hv,h1 (ho _ (fun c h=>h) (fun c hc hf=>h2.free c hc hf)),h2,fun _ _=>rfl,fun _=>rfl⟩
theorem Z63 (hT:TmOk θ (Qu θ H) w tm a) (hH:Hp θ H w) {c:Call} {t kt et:TypeId} (hcal:c.callee = .builtin .delete) {m' k':Opd} (hx:Xc c.args.toList [m',k']=true) (hty:c.argTypes[0]? = some t)
  (ht:P.underlying t=some (.map kt et)) {kk:Nat} {d:TypeDesc} (hd:P.underlying kt=some d) (hk:Q16 (some d) kk=true)
  {v:AV} {e:Eff} (hs:step Gl tm H na (.del kk m' k')=some (v,e)) {o:Oper} (ho:o.op = .call c):Q34 θ H w na v e ((execOp a.eval o).run P w):=by
 obtain ⟨m,k,hargs,hrm,hrk⟩:=Q9m hT hx;have hargs:=Q8c hargs;simp only [step] at hs;generalize Q9 tm m'=vm at hs hrm;generalize Q9 tm k'=vk at hs hrk;generalize hak:a.eval k=ck at hrk;generalize ham:a.eval m=cm at hrm;split at hs
 ·rename_i r ke
  cases hb:H[r]? with
  | none=>simp_all
  | some ob=>
   cases ob with
   | map es=>
    simp only [hb] at hs;split at hs
    ·cases hs
    rename_i hki
    have hki:Q73 kk ke=true:=by simp_all
    obtain ⟨l,E,clock,hl,rfl,hE,hn,hbo,hrel⟩:=Qx1 hH hrm hb
    have hrk:RelP (Qu θ H) w ke ck:=dV
    have hrunE:∀ w',(Builtin.delete_ c.argTypes o.type #[.map (some l.blk),ck]).run P w = .ok (.tuple #[]) w'->(execOp a.eval o).run P w = .ok (.value (.tuple #[])) w':=eO
    cases hf:Q43 ke 0 es with
    | none=>simp_all
    | some res=>
     have hfind:=Q98 (θ := θ) hk hki hrk es E.toList 0 (by omega) (fun j k v hj=>by
      simp_all) res hf
     rcases hfind with ⟨rfl,hnow⟩ | ⟨j,v0,e0,rfl,hnow,hj,hv0,hsame⟩
     ·simp only [hf,Lb,Lg] at hs;obtain ⟨rfl,rfl⟩:=hs
      have hrun:(Builtin.delete_ c.argTypes o.type #[.map (some l.blk),ck]).run P w = .ok (.tuple #[]) { w with heap:=w.heap.setIfInBounds l.blk (.map E clock) }:=cR
      refine Qot (w' := { w with heap:=w.heap.setIfInBounds l.blk (.map E clock) }) hH hb rfl hl (hrunE _ hrun) Q4n (by simp) (fun c hc=>by grind) rfl rfl rfl (fun S' h1 h2=>?_);have hm:∀ {x:AV} {v:Value},RelV θ (Qu θ H) w x v->RelV θ S' _ x v:=fun r=>r.mono (fun _ _ e=>e) h2;have hmp:∀ {x:PV} {v:Value},RelP (Qu θ H) w x v->RelP S' _ x v:=fun r=>r.mono h2;exact ⟨E,clock,by grind,hn,hbo,fun i k v hi=>⟨hmp (hrel i k v hi).1,hm (hrel i k v hi).2⟩⟩
     simp only [hf,Lb,Lg] at hs;obtain ⟨rfl,rfl⟩:=hs;simp only [Mi] at hnow ⊢
     have hj':E[j]? = some e0:=by simp_all
     have hjl:j<E.size:=(Mh.1 hj').1
     have hrun:(Builtin.delete_ c.argTypes o.type #[.map (some l.blk),ck]).run P w = .ok (.tuple #[]) { w with heap:=w.heap.setIfInBounds l.blk (.map (E.eraseIdxIfInBounds j) clock) }:=cR
     refine Qot (w' := { w with heap:=w.heap.setIfInBounds l.blk (.map (E.eraseIdxIfInBounds j) clock) }) hH hb rfl hl (hrunE _ hrun) Q4n (by simp) (fun c hc=>by grind) rfl rfl rfl (fun S' h1 h2=>?_);have hm:∀ {x:AV} {v:Value},RelV θ (Qu θ H) w x v->RelV θ S' _ x v:=fun r=>r.mono (fun _ _ e=>e) h2;have hmp:∀ {x:PV} {v:Value},RelP (Qu θ H) w x v->RelP S' _ x v:=fun r=>r.mono h2
     have hget:∀ i,(E.eraseIdxIfInBounds j).getD i default=E.getD (if i<j then i else i+1) default:=by grind [Qqn]
     refine ⟨E.eraseIdxIfInBounds j,clock,by grind,by grind,hbo.erase _,fun i k v hi=>?_⟩
     grind
   | cells _=>simp_all
   | strIter _ _=>simp_all
   | dead=>simp_all
   | ext _ _=>simp_all
 simp_all
def Qrz (hT:TmOk θ (Qu θ H) w tm a) (hH:Hp θ H w) (hG:GlobOK Gl θ H w) (hna:AlOk θ H na) {o:Oper} {c:COp} (hk:Qa4 P o.op c=true) (hc:c.isCall=false) {v:AV} {e:Eff}
  (hs:step Gl tm H na c=some (v,e)):Q34 θ H w na v e ((execOp a.eval o).run P w):=by
 obtain ⟨dst,op,ty,pos,aft,gd⟩:=o
 simp only at hk
 unfold Qa4 at hk;split at hk
 ·grind [Qro]
 ·grind [Qro]
 ·grind [Z1k]
 ·grind [Qvw]
 ·grind [Z6w]
 ·grind [Qyf,Array.mem_iff_getElem]
 ·grind [Qjx]
 ·grind [Z2d]
 ·grind [Qzn]
 ·grind [Qos]
 ·grind [Z70]
 ·grind [Z6b]
 ·grind [Z7i]
 ·grind [Z76]
 ·grind [Qnf]
 ·grind [Qnf]
 ·grind [Z6k]
 ·grind [Z72]
 ·grind [Z0k]
 ·simp only [Le] at hk;obtain ⟨h1,h2⟩:=hk;split at h2
  ·rename_i hu1 hu2;simp only [step] at hs;have hrx:=Ze hT h1;split at hs
   ·rename_i str hv;rw [hv] at hrx;simp only [Option.map_none,Qbp,Lk,Lh,and_self,Ak,List.take_length,Br,Qv,Lb,Lg] at hs;obtain ⟨rfl,rfl⟩:=hs;exact Qk hH (by simp [execOp,Qb8 hrx,convert,run_underlying hu1,run_underlying hu2,Result.andThen]) (.p _ _ (.str str))
   simp_all
  simp_all
 ·grind [Qrc]
 ·grind [Qyn]
 ·grind [Qg0]
 ·grind [Qg0]
 ·grind [Qr6]
 ·grind [Qv9]
 ·grind [Qyw]
 ·grind [Q6d,Qka]
 ·grind [Q6d,Qka]
 ·grind [Q6d,Quz]
 ·grind [Qn3]
 ·grind [Qpf]
 ·grind [Qyd]
 ·grind [Qne]
 ·grind [Qmi]
 ·grind [Qzp]
 ·grind [Qll]
 ·grind [Qpn]
 ·grind [Qnl]
 ·grind [Qqj]
 ·grind [Qup]
 ·grind [Qyu]
 ·grind [Que]
 ·rename_i esz bytes s x;split at hk
  ·rename_i hcal;simp only [Le] at hk;obtain ⟨h1,h2⟩:=hk;split at h2
   ·rename_i t u hty;split at h2
    ·rename_i el hu;simp only [Le,Ag] at h2;obtain ⟨⟨⟨⟨⟨h3,h4⟩,h5⟩,h6⟩,h7⟩,h8⟩:=h2;obtain ⟨i,hi,hsz⟩:=Qde h3;have hby:=Qfc h4 hi;simp only [hi,Mw] at h7;cases hz:i.zero<;>grind [Qer]
    simp_all
   simp_all
  simp_all
 ·rename_i esz bytes s x;split at hk
  ·rename_i hcal;simp only [Le] at hk;obtain ⟨h1,h2⟩:=hk;split at h2
   ·rename_i t u hty;split at h2
    ·rename_i el hu;simp only [Le,Ag] at h2;obtain ⟨⟨⟨⟨⟨h3,h4⟩,h5⟩,h6⟩,h7⟩,h8⟩:=h2;obtain ⟨i,hi,hsz⟩:=Qde h3;have hby:=Qfc h4 hi;simp only [hi,Mw] at h7;cases hz:i.zero<;>grind [Qqg]
    simp_all
   simp_all
  simp_all
 ·grind [Qde,Z0o]
 ·grind [Z5z]
 ·grind [Z5a]
 ·cases hc
 ·cases hc
 ·grind [Quu]
 ·grind [Quo]
 ·grind [Z6q]
 ·grind [Qx7]
 ·grind [Qqm]
 ·grind [Qxi]
 ·grind [Qr9]
 ·grind [Quc]
 ·grind [Q6d,Z63]
 ·grind [Z68]
 ·grind [Z5k]
 ·simp_all [step]
 grind
end
end
end Go.Av
