/- Part of FromsnNames: the law returns true; no condition. -/
import Derived.Test.YtfgpphgmjcnleaaGreatDoorRegS
import Derived.Test.YtfgpphgmjcnleaaGreatDoorAvAbb
import Derived.Test.YtfgpphgmjcnleaaGreatDoorAvClosed4
import Derived.Test.YtfgpphgmjcnleaaGreatDoorAvGc
import Derived.Test.YtfgpphgmjcnleaaGreatDoorAvDrawt
set_option linter.all false
namespace Go.Av
noncomputable section
theorem Ql0 {ρ:Nat->Nat} {H H0 H1:List AObj}:∀ (r:List AObj) (i:Nat),(∀ j o,r[j]? = some o->o.live=true->Qrs ρ H H0 H1 (i+j) o)->Q8w ρ H H0 H1 i r
 | [],_,_=>trivial
 | o::r,i,h=>by
  have t:Q8w ρ H H0 H1 (i+1) r:=Ql0 r (i+1) fun j o' hj hl=>by have:=h (j+1) o' (by simpa using hj) hl;rwa [show i+(j+1)=i+1+j by omega] at this
  cases o with
  | dead=>exact t
  | cells cs=>exact ⟨h 0 _ rfl rfl,t⟩
  | map es=>exact ⟨h 0 _ rfl rfl,t⟩
  | strIter s p=>exact ⟨h 0 _ rfl rfl,t⟩
  | ext R a=>exact ⟨h 0 _ rfl rfl,t⟩
theorem Qfb (n:Nat):∀ args:List PV,refsLt.refsLts n (args.map .p)=true
 | []=>rfl
 | _::l=>Qfb n l
section
variable {P:Program} {Gl:Nat->Option (List PV)} {f:Nat} {args:List PV} {r:PV} {R R':Reg}
theorem Qjg (h:GC P Gl f (.ptr 0 0::args.map .p) [.dead,.ext R 0] (.p r) [.dead,.dead,.ext R' 0]):Ug P Gl f R args r R':=by
 intro H b a hb vs hvs;have hbl:=(La.1 hb).1;refine Qgs h (fun i=>if i=0 then a else b) (H:=H) ⟨by simp [hvs.1],fun i v u hv hu=>?_⟩ ⟨.inl ⟨.ext R a,hb,.inl rfl⟩,trivial⟩ (by simp [Ql2,List.range,List.range.loop,AObj.live]) (Qfb 2 args) rfl (H.set b .dead ++ [.ext R' a]) (by simp) (Ql0 _ 0 fun j o hj hl=>?_) (.p r) rfl ⟨rfl,rfl⟩
 ·cases i with
  | zero=>cases hv;cases hu;exact .same (.ptr 0 0)
  | succ i=>
   simp only [Ba,Lk] at hu
   cases hx:args[i]? with
   | none=>rw [hx] at hu;cases hu
   | some x=>rw [hx] at hu;cases hu;exact .frz v x (hvs.2 i v x hv hx)
 rw [Lv]
 by_cases hj1:j<H.length
 ·rw [Lh (by simpa using hj1)] at hj
  by_cases hjb:j=b
  ·subst hjb;rw [Li hbl] at hj;cases hj;cases hl
  rw [Lg (fun e=>hjb e.symm)] at hj;refine .inl ⟨?_,hj⟩
  have:(b == j)=false:=by simpa using fun e:b=j=>hjb e.symm
  show kdB _ _ _=true;simp [kdB,List.range,List.range.loop,AObj.live,bne,this]
 rw [Lm (by simpa using hj1)] at hj
 have hl1:(H.set b .dead).length=H.length:=by simp
 rw [hl1] at hj
 have h0:j - H.length=0:=by
  by_cases h0:j - H.length=0
  ·exact h0
  rw [Md (by simp;omega)] at hj;cases hj
 rw [h0] at hj;cases hj;refine .inr ⟨2,.ext R' 0,rfl,?_,fun h=>by simp at h,rfl⟩;show H.length+(2 - 2)=j;omega
theorem Qdm (h:Q8 P Gl f (.ptr 0 0::args.map .p) [.dead,.ext R 0] (fun v H=>∃ b,H[b]? = some (.ext R' 0)∧Frz (fun a=>a≠b) H v r)):Ug P Gl f R args r R':=by
 refine Qjg (Qf5 (Lt rfl) (Qo h fun v H' ⟨b,hb,hf⟩=>⟨fun i=>if i=2 then b else i,?_⟩));refine ⟨⟨rfl,fun i v' u hv hu=>?_⟩,⟨.inl ⟨.ext R' 0,hb,.inl rfl⟩,trivial⟩,by simp [Ql2,List.range,List.range.loop,AObj.live],rfl,rfl⟩
 cases i with
 | succ i=>simp at hv
 | zero=>
  cases hv;cases hu;refine .frz v r (Q7p (fun a o h1 h2=>⟨?_,h2⟩) hf)
  have:(b == a)=false:=by simpa using fun e:b=a=>h1 e.symm
  simp [KD,kdB,List.range,List.range.loop,AObj.live,bne,this]
theorem Q20 {cf:CFunc} (hk:Jy P f cf=true) (h:Q00 (EP P Gl) cf (.ptr 0 0::args.map .p) [.dead,.ext R 0] (fun v H=>∃ b,H[b]? = some (.ext R' 0)∧Frz (fun a=>a≠b) H v r)):Ug P Gl f R args r R':=
 Qdm (Q3 hk h)
theorem Qnm (h:Ug P Gl f R args r R') {H:List AObj} {b a:Nat} (hb:H[b]? = some (.ext R a)) {vs:List AV} (hvs:FrzL (fun _=>False) H vs args) {Q:AV->List AObj->Prop} (hq:Q (.p r) (H.set b .dead ++ [.ext R' a])):Q8 P Gl f (.ptr a 0::vs) H Q:=
 Qo (h H b a hb vs hvs) fun v H' ⟨e1,e2⟩=>by subst e1;subst e2;exact hq
theorem cRg {α β:Type} {x:Option α} {F : α->Option β} {r : β} {g : α->PV} {g2 : α->Reg} (h:x.bind F=some r) (hp:∀ {v},x=some v->Ug P Gl f R args (g v) (g2 v)) {H:List AObj} {b a:Nat} (hb:H[b]? = some (.ext R a)) {vs:List AV} (hvs:FrzL (fun _=>False) H vs args)
  {Q:AV->List AObj->Prop} (hq:∀ v,F v=some r->Q (.p (g v)) (H.set b .dead ++ [.ext (g2 v) a])):Q8 P Gl f (.ptr a 0::vs) H Q:=by
 obtain ⟨v,h1,h2⟩:=Vd h;exact Qnm (hp h1) hb hvs (hq v h2)
theorem Qnz (h:Qhl P Gl f) {H:List AObj} (n:Nat) (hn:H.length=n) {Q:AV->List AObj->Prop} (hq:Q (.ptr n 0) (H ++ [.dead,.ext [] n])):Q8 P Gl f [] H Q:=
 Qo (h H) fun v H' ⟨e1,e2⟩=>by subst hn;subst e1;subst e2;exact hq
theorem Qnx {β:Type} {b:Bool} {x y:Option β} {r : β} {G:Prop} (h:cond b x y=some r) (h1:b=true->x=some r->G) (h2:b=false->y=some r->G):G:=by
 cases b with
 | true=>exact h1 rfl h
 | false=>exact h2 rfl h
end
end
end Go.Av
namespace Go.Av
noncomputable section
def Qie:List COper->Nat×Bool
 | []=>(0,true)
 | c::r=>match Qie r with
  | (0,true)=>match Q1v c with
   | true=>(0,true)
   | false=>(1,false)
  | (n,_)=>(n+1,false)
def Qub (q:Nat) (c:COper):Bool:=Nat.beq (c.bef % 2 ^ q) (2 ^ q - 1)
def Qsj (cs:List COper):Nat->Nat->Nat
 | 0,q=>q
 | n+1,q=>match (cs.drop q).all (Qub q) with
  | true=>q
  | false=>Qsj cs n (q+1)
def Qs2 (cs:List COper) (q:Nat):Nat->Nat->Nat
 | 0,p=>p
 | n+1,p=>match Qar p ((cs.drop p).take (q - p)) with
  | true=>p
  | false=>Qs2 cs q n (p+1)
def Qu6 (cs:List COper) (n:Nat):Nat×Nat:=match Qsj cs n (Qie cs).1 with
 | q=>(Qs2 cs q n 0,q)
def Qki:List COper->Bool
 | []=>false
 | c::r=>match c.op.isCall with
  | true=>true
  | false=>Qki r
def Qsc (cs:List COper) (p m:Nat) (c0:COper) (suf:List COper):Bool:=
 Nat.ble m suf.length&&(Qar (cs.take p).length ((c0::suf).take (m+1))&&(((c0::suf).drop (m+1)).all Q1v&&((c0::suf).drop (m+1)).all (fun c=>Nat.beq (c.bef % 2 ^ ((cs.take p).length+(m+1))) (2 ^ ((cs.take p).length+(m+1)) - 1))))
def Q6k {α:Type} (fail : α) (kn:Know2) (EH:Env (Option (AV×List AObj))) (f:Nat) (args:List AV) (H:List AObj) (k:AV->List AObj->List Nat->List Nat->α) : α:=match refsLt.refsLts 0 args with
 | true=>match kn.tab f with
  | some cf=>match Q00 EH cf args [] (fun v H'=>some (v,H')) with
   | some (r,obs)=>match Nat.ble 1 obs.length with
    | true=>k (Js (fun j=>H.length+j) r) (H++obs.map (Q2d (fun j=>H.length+j))) [] (List.range' H.length obs.length)
    | false=>fail
   | none=>fail
  | none=>fail
 | false=>fail
def Q82 {α:Type} (fail : α) (kn:Know2) (EV:Env (Option PV)) (EA:Env (Option AV)) (EH:Env (Option (AV×List AObj))) (f:Nat) (args:List AV) (H:List AObj) (k:AV->List AObj->List Nat->List Nat->α) : α:=
 match AV.toPVs args with
 | some pa=>match Q4y kn EV f pa with
  | some r=>k (.p r) H [] []
  | none=>Q6k fail kn EH f args H k
 | none=>match Q96 H args with
  | some pa=>match Q4y kn EV f pa with
   | some r=>match Wf r with
    | true=>k (.p r) H (Jz H args) []
    | false=>Gz fail (fun _=>match (Jz H args).all (fun a=>Nat.blt a H.length) with
     | true=>k (.p r) (J7 (Qkb (Jz H args)) H) (Jz H args) (Jz H args)
     | false=>fail) kn EA f args H k
   | none=>Gz fail (fun _=>Q6k fail kn EH f args H k) kn EA f args H k
  | none=>match args with
  | .ptr a 0::rest=>match AV.toPVs rest with
   | some pr=>match H[a]? with
    | some (.cells cs)=>match Qq4 cs with
     | some cells=>match Qe5 kn EV f cells pr with
      | some (.tuple [r,.agg cells'])=>k (.p r) (H.set a (.cells (cells'.map .p))) [a] [a]
      | _=>Gz fail (fun _=>Q6k fail kn EH f args H k) kn EA f args H k
     | none=>Gz fail (fun _=>Q6k fail kn EH f args H k) kn EA f args H k
    | _=>Gz fail (fun _=>Q6k fail kn EH f args H k) kn EA f args H k
   | none=>Gz fail (fun _=>Q6k fail kn EH f args H k) kn EA f args H k
  | _=>Gz fail (fun _=>Q6k fail kn EH f args H k) kn EA f args H k


def Xf (kn:Know2) (Gl:Nat->Option (List PV)) (N:Nat):Nat->(β:Type)->Env (Option β)
 | 0,_ => { fail:=none,cmp:=⟨Q6,rfl⟩,scmp:=⟨Q31,rfl⟩,glob:=Gl,call:=fun _ _ _ _=>none,loop:=fun _ _ _ _=>none,join:=fun _ _ _ _ _=>none,draw:=fun _ _ _ _=>none }
 | d+1,β=>Env.mk none ⟨Q6,rfl⟩ ⟨Q31,rfl⟩ Gl
   (Qo7 kn (Xf kn Gl N d PV) fun f args H k=>match kn.tab f with
     | some cf=>Q00 (Xf kn Gl N d β) cf args H k
     | none=>none)
   (fun b tm H k=>Qfl (Xf kn Gl N d β) b N tm H k)
   (fun a b tm H k=>ev (Xf kn Gl N d β) a tm H fun e tm H=>match e with
    | .normal=>ev (Xf kn Gl N d β) b tm H k
    | .exit i=>k (.exit i) tm H
    | .ret=>k .ret tm H)
   (fun ops tm H k=>match Gy 0 ops with
    | (pre,suf)=>match Qki pre with
     | true=>match Qu6 ops ops.length with
      | (p,q)=>match Nat.blt p pre.length with
       | true=>match ops.drop p with
        | c0::suf2=>match Qsc ops p (q - p - 1) c0 suf2 with
         | true=>Zk (Xf kn Gl N d β) (Q82 none kn (Xf kn Gl N d PV) (Xf kn Gl N d AV) (Xf kn Gl N d (AV×List AObj))) (fun tm H=>Zc (Xf kn Gl N d β) k (c0::suf2) tm H) (ops.take p) tm H 0 []
         | false=>Zk (Xf kn Gl N d β) (Q82 none kn (Xf kn Gl N d PV) (Xf kn Gl N d AV) (Xf kn Gl N d (AV×List AObj))) (fun tm H=>Zc (Xf kn Gl N d β) k suf tm H) pre tm H 0 []
        | []=>Zk (Xf kn Gl N d β) (Q82 none kn (Xf kn Gl N d PV) (Xf kn Gl N d AV) (Xf kn Gl N d (AV×List AObj))) (fun tm H=>Zc (Xf kn Gl N d β) k suf tm H) pre tm H 0 []
       | false=>Zk (Xf kn Gl N d β) (Q82 none kn (Xf kn Gl N d PV) (Xf kn Gl N d AV) (Xf kn Gl N d (AV×List AObj))) (fun tm H=>Zc (Xf kn Gl N d β) k suf tm H) pre tm H 0 []
     | false=>Zk (Xf kn Gl N d β) (Q82 none kn (Xf kn Gl N d PV) (Xf kn Gl N d AV) (Xf kn Gl N d (AV×List AObj))) (fun tm H=>Zc (Xf kn Gl N d β) k suf tm H) pre tm H 0 [])
section
variable {P:Program} {Gl:Nat->Option (List PV)} {kn:Know2}
theorem Jh (hkn:KnowOk2 P Gl kn) {β:Type} {EH:Env (Option (AV×List AObj))} (hEH:∀ r,Hom EH (EP P Gl) r) {r : β} {f:Nat} {args:List AV} {H:List AObj}
  {kO:AV->List AObj->List Nat->List Nat->Option β} {kP:AV->List AObj->List Nat->List Nat->Prop} (hk:∀ v H' R A,kO v H' R A=some r->kP v H' R A) (he:Q6k none kn EH f args H kO=some r):Qv P Gl f args H kP:=by
 unfold Q6k at he;split at he
 ·rename_i h1;split at he
  ·rename_i cf hcf;split at he
   ·rename_i v obs hv;split at he
    ·rename_i h0;have hc:GC P Gl f args [] v obs:=Q3 (hkn.tab f cf hcf) (Jq (hEH (v,obs)) (fun v0 H' h=>by cases h;exact ⟨rfl,rfl⟩) hv)
     exact Qee hc h0 ⟨rfl,fun i v u hv hu=>by
      rw [hv] at hu;cases hu;have:=RenV.same (ρ:=fun i=>i) (K:=fun _=>False) (H:=H) v
      rwa [Qds] at this⟩ h1 _ rfl rfl rfl (hk _ _ _ _ he)
    cases he
   cases he
  cases he
 cases he
theorem Q74 (hkn:KnowOk2 P Gl kn) {β:Type} {EV:Env (Option PV)} (hEV:∀ r,Hom EV (EP P Gl) r) {EA:Env (Option AV)} (hEA:∀ r,Hom EA (EP P Gl) r) {EH:Env (Option (AV×List AObj))} (hEH:∀ r,Hom EH (EP P Gl) r) {r : β} {f:Nat} {args:List AV} {H:List AObj}
  {kO:AV->List AObj->List Nat->List Nat->Option β} {kP:AV->List AObj->List Nat->List Nat->Prop} (hk:∀ v H' R A,kO v H' R A=some r->kP v H' R A) (he:Q82 none kn EV EA EH f args H kO=some r):Qv P Gl f args H kP:=by
 unfold Q82 at he;split at he
 ·rename_i pa h1;split at he
  ·rename_i x h2;have hp:=Yx hkn (hEV x) h2;exact .inl ⟨[],[],.p x,fun s h=>(by cases h),fun H2 _=>Y1 hp (Vf args pa h1) ⟨rfl,rfl⟩,hk _ _ _ _ he⟩
  exact Jh hkn hEH hk he
 split at he
 ·rename_i pa h1;split at he
  ·rename_i x h2;split at he
   ·rename_i h3;have q:=Uj args pa h1;have hp:=Yx hkn (hEV x) h2;exact .inl ⟨Jz H args,[],.p x,fun s h=>(by cases h),fun H2 hH2=>Q5x hp ⟨q.1,fun i v x hv hx=>Q7p (fun a o hk ho=>⟨trivial,hH2 a hk o ho⟩) (q.2 i v x hv hx)⟩ h3 ⟨rfl,rfl⟩,hk _ _ _ _ he⟩
   refine Yq hkn hEA hk (fun hz=>?_) he;split at hz
   ·rename_i hR;have q:=Uj args pa h1;have hp:=Yx hkn (hEV x) h2;exact Qbk _ hp q (fun a ha=>by simpa using Lp.1 hR a ha) (hk _ _ _ _ hz)
   cases hz
  exact Yq hkn hEA hk (fun h=>Jh hkn hEH hk h) he
 ·split at he
  ·rename_i a rest _ _;split at he
   ·rename_i pr h1;split at he
    ·rename_i cs ha;split at he
     ·rename_i cells hc;split at he
      ·rename_i x cells' h2;have hm:=Q3h hkn (hEV _) h2;refine .inl ⟨[a],[(a,.cells (cells'.map .p))],.p x,fun s hs=>?_,fun H2 hH2=>?_,hk _ _ _ _ he⟩
       ·simp at hs;subst hs;exact (La.1 ha).1
       refine Q9d hm ?_ (Vf rest pr h1) ⟨rfl,rfl⟩;rw [hH2 a (by simp) _ ha,Qdb _ _ hc]
      exact Yq hkn hEA hk (fun h=>Jh hkn hEH hk h) he
     exact Yq hkn hEA hk (fun h=>Jh hkn hEH hk h) he
    exact Yq hkn hEA hk (fun h=>Jh hkn hEH hk h) he
   exact Yq hkn hEA hk (fun h=>Jh hkn hEH hk h) he
  ·exact Yq hkn hEA hk (fun h=>Jh hkn hEH hk h) he


theorem Qe6 (hkn:KnowOk2 P Gl kn) (N:Nat):∀ (d:Nat) (β:Type) (r : β),Hom (Xf kn Gl N d β) (EP P Gl) r
 | 0,β,r=>⟨rfl,rfl,fun f a H kO kP hk he=>(by simp only [Xf] at he;cases he),fun b tm H kO kP hk he=>(by simp only [Xf] at he;cases he),fun a b tm H kO kP hk he=>(by simp only [Xf] at he;cases he),fun b tm H kO kP hk he=>(by simp only [Xf] at he;cases he)⟩
 | d+1,β,r=>by
  have ih:=Qe6 hkn N d;refine ⟨rfl,rfl,fun f a H kO kP hk he=>?_,fun b tm H kO kP hk he=>?_,fun a b tm H kO kP hk he=>?_,fun ops tm H kO kP hk he=>?_⟩
  ·simp only [Xf] at he;refine Qf9 hkn (ih PV) hk (fun he=>?_) he
   cases ht:kn.tab f with
   | none=>simp only [ht] at he;cases he
   | some cf=>
    simp only [ht] at he;exact Q3 (hkn.tab f cf ht) (Jq (ih β r) hk he)
  ·simp only [Xf] at he;exact Qk N (Qab (ih β r) hk N tm H he)
  ·simp only [Xf] at he;refine Qdt (Q38 (ih β r) a tm H _ _ (fun e v H' hv=>?_) he)
   cases e with
   | normal=>exact Q38 (ih β r) b v H' kO kP hk hv
   | exit i=>exact hk _ _ _ hv
   | ret=>exact hk _ _ _ hv
  ·have old:Zk (Xf kn Gl N d β) (Q82 none kn (Xf kn Gl N d PV) (Xf kn Gl N d AV) (Xf kn Gl N d (AV×List AObj))) (fun tm H=>Zc (Xf kn Gl N d β) kO (Gy 0 ops).2 tm H) (Gy 0 ops).1 tm H 0 []=some r ->
     Q27 P Gl ops tm H kP:=by
    intro he2;obtain ⟨h1,h2⟩:=Q5q ops 0;rw [Lv] at h2;generalize (Gy 0 ops).1=pre at he2 h1 h2;generalize (Gy 0 ops).2=suf at he2 h1 h2;clear he;subst h1
    cases suf with
    | nil=>
     rw [Mv];exact Qa (Jp (dP:=Qv P Gl) (ih β r) (fun f a H kO kP hk he=>Q74 hkn (ih PV) (ih AV) (ih (AV×List AObj)) hk he) hk pre tm H 0 [] he2)
    | cons c0 suf=>exact Q9x h2 (Jp (dP:=Qv P Gl) (ih β r) (fun f a H kO kP hk he=>Q74 hkn (ih PV) (ih AV) (ih (AV×List AObj)) hk he) (fun tm' H' hv=>Q1u (ih β r) hk _ tm' H' hv) pre tm H 0 [] he2)
   simp only [Xf] at he;split at he
   ·split at he
    ·split at he
     ·rename_i c0 suf2 hd;split at he
      ·rename_i hb;simp only [Qsc,Lb] at hb;obtain ⟨b1,b2,b3,b4⟩:=hb;exact Q8s _ _ hd b1 b2 b3 b4 (Jp (dP:=Qv P Gl) (ih β r) (fun f a H kO kP hk he=>Q74 hkn (ih PV) (ih AV) (ih (AV×List AObj)) hk he) (fun tm' H' hv=>Q1u (ih β r) hk _ tm' H' hv) _ tm H 0 [] he)
      exact old he
     exact old he
    exact old he
   ·exact old he

theorem Qf8 (hkn:KnowOk2 P Gl kn) {N d:Nat} {f:Nat} {args:List PV} {r:PV} (h:Q4y kn (Xf kn Gl N d PV) f args=some r):Q5r P Gl f args r:=
 Yx hkn (Qe6 hkn N d PV r) h
end
end
end Go.Av
