/- Part of FromsnLearns: the law returns true; no condition. -/
import Derived.Test.YtgkmcegmobfknaaGreatDoorAvClosed
import Derived.Test.YtgkmcegmobfknaaGreatDoorAvDrawt
import Derived.Test.YtgkmcegmobfknaaGreatDoorAvMeth
import Derived.Test.YtgkmcegmobfknaaGreatDoorAvLook
import Derived.Test.YtgkmcegmobfknaaGreatDoorAvFrame
import Derived.Test.YtgkmcegmobfknaaGreatDoorAvCtr
set_option linter.all false
namespace Go.Av
noncomputable section

structure Know2 where
 tab:Nat->Option CFunc
 known:Nat->List PV->Option PV
 meth:Nat->List PV->List PV->Option PV

def Qwt (r:PV) (cells:List PV):PV := .tuple [r,.agg cells]

def Qj7:List AObj->AV->Option PV
 | .cells cs::rest,v=>match Qfc (.dead::rest) cs with
  | some ps=>match Qm4 Qw2 (.dead::rest) v with
   | some r=>some (Qwt r ps)
   | none=>none
  | none=>none
 | _,_=>none

def Qaf (kn:Know2) (E:Env (Option PV)) (f:Nat) (args:List PV):Option PV:=match kn.known f args with
 | some r=>some r
 | none=>match kn.tab f with
  | some cf=>Q69 .p args fun args=>Q24 E cf args [] (fun v H=>Qm4 Qw2 H v)
  | none=>none
def Qjm (kn:Know2) (E:Env (Option PV)) (f:Nat) (cells args:List PV):Option PV:=match kn.meth f cells args with
 | some r=>some r
 | none=>match kn.tab f with
  | some cf=>Q69 .p args fun args=>Q69 .p cells fun cells=>Q24 E cf (.ptr 0 0::args) [.cells cells] (fun v H=>Qj7 H v)
  | none=>none

def Qyc:List AV->Option (List PV)
 | []=>some []
 | .p x::r=>match Qyc r with
  | some ps=>some (x::ps)
  | none=>none
 | _::_=>none
theorem Qii:∀ (cs:List AV) (ps:List PV),Qyc cs=some ps->cs=ps.map .p
 | [],ps,h=>by simp only [Qyc] at h;cases h;rfl
 | c::cs,ps,h=>by
  cases c<;>simp only [Qyc] at h<;>try (cases h;done)
  split at h
  ·rename_i x ps' h1;cases h;rw [Qii cs ps' h1];rfl
  cases h
def Qed:List PV->Bool
 | []=>true
 | .int _ _::r=>Qed r
 | .bool _::r=>Qed r
 | .str _::r=>Qed r
 | _::_=>false
def Qws {α:Type} (kn:Know2) (EV:Env (Option PV)) (inl:Nat->List AV->List AObj->(AV->List AObj->α)->α) (f:Nat) (args:List AV) (H:List AObj) (k:AV->List AObj->α) : α:=
 match AV.toPVs args with
 | some pa=>match Qaf kn EV f pa with
  | some r=>k (.p r) H
  | none=>inl f args H k
 | none=>match Qfc H args with
  | some pa=>match Qaf kn EV f pa with
   | some r=>match Jp r with
    | true=>k (.p r) H
    | false=>inl f args H k
   | none=>inl f args H k
  | none=>match args with
  | .ptr a 0::rest=>match AV.toPVs rest with
   | some pr=>match H[a]? with
    | some (.cells cs)=>match Qyc cs with
     | some cells=>match Qed cells with
      | true=>match Qjm kn EV f cells pr with
       | some (.tuple [r,.agg cells'])=>k (.p r) (H.set a (.cells (cells'.map .p)))
       | _=>inl f args H k
      | false=>inl f args H k
     | none=>inl f args H k
    | _=>inl f args H k
   | none=>inl f args H k
  | _=>inl f args H k
def Qzf (kn:Know2) (EA:Env (Option AV)) (f:Nat) (args:List AV) (n:Nat):Option AV:=match refsLt.refsLts n args with
 | true=>match kn.tab f with
  | some cf=>Q24 EA cf args (List.replicate n .dead) (fun v _=>some v)
  | none=>none
 | false=>none
def Qys (kn:Know2) (EA:Env (Option AV)) (f:Nat) (args:List AV) (H:List AObj) (R:List Nat):Option AV:=match refsLt.refsLts H.length args with
 | true=>match R.all (fun a=>match H[a]? with | some o=>V3 H.length o | none=>true) with
  | true=>match kn.tab f with
   | some cf=>Q24 EA cf args (Qfr R H) (fun v H'=>match Qom (Qfr R H) H' with
    | true=>some v
    | false=>none)
   | none=>none
  | false=>none
 | false=>none
def Qw7 (R:List Nat):List (Nat×AObj):=R.map fun a=>(a,.dead)
def Qnk {α:Type} (fail : α) (z:Unit->α) (kn:Know2) (EA:Env (Option AV)) (f:Nat) (args:List AV) (H:List AObj) (R:List Nat) (k:AV->List AObj->List Nat->List Nat->α) : α:=match Qys kn EA f args H R with
 | some v=>match refsLt H.length v with
  | true=>k v H R []
  | false=>z ()
 | none=>z ()
def Q6w {α:Type} (fail : α) (z:Unit->α) (kn:Know2) (EA:Env (Option AV)) (f:Nat) (args:List AV) (H:List AObj) (k:AV->List AObj->List Nat->List Nat->α) : α:=match Qzf kn EA f args H.length with
 | some v=>match refsLt H.length v with
  | true=>k v H [] []
  | false=>z ()
 | none=>Qnk fail z kn EA f args H (args.flatMap (Qem 12 H)) k
def Q38:Nat->List COper->List COper×List COper
 | _,[]=>([],[])
 | j,c::r=>match Qby j (c::r) with
  | true=>([],c::r)
  | false=>match Q38 (j+1) r with
   | (a,b)=>(c::a,b)
section
variable {P:Program} {Gl:Nat->Option (List PV)} {kn:Know2}

structure KnowOk2 (P:Program) (Gl:Nat->Option (List PV)) (kn:Know2):Prop where
 tab:∀ f cf,kn.tab f=some cf->Q0t P f cf=true
 known:∀ f args r,kn.known f args=some r->Q7x P Gl f args r
 meth:∀ f cells args r,kn.meth f cells args=some r->∃ x cs',r=Qwt x cs'∧Qn6 P Gl f cells args x cs'

theorem Gy (hkn:KnowOk2 P Gl kn) {E:Env (Option PV)} {f:Nat} {args:List PV} {r:PV} (hE:Hom E (EP P Gl) r) (h:Qaf kn E f args=some r):Q7x P Gl f args r:=by
 unfold Qaf at h
 cases hk:kn.known f args with
 | some x=>rw [hk] at h;cases h;exact hkn.known f args _ hk
 | none=>
  simp only [hk] at h
  cases ht:kn.tab f with
  | none=>simp only [ht] at h;cases h
  | some cf=>
   simp only [ht,Wt] at h;exact Q5 (hkn.tab f cf ht) (Q1q hE (fun v H hv=>Qbj (fun _ _ _ ho=>⟨trivial,ho⟩) (Q7d Qw2 v r hv)) h)

theorem Qti {H1 H2:List AObj} {K1 K2:Nat->Prop} (h:∀ a o,K1 a->H1[a]? = some o->o ≠ .dead->K2 a∧H2[a]? = some o) {v:AV} {x:PV} (hf:Frz K1 H1 v x):Frz K2 H2 v x:=by
 induction hf with
 | p x=>exact .p x
 | nil esz=>exact .nil esz
 | zero esz=>exact .zero esz
 | slice esz a off len cs rows hk ho hl hr hn hv ih=>
  obtain ⟨k1,k2⟩:=h a _ hk ho (by simp);exact .slice esz a off len cs rows k1 k2 hl hr hn ih
 | agg cs ps hn _ ih=>exact .agg cs ps hn ih
 | tuple cs ps hn _ ih=>exact .tuple cs ps hn ih
 | func fn a b a' b' n1 _ n2 _ ih1 ih2=>exact .func fn a b a' b' n1 ih1 n2 ih2
 | iface t v x _ ih=>exact .iface t v x ih
 | map r es ps hk ho hn hkk _ ih=>
  obtain ⟨k1,k2⟩:=h r _ hk ho (by simp);exact .map r es ps k1 k2 hn hkk ih

theorem Qg1 {H:List AObj} {v:AV} {x:PV} (h:Qj7 H v=some x):∃ r cs',x=Qwt r cs'∧∃ cs rest,H = .cells cs::rest∧FrzL (fun a=>a≠0) H cs cs'∧Frz (fun a=>a≠0) H v r:=by
 unfold Qj7 at h;split at h
 ·rename_i cs rest;split at h
  ·rename_i ps h1;split at h
   ·rename_i r h2;cases h
    have key:∀ {K:Nat->Prop} {v:AV} {x:PV},Frz K (AObj.dead::rest) v x->Frz (fun a=>a≠0) (AObj.cells cs::rest) v x:=by
     intro K v x hf;refine Qti (fun a o _ ho hc=>?_) hf
     cases a with
     | zero=>simp at ho;exact absurd ho.symm hc
     | succ a=>exact ⟨by simp,by simpa using ho⟩
    have q:=Q29 _ _ h1;exact ⟨r,ps,rfl,cs,rest,rfl,⟨q.1,fun i v x hv hx=>key (q.2 i v x hv hx)⟩,key (Q7d Qw2 _ _ h2)⟩
   cases h
  cases h
 ·cases h

theorem Q9c (hkn:KnowOk2 P Gl kn) {E:Env (Option PV)} {f:Nat} {cells args:List PV} {x:PV} {cs':List PV} (hE:Hom E (EP P Gl) (Qwt x cs')) (h:Qjm kn E f cells args=some (Qwt x cs')):Qn6 P Gl f cells args x cs':=by
 unfold Qjm at h
 cases hk:kn.meth f cells args with
 | some y=>
  rw [hk] at h;cases h;obtain ⟨y,cs'',e,q⟩:=hkn.meth f cells args _ hk;simp only [Qwt,PV.tuple.injEq,List.cons.injEq,PV.agg.injEq,and_true] at e;obtain ⟨rfl,rfl⟩:=e;exact q
 | none=>
  simp only [hk] at h
  cases ht:kn.tab f with
  | none=>simp only [ht] at h;cases h
  | some cf=>
   simp only [ht,Wt] at h;refine Q37 (hkn.tab f cf ht) (Q1q hE (fun v H hv=>?_) h);obtain ⟨y',cs'',e,q⟩:=Qg1 hv;simp only [Qwt,PV.tuple.injEq,List.cons.injEq,PV.agg.injEq,and_true] at e;obtain ⟨rfl,rfl⟩:=e;exact q

theorem Qq1 (hkn:KnowOk2 P Gl kn) {β:Type} {EV:Env (Option PV)} (hEV:∀ r,Hom EV (EP P Gl) r) {r : β} {inl:Nat->List AV->List AObj->(AV->List AObj->Option β)->Option β} {f:Nat} {args:List AV} {H:List AObj}
  {kO:AV->List AObj->Option β} {kP:AV->List AObj->Prop} (hk:∀ v H',kO v H'=some r->kP v H') (hinl:inl f args H kO=some r->Qd P Gl f args H kP) (he:Qws kn EV inl f args H kO=some r):Qd P Gl f args H kP:=by
 unfold Qws at he;split at he
 ·rename_i pa h1;split at he
  ·rename_i x h2;exact Vg (Gy hkn (hEV x) h2) (Q04 args pa h1) (hk _ _ he)
  exact hinl he
 split at he
 ·rename_i pa h1;split at he
  ·rename_i x h2;split at he
   ·rename_i h3;have q:=Q29 args pa h1;exact Qhm (Gy hkn (hEV x) h2) ⟨q.1,fun i v x hv hx=>Qbj (fun a o _ ho=>⟨trivial,ho⟩) (q.2 i v x hv hx)⟩ h3 (hk _ _ he)
   exact hinl he
  exact hinl he
 ·split at he
  ·rename_i a rest _ _;split at he
   ·rename_i pr h1;split at he
    ·rename_i cs ha;split at he
     ·rename_i cells hc;split at he
      ·split at he
       ·rename_i x cells' h2;exact Q7f (Q9c hkn (hEV _) h2) (by rw [ha,Qii _ _ hc]) (Q04 rest pr h1) (hk _ _ he)
       exact hinl he
      exact hinl he
     exact hinl he
    exact hinl he
   exact hinl he
  ·exact hinl he

theorem Qmt (hkn:KnowOk2 P Gl kn) {β:Type} {EA:Env (Option AV)} (hEA:∀ r,Hom EA (EP P Gl) r) {r : β} {f:Nat} {args:List AV} {H:List AObj} {R:List Nat}
  {kO:AV->List AObj->List Nat->List Nat->Option β} {kP:AV->List AObj->List Nat->List Nat->Prop} (hk:∀ v H' R A,kO v H' R A=some r->kP v H' R A) {z:Unit->Option β} (hz:z ()=some r->Wb P Gl f args H kP) (he:Qnk none z kn EA f args H R kO=some r):Wb P Gl f args H kP:=by
 unfold Qnk at he;split at he
 ·rename_i v hv;unfold Qys at hv;split at hv
  ·rename_i h1;split at hv
   ·rename_i h2;split at hv
    ·rename_i cf hcf;split at he
     ·rename_i hr
      have hc:Qd P Gl f args (Qfr R H) (fun v0 H'=>v0=v∧∃ rest,H'=Qfr R H++rest):=Q6 (hkn.tab f cf hcf) (Q1q (hEA v) (fun v0 H' h=>by
       split at h
       ·rename_i hp;cases h;exact ⟨rfl,Qk6 _ _ hp⟩
       cases h) hv)
      refine Q22 R h1 hr (fun a ha o ho=>?_) hc (hk _ _ _ _ he);have:=Lq.1 h2 a ha;rw [ho] at this;exact this
     exact hz he
    cases hv
   cases hv
  cases hv
 exact hz he
theorem Q0r (hkn:KnowOk2 P Gl kn) {β:Type} {EA:Env (Option AV)} (hEA:∀ r,Hom EA (EP P Gl) r) {r : β} {f:Nat} {args:List AV} {H:List AObj}
  {kO:AV->List AObj->List Nat->List Nat->Option β} {kP:AV->List AObj->List Nat->List Nat->Prop} (hk:∀ v H' R A,kO v H' R A=some r->kP v H' R A) {z:Unit->Option β} (hz:z ()=some r->Wb P Gl f args H kP) (he:Q6w none z kn EA f args H kO=some r):Wb P Gl f args H kP:=by
 unfold Q6w at he;split at he
 ·rename_i v hv;unfold Qzf at hv;split at hv
  ·rename_i h1;split at hv
   ·rename_i cf hcf;split at he
    ·rename_i hr;have hc:Qd P Gl f args (List.replicate H.length .dead) (fun v0 _=>v0=v):=Q6 (hkn.tab f cf hcf) (Q1q (hEA v) (fun v0 H' h=>by cases h;rfl) hv);exact .inl ⟨[],[],v,fun s h=>(by cases h),fun H2 _=>Y9 (Qcx h1 hr hc H2) (fun v' H' ⟨e1,e2⟩=>⟨e1,e2⟩),hk _ _ _ _ he⟩
    exact hz he
   cases hv
  cases hv
 exact Qmt hkn hEA hk hz he
theorem Qb3:∀ (cs:List COper) (j:Nat),cs=(Q38 j cs).1++(Q38 j cs).2∧Qby (j+(Q38 j cs).1.length) (Q38 j cs).2=true
 | [],j=>⟨rfl,rfl⟩
 | c::r,j=>by
  simp only [Q38];split
  ·rename_i ht;exact ⟨rfl,ht⟩
  obtain ⟨h1,h2⟩:=Qb3 r (j+1);refine ⟨by simp only [Nx];rw [← h1],?_⟩;rw [Ma,show j+((Q38 (j+1) r).1.length+1)=j+1+(Q38 (j+1) r).1.length by omega];exact h2
end
end
end Go.Av
namespace Go.Av
noncomputable section
universe u
theorem cF {o:Cmp} {x y:Int} {b:Bool} (h:Q2 o x y=b):Qn8 o x y=b:=by rw [cmpX_eq];exact h
theorem Env.c1 {α:Type u} (E:Env α):E.cmp.1=Q2:=E.cmp.2
section
variable {P:Program} {Gl:Nat->Option (List PV)}
theorem ifP {b:Bool} {X Y:Prop} (h1:b=true->X) (h2:b=false->Y) : @Bool.rec (fun _=>Prop) Y X b:=by
 cases b
 ·exact h2 rfl
 exact h1 rfl
theorem ifT {b:Bool} {X Y:Prop} (h:b=true) (hx:X) : @Bool.rec (fun _=>Prop) Y X b:=by subst h;exact hx
theorem ifF {b:Bool} {X Y:Prop} (h:b=false) (hy:Y) : @Bool.rec (fun _=>Prop) Y X b:=by subst h;exact hy
theorem Q0n {b:Bool} {X:Prop} (h:b=true) (h1:X) : @Bool.rec (fun _=>Prop) (EP P Gl).fail X b:=by subst h;exact h1
theorem Z3u {β:Type} {l:List β} {i:Int} {k : β->Prop} {x : β} (h:idx l i=some x) (hk:k x):Qtg (EP P Gl) l i k:=by unfold Qtg;rw [h];exact hk
theorem Qlr {f:Nat} {args:List AV} {pargs:List PV} {r:PV} {H:List AObj} {k:AV->List AObj->List Nat->List Nat->Prop} (hp:Q7x P Gl f pargs r) (hf:FrzL (fun _=>False) H args pargs) (hk:k (.p r) H [] []):Wb P Gl f args H k:=
 .inl ⟨[],[],.p r,fun s h=>(by cases h),fun _ _=>Vg hp (hf.K (fun _ _ h _=>h.elim)) ⟨rfl,rfl⟩,hk⟩
end
end
end Go.Av
namespace Go.Av
noncomputable section
section
variable {P:Program} {Gl:Nat->Option (List PV)}
theorem Q2l {α β:Type} {x:Option α} {f : α->Option β} {r : β} (h:x.bind f=some r):∃ v,x=some v∧f v=some r:=by
 cases x with
 | none=>cases h
 | some v=>exact ⟨v,rfl,h⟩
theorem ifO {b:Bool} {R:Type} {x y:Option R} {r:R} {X Y:Prop} (h:cond b x y=some r) (h1:b=true->x=some r->X) (h2:b=false->y=some r->Y) : @Bool.rec (fun _=>Prop) Y X b:=by
 cases b
 ·exact h2 rfl h
 exact h1 rfl h
theorem Q4i {b:Bool} {R:Type} {x:Option R} {r:R} (h:cond b x none=some r):b=true∧x=some r:=by
 cases b
 ·cases h
 exact ⟨rfl,h⟩
theorem Qb {α:Type} {a r : α} (h:some a=some r):a=r:=by cases h;rfl
theorem Qgz {b:Bool} (h:(!b)=true):b=false:=by cases b<;>first | rfl | cases h
theorem Qll {f:Nat} {cells args:List PV} {r:PV} {cells':List PV} (hm:Qn6 P Gl f cells args r cells') {H:List AObj} {a:Nat} (ha:H[a]? = some (.cells (cells.map .p))) {vs:List AV}
  (hvs:FrzL (fun _=>False) H vs args) {k:AV->List AObj->List Nat->List Nat->Prop} (hk:k (.p r) (H.set a (.cells (cells'.map .p))) [a] [a]):Wb P Gl f (.ptr a 0::vs) H k:=by
 refine .inl ⟨[a],[(a,.cells (cells'.map .p))],.p r,fun s hs=>?_,fun H2 hH2=>?_,hk⟩
 ·simp at hs;subst hs;exact (La.1 ha).1
 refine Q7f hm (hH2 a (by simp) _ ha) (hvs.K (fun _ _ h _=>h.elim)) ⟨rfl,rfl⟩
def Qi {T:Type} (c:T->List PV) (l:List T):List (List PV):=l.map c
theorem Qy {T:Type} (c:T->List PV) (l:List T):(Qi c l).length=l.length:=by simp [Qi]
theorem Qvs {α β:Type} {l:List α} {i:Int} {y : α} (f : α->β) (h:idx l i=some y):idx (l.map f) i=some (f y):=by
 cases i with
 | ofNat n=>simp only [idx,Lm] at h ⊢;rw [h];rfl
 | negSucc n=>cases h
theorem idx_rows {T:Type} {c:T->List PV} {l:List T} {i:Int} {y:T} (h:idx l i=some y):idx (Qi c l) i=some (c y):=Qvs c h
@[reducible] def cI (k:IntKind) (n:Int):List PV := [.int k n]
@[reducible] def cU8 (b:UInt8):List PV := [.int .u8 (b.toNat:Int)]
@[reducible] def cB (b:Bool):List PV := [.bool b]
@[reducible] def cS (b:List UInt8):List PV := [.str b]
@[reducible] def cL {T:Type} (e:Nat) (c:T->List PV) (l:List T):List PV := [.slice e (Qi c l)]
theorem wN:Qwm [] []:=trivial
abbrev Q45 (k:IntKind) (x y:Int):Int:=k.wrap (BitVec.ofInt k.bits x &&& BitVec.ofInt k.bits y).toNat
abbrev orI (k:IntKind) (x y:Int):Int:=k.wrap (BitVec.ofInt k.bits x ||| BitVec.ofInt k.bits y).toNat
abbrev Qr3 (k:IntKind) (x y:Int):Int:=k.wrap (BitVec.ofInt k.bits x ^^^ BitVec.ofInt k.bits y).toNat
abbrev Q26 (k:IntKind) (x y:Int):Int:=k.wrap (BitVec.ofInt k.bits x &&& ~~~ BitVec.ofInt k.bits y).toNat
abbrev Q4k (k:IntKind) (x y:Int):Int:=k.wrap (x * 2 ^ (min y.toNat k.bits))
abbrev Qc6 (k:IntKind) (x y:Int):Int:=x.fdiv (2 ^ (min y.toNat k.bits))
end
end
end Go.Av
