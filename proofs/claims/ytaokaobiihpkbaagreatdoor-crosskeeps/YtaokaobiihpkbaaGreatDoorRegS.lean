/- Part of the proof of CrossKeeps: for every input the law returns true; no condition. -/
import Derived.Test.YtaokaobiihpkbaaGreatDoorRegE
import Derived.Test.YtaokaobiihpkbaaGreatDoorAvAbb
set_option linter.all false
namespace Go.Av
noncomputable section
def Q9x (R:Reg) (c:List UInt8) (id:Int):Bool:=match Gj c 0 R with
 | none=>false
 | some (_,C)=>match Q4t id 0 C.all with
  | none=>false
  | some (_,v)=>v.2
def rID (R:Reg) (c n:List UInt8):Int×Int:=match Gj c 0 R with
 | none=>(0,11)
 | some (_,C)=>match Q43 n 0 C.ids with
  | none=>(0,11)
  | some (_,id)=>(id,0)
def Quj (C:Option RCl) (n:List UInt8):(Int×Bool×Int)×RCl:=match C with
 | none=>((1,true,0),⟨[(n,1)],[(1,n,false)],[],2⟩)
 | some C=>match Q43 n 0 C.ids with
  | some (_,id)=>((id,false,0),C)
  | none=>match Q8l C.all 65536 C.next with
   | some (id,nx)=>if id=0 then ((0,false,12),⟨C.ids,C.all,[],nx⟩) else ((id,true,0),⟨C.ids ++ [(n,id)],C.all ++ [(id,n,false)],[],nx⟩)
   | none=>((0,false,12),C)
def Qv0 (C:Option RCl) (n:List UInt8) (id:Int):Int×RCl:=match C with
 | none=>(0,⟨[(n,id)],[(id,n,true)],[],1⟩)
 | some C=>match Q4t id 0 C.all with
  | some (_,v)=>if v=(n,true) then (0,C) else (16,C)
  | none=>match Q43 n 0 C.ids with
   | some _=>(16,C)
   | none=>(0,⟨C.ids ++ [(n,id)],C.all ++ [(id,n,true)],C.back,C.next⟩)
def Qyp (R:Reg) (c:List UInt8) (C:RCl):Reg:=match Gj c 0 R with
 | none=>R ++ [(c,C)]
 | some (i,_)=>R.set i (c,C)
def Qv2 (R:Reg) (c:List UInt8):Option RCl:=(Gj c 0 R).map (·.2)
def Qs4 (ok:Bool) (R:Reg) (c n:List UInt8):(Int×Bool×Int)×Reg:=if ok then ((Quj (Qv2 R c) n).1,Qyp R c (Quj (Qv2 R c) n).2) else ((0,false,10),R)
def Qtr (ok:Bool) (R:Reg) (c n:List UInt8) (id:Int):Int×Reg:=if ok then (if 1≤id∧id≤65534 then ((Qv0 (Qv2 R c) n id).1,Qyp R c (Qv0 (Qv2 R c) n id).2) else (2,R)) else (10,R)
def WC (C:RCl):Prop:=C.back = []∧1≤C.next∧C.next≤65535
def WR (R:Reg):Prop:=∀ q∈R,WC q.2
instance (R:Reg):Decidable (WR R):=by unfold WR WC;infer_instance
theorem Qb6 (all:List (Int×List UInt8×Bool)):∀ (N:Nat) (s:Int),1≤s→s≤65535→65535 - s<N→∃ id nx,Q8l all N s=some (id,nx)∧1≤nx∧nx≤65535∧(id=0∨1≤id)
 | 0,s,_,_,h=>by omega
 | N+1,s,h1,h2,h3=>by
  simp only [Q8l,Af h1]
  by_cases h4:s≤65534
  ·rw [Af h4]
   cases ha:Q4t s 0 all with
   | none=>exact ⟨s,s+1,rfl,by omega,by omega,.inr h1⟩
   | some v=>exact Qb6 all N (s+1) (by omega) (by omega) (by omega)
  rw [Ae h4];exact ⟨0,s,rfl,h1,h2,.inl rfl⟩
theorem Qiu {c:List UInt8} {R:Reg} {i:Nat} {C:RCl} (h:Gj c 0 R=some (i,C)):(c,C)∈R:=Ms (Q5d R 0 i C h).2
theorem Q9h {c:List UInt8} {R:Reg} {i:Nat} {C:RCl} (h:Gj c 0 R=some (i,C)):R.set i (c,C)=R:=by
 have e:=(Q5d R 0 i C h).2;rw [Nat.sub_zero] at e;obtain ⟨hl,he⟩:=La.1 e;rw [← he,List.set_getElem_self]
theorem Qw1 {R:Reg} {c:List UInt8} {C:RCl} (h:WR R) (hc:WC C):WR (Qyp R c C):=by
 unfold Qyp;intro q hq
 cases hf:Gj c 0 R with
 | none=>
  rw [hf] at hq
  rcases Mg.1 hq with h1 | h1
  ·exact h q h1
  simp at h1;subst h1;exact hc
 | some x=>
  rw [hf] at hq
  rcases Db hq with h1 | h1
  ·exact h q h1
  subst h1;exact hc
theorem Qv3 {R:Reg} {c:List UInt8} {C:RCl} (h:WR R) (hc:Qv2 R c=some C):WC C:=by
 unfold Qv2 at hc
 cases hf:Gj c 0 R with
 | none=>rw [hf] at hc;cases hc
 | some x=>
  rw [hf] at hc;obtain ⟨i,D⟩:=x;cases hc;exact h _ (Qiu hf)
theorem Qzd {C:Option RCl} (h:∀ D,C=some D→WC D) (n:List UInt8):WC (Quj C n).2:=by
 cases C with
 | none=>exact ⟨rfl,by simp [Quj,Qv0],by simp [Quj,Qv0]⟩
 | some C=>
  obtain ⟨h1,h2,h3⟩:=h C rfl;unfold Quj;simp only []
  cases hn:Q43 n 0 C.ids with
  | some q=>exact ⟨h1,h2,h3⟩
  | none=>
   obtain ⟨id,nx,hl,h4,h5,_⟩:=Qb6 C.all 65536 C.next h2 h3 (by omega)
   simp only [hl];split
   ·exact ⟨rfl,h4,h5⟩
   exact ⟨rfl,h4,h5⟩
theorem Z0q {C:Option RCl} (h:∀ D,C=some D→WC D) (n:List UInt8) (id:Int):WC (Qv0 C n id).2:=by
 cases C with
 | none=>exact ⟨rfl,by simp [Quj,Qv0],by simp [Quj,Qv0]⟩
 | some C=>
  have hc:=h C rfl;unfold Qv0;simp only []
  cases ha:Q4t id 0 C.all with
  | some q=>simp only [];split<;>exact hc
  | none=>
   simp only []
   cases hn:Q43 n 0 C.ids with
   | some q=>exact hc
   | none=>exact hc
theorem Z0i {R:Reg} (h:WR R) (ok:Bool) (c n:List UInt8):WR (Qs4 ok R c n).2:=by
 unfold Qs4;split
 ·exact Qw1 h (Qzd (fun D hD=>Qv3 h hD) n)
 exact h
theorem Z09 {R:Reg} (h:WR R) (ok:Bool) (c n:List UInt8) (id:Int):WR (Qtr ok R c n id).2:=by
 unfold Qtr;split
 ·split
  ·exact Qw1 h (Z0q (fun D hD=>Qv3 h hD) n id)
  exact h
 exact h
def Qlr (ok:List UInt8→Bool) (R:Reg) (t:List UInt8×List UInt8×Int):Reg:=if t.2.2=0 then (Qs4 (ok t.2.1) R t.1 t.2.1).2 else (Qtr (ok t.2.1) R t.1 t.2.1 t.2.2).2
def Qr1 (ok:List UInt8→Bool) (l:List (List UInt8×List UInt8×Int)):Reg:=l.foldl (Qlr ok) []
theorem Qxa (ok:List UInt8→Bool) {R:Reg} (h:WR R) (t:List UInt8×List UInt8×Int):WR (Qlr ok R t):=by
 unfold Qlr;split
 ·exact Z0i h _ _ _
 exact Z09 h _ _ _ _
theorem Qmw (ok:List UInt8→Bool):∀ (l:List (List UInt8×List UInt8×Int)) (R:Reg),WR R→WR (l.foldl (Qlr ok) R)
 | [],_,h=>h
 | t::l,R,h=>Qmw ok l _ (Qxa ok h t)
theorem Qwb (ok:List UInt8→Bool) (l:List (List UInt8×List UInt8×Int)):WR (Qr1 ok l):=Qmw ok l [] (fun q h=>by cases h)
end
end Go.Av
namespace Go.Av
noncomputable section
theorem Qrh {ρ:Nat→Nat} {H H0 H1:List AObj}:∀ (r:List AObj) (i:Nat),(∀ j o,r[j]? = some o→o.live=true→Z04 ρ H H0 H1 (i+j) o)→Qdb ρ H H0 H1 i r
 | [],_,_=>trivial
 | o::r,i,h=>by
  have t:Qdb ρ H H0 H1 (i+1) r:=Qrh r (i+1) fun j o' hj hl=>by have:=h (j+1) o' (by simpa using hj) hl;rwa [show i+(j+1)=i+1+j by omega] at this
  cases o with
  | dead=>exact t
  | cells cs=>exact ⟨h 0 _ rfl rfl,t⟩
  | map es=>exact ⟨h 0 _ rfl rfl,t⟩
  | strIter s p=>exact ⟨h 0 _ rfl rfl,t⟩
  | ext R a=>exact ⟨h 0 _ rfl rfl,t⟩
theorem Qjs (n:Nat):∀ args:List PV,refsLt.refsLts n (args.map .p)=true
 | []=>rfl
 | _::l=>Qjs n l
section
variable {P:Program} {Gl:Nat→Option (List PV)} {f:Nat} {args:List PV} {r:PV} {R R':Reg}
theorem Qpg (h:GC P Gl f (.ptr 0 0::args.map .p) [.dead,.ext R 0] (.p r) [.dead,.dead,.ext R' 0]):Q4p P Gl f R args r R':=by
 intro H b a hb vs hvs;have hbl:=(La.1 hb).1;refine Qm4 h (fun i=>if i=0 then a else b) (H:=H) ⟨by simp [hvs.1],fun i v u hv hu=>?_⟩ ⟨.inl ⟨.ext R a,hb,.inl rfl⟩,trivial⟩ (by simp [Qry,List.range,List.range.loop,AObj.live]) (Qjs 2 args) rfl (H.set b .dead ++ [.ext R' a]) (by simp) (Qrh _ 0 fun j o hj hl=>?_) (.p r) rfl ⟨rfl,rfl⟩
 ·cases i with
  | zero=>cases hv;cases hu;exact .same (.ptr 0 0)
  | succ i=>
   simp only [Cb,Ln] at hu
   cases hx:args[i]? with
   | none=>rw [hx] at hu;cases hu
   | some x=>rw [hx] at hu;cases hu;exact .frz v x (hvs.2 i v x hv hx)
 rw [Md]
 by_cases hj1:j<H.length
 ·rw [Lk (by simpa using hj1)] at hj
  by_cases hjb:j=b
  ·subst hjb;rw [Lo hbl] at hj;cases hj;cases hl
  rw [Lj (fun e=>hjb e.symm)] at hj;refine .inl ⟨?_,hj⟩
  have:(b == j)=false:=by simpa using fun e:b=j=>hjb e.symm
  show kdB _ _ _=true;simp [kdB,List.range,List.range.loop,AObj.live,bne,this]
 rw [Lt (by simpa using hj1)] at hj
 have hl1:(H.set b .dead).length=H.length:=by simp
 rw [hl1] at hj
 have h0:j - H.length=0:=by
  by_cases h0:j - H.length=0
  ·exact h0
  rw [My (by simp;omega)] at hj;cases hj
 rw [h0] at hj;cases hj;refine .inr ⟨2,.ext R' 0,rfl,?_,fun h=>by simp at h,rfl⟩;show H.length+(2 - 2)=j;omega
theorem Qhy (h:Qw P Gl f (.ptr 0 0::args.map .p) [.dead,.ext R 0] (fun v H=>∃ b,H[b]? = some (.ext R' 0)∧Frz (fun a=>a≠b) H v r)):Q4p P Gl f R args r R':=by
 refine Qpg (Qj6 (Ls rfl) (G7 h fun v H' ⟨b,hb,hf⟩=>⟨fun i=>if i=2 then b else i,?_⟩));refine ⟨⟨rfl,fun i v' u hv hu=>?_⟩,⟨.inl ⟨.ext R' 0,hb,.inl rfl⟩,trivial⟩,by simp [Qry,List.range,List.range.loop,AObj.live],rfl,rfl⟩
 cases i with
 | succ i=>simp at hv
 | zero=>
  cases hv;cases hu;refine .frz v r (Qb4 (fun a o h1 h2=>⟨?_,h2⟩) hf)
  have:(b == a)=false:=by simpa using fun e:b=a=>h1 e.symm
  simp [KD,kdB,List.range,List.range.loop,AObj.live,bne,this]
theorem Qfp {cf:CFunc} (hk:Q29 P f cf=true) (h:Q39 (EP P Gl) cf (.ptr 0 0::args.map .p) [.dead,.ext R 0] (fun v H=>∃ b,H[b]? = some (.ext R' 0)∧Frz (fun a=>a≠b) H v r)):Q4p P Gl f R args r R':=
 Qhy (Qa hk h)
theorem Qti (h:Q4p P Gl f R args r R') {H:List AObj} {b a:Nat} (hb:H[b]? = some (.ext R a)) {vs:List AV} (hvs:FrzL (fun _=>False) H vs args) {Q:AV→List AObj→Prop} (hq:Q (.p r) (H.set b .dead ++ [.ext R' a])):Qw P Gl f (.ptr a 0::vs) H Q:=
 G7 (h H b a hb vs hvs) fun v H' ⟨e1,e2⟩=>by subst e1;subst e2;exact hq
theorem cRg {α β:Type} {x:Option α} {F : α→Option β} {r : β} {g : α→PV} {g2 : α→Reg} (h:x.bind F=some r) (hp:∀ {v},x=some v→Q4p P Gl f R args (g v) (g2 v)) {H:List AObj} {b a:Nat} (hb:H[b]? = some (.ext R a)) {vs:List AV} (hvs:FrzL (fun _=>False) H vs args)
  {Q:AV→List AObj→Prop} (hq:∀ v,F v=some r→Q (.p (g v)) (H.set b .dead ++ [.ext (g2 v) a])):Qw P Gl f (.ptr a 0::vs) H Q:=by
 obtain ⟨v,h1,h2⟩:=Q1k h;exact Qti (hp h1) hb hvs (hq v h2)
theorem Qua (h:Qno P Gl f) {H:List AObj} (n:Nat) (hn:H.length=n) {Q:AV→List AObj→Prop} (hq:Q (.ptr n 0) (H ++ [.dead,.ext [] n])):Qw P Gl f [] H Q:=
 G7 (h H) fun v H' ⟨e1,e2⟩=>by subst hn;subst e1;subst e2;exact hq
theorem Qzm {β:Type} {b:Bool} {x y:Option β} {r : β} {G:Prop} (h:cond b x y=some r) (h1:b=true→x=some r→G) (h2:b=false→y=some r→G):G:=by
 cases b with
 | true=>exact h1 rfl h
 | false=>exact h2 rfl h
end
end
end Go.Av
