/- Part of the proof of CrossTexts: for every input the law returns true; no condition. -/
import Derived.Test.YtaokaobiihpkbaaGreatDoorRegE
import Derived.Test.YtaokaobiihpkbaaGreatDoorAvAbb
set_option linter.all false
namespace Go.Av
noncomputable section
def Q9b (R:Reg) (c:List UInt8) (id:Int):Bool:=match Jq c 0 R with
 | none=>false
 | some (_,C)=>match Q4b id 0 C.all with
  | none=>false
  | some (_,v)=>v.2
def rID (R:Reg) (c n:List UInt8):Int×Int:=match Jq c 0 R with
 | none=>(0,11)
 | some (_,C)=>match Q34 n 0 C.ids with
  | none=>(0,11)
  | some (_,id)=>(id,0)
def Qt1 (C:Option RCl) (n:List UInt8):(Int×Bool×Int)×RCl:=match C with
 | none=>((1,true,0),⟨[(n,1)],[(1,n,false)],[],2⟩)
 | some C=>match Q34 n 0 C.ids with
  | some (_,id)=>((id,false,0),C)
  | none=>match Q7q C.all 65536 C.next with
   | some (id,nx)=>if id=0 then ((0,false,12),⟨C.ids,C.all,[],nx⟩) else ((id,true,0),⟨C.ids ++ [(n,id)],C.all ++ [(id,n,false)],[],nx⟩)
   | none=>((0,false,12),C)
def Qtk (C:Option RCl) (n:List UInt8) (id:Int):Int×RCl:=match C with
 | none=>(0,⟨[(n,id)],[(id,n,true)],[],1⟩)
 | some C=>match Q4b id 0 C.all with
  | some (_,v)=>if v=(n,true) then (0,C) else (16,C)
  | none=>match Q34 n 0 C.ids with
   | some _=>(16,C)
   | none=>(0,⟨C.ids ++ [(n,id)],C.all ++ [(id,n,true)],C.back,C.next⟩)
def Qxj (R:Reg) (c:List UInt8) (C:RCl):Reg:=match Jq c 0 R with
 | none=>R ++ [(c,C)]
 | some (i,_)=>R.set i (c,C)
def Qu9 (R:Reg) (c:List UInt8):Option RCl:=(Jq c 0 R).map (·.2)
def Qq5 (ok:Bool) (R:Reg) (c n:List UInt8):(Int×Bool×Int)×Reg:=if ok then ((Qt1 (Qu9 R c) n).1,Qxj R c (Qt1 (Qu9 R c) n).2) else ((0,false,10),R)
def Qsp (ok:Bool) (R:Reg) (c n:List UInt8) (id:Int):Int×Reg:=if ok then (if 1≤id∧id≤65534 then ((Qtk (Qu9 R c) n id).1,Qxj R c (Qtk (Qu9 R c) n id).2) else (2,R)) else (10,R)
def WC (C:RCl):Prop:=C.back = []∧1≤C.next∧C.next≤65535
def WR (R:Reg):Prop:=∀ q∈R,WC q.2
instance (R:Reg):Decidable (WR R):=by unfold WR WC;infer_instance
theorem Q9t (all:List (Int×List UInt8×Bool)):∀ (N:Nat) (s:Int),1≤s→s≤65535→65535 - s<N→∃ id nx,Q7q all N s=some (id,nx)∧1≤nx∧nx≤65535∧(id=0∨1≤id)
 | 0,s,_,_,h=>by omega
 | N+1,s,h1,h2,h3=>by
  simp only [Q7q,Af h1]
  by_cases h4:s≤65534
  ·rw [Af h4]
   cases ha:Q4b s 0 all with
   | none=>exact ⟨s,s+1,rfl,by omega,by omega,.inr h1⟩
   | some v=>exact Q9t all N (s+1) (by omega) (by omega) (by omega)
  rw [Ae h4];exact ⟨0,s,rfl,h1,h2,.inl rfl⟩
theorem Qim {c:List UInt8} {R:Reg} {i:Nat} {C:RCl} (h:Jq c 0 R=some (i,C)):(c,C)∈R:=Mr (Q4u R 0 i C h).2
theorem Q9f {c:List UInt8} {R:Reg} {i:Nat} {C:RCl} (h:Jq c 0 R=some (i,C)):R.set i (c,C)=R:=by
 have e:=(Q4u R 0 i C h).2;rw [Nat.sub_zero] at e;obtain ⟨hl,he⟩:=La.1 e;rw [← he,List.set_getElem_self]
theorem Qui {R:Reg} {c:List UInt8} {C:RCl} (h:WR R) (hc:WC C):WR (Qxj R c C):=by
 unfold Qxj;intro q hq
 cases hf:Jq c 0 R with
 | none=>
  rw [hf] at hq
  rcases Me.1 hq with h1 | h1
  ·exact h q h1
  simp at h1;subst h1;exact hc
 | some x=>
  rw [hf] at hq
  rcases Cz hq with h1 | h1
  ·exact h q h1
  subst h1;exact hc
theorem Qux {R:Reg} {c:List UInt8} {C:RCl} (h:WR R) (hc:Qu9 R c=some C):WC C:=by
 unfold Qu9 at hc
 cases hf:Jq c 0 R with
 | none=>rw [hf] at hc;cases hc
 | some x=>
  rw [hf] at hc;obtain ⟨i,D⟩:=x;cases hc;exact h _ (Qim hf)
theorem Qya {C:Option RCl} (h:∀ D,C=some D→WC D) (n:List UInt8):WC (Qt1 C n).2:=by
 cases C with
 | none=>exact ⟨rfl,by simp [Qt1,Qtk],by simp [Qt1,Qtk]⟩
 | some C=>
  obtain ⟨h1,h2,h3⟩:=h C rfl;unfold Qt1;simp only []
  cases hn:Q34 n 0 C.ids with
  | some q=>exact ⟨h1,h2,h3⟩
  | none=>
   obtain ⟨id,nx,hl,h4,h5,_⟩:=Q9t C.all 65536 C.next h2 h3 (by omega)
   simp only [hl];split
   ·exact ⟨rfl,h4,h5⟩
   exact ⟨rfl,h4,h5⟩
theorem Qxp {C:Option RCl} (h:∀ D,C=some D→WC D) (n:List UInt8) (id:Int):WC (Qtk C n id).2:=by
 cases C with
 | none=>exact ⟨rfl,by simp [Qt1,Qtk],by simp [Qt1,Qtk]⟩
 | some C=>
  have hc:=h C rfl;unfold Qtk;simp only []
  cases ha:Q4b id 0 C.all with
  | some q=>simp only [];split<;>exact hc
  | none=>
   simp only []
   cases hn:Q34 n 0 C.ids with
   | some q=>exact hc
   | none=>exact hc
theorem Qzr {R:Reg} (h:WR R) (ok:Bool) (c n:List UInt8):WR (Qq5 ok R c n).2:=by
 unfold Qq5;split
 ·exact Qui h (Qya (fun D hD=>Qux h hD) n)
 exact h
theorem Qzl {R:Reg} (h:WR R) (ok:Bool) (c n:List UInt8) (id:Int):WR (Qsp ok R c n id).2:=by
 unfold Qsp;split
 ·split
  ·exact Qui h (Qxp (fun D hD=>Qux h hD) n id)
  exact h
 exact h
def Qkp (ok:List UInt8→Bool) (R:Reg) (t:List UInt8×List UInt8×Int):Reg:=if t.2.2=0 then (Qq5 (ok t.2.1) R t.1 t.2.1).2 else (Qsp (ok t.2.1) R t.1 t.2.1 t.2.2).2
def Qpo (ok:List UInt8→Bool) (l:List (List UInt8×List UInt8×Int)):Reg:=l.foldl (Qkp ok) []
theorem Qx0 (ok:List UInt8→Bool) {R:Reg} (h:WR R) (t:List UInt8×List UInt8×Int):WR (Qkp ok R t):=by
 unfold Qkp;split
 ·exact Qzr h _ _ _
 exact Qzl h _ _ _ _
theorem Qld (ok:List UInt8→Bool):∀ (l:List (List UInt8×List UInt8×Int)) (R:Reg),WR R→WR (l.foldl (Qkp ok) R)
 | [],_,h=>h
 | t::l,R,h=>Qld ok l _ (Qx0 ok h t)
theorem Qwg (ok:List UInt8→Bool) (l:List (List UInt8×List UInt8×Int)):WR (Qpo ok l):=Qld ok l [] (fun q h=>by cases h)
end
end Go.Av
namespace Go.Av
noncomputable section
theorem Qr4 {ρ:Nat→Nat} {H H0 H1:List AObj}:∀ (r:List AObj) (i:Nat),(∀ j o,r[j]? = some o→o.live=true→Qyz ρ H H0 H1 (i+j) o)→Qc6 ρ H H0 H1 i r
 | [],_,_=>trivial
 | o::r,i,h=>by
  have t:Qc6 ρ H H0 H1 (i+1) r:=Qr4 r (i+1) fun j o' hj hl=>by have:=h (j+1) o' (by simpa using hj) hl;rwa [show i+(j+1)=i+1+j by omega] at this
  cases o with
  | dead=>exact t
  | cells cs=>exact ⟨h 0 _ rfl rfl,t⟩
  | map es=>exact ⟨h 0 _ rfl rfl,t⟩
  | strIter s p=>exact ⟨h 0 _ rfl rfl,t⟩
  | ext R a=>exact ⟨h 0 _ rfl rfl,t⟩
theorem Qii (n:Nat):∀ args:List PV,refsLt.refsLts n (args.map .p)=true
 | []=>rfl
 | _::l=>Qii n l
section
variable {P:Program} {Gl:Nat→Option (List PV)} {f:Nat} {args:List PV} {r:PV} {R R':Reg}
theorem Qna (h:GC P Gl f (.ptr 0 0::args.map .p) [.dead,.ext R 0] (.p r) [.dead,.dead,.ext R' 0]):Q3x P Gl f R args r R':=by
 intro H b a hb vs hvs;have hbl:=(La.1 hb).1;refine Qk9 h (fun i=>if i=0 then a else b) (H:=H) ⟨by simp [hvs.1],fun i v u hv hu=>?_⟩ ⟨.inl ⟨.ext R a,hb,.inl rfl⟩,trivial⟩ (by simp [Qqs,List.range,List.range.loop,AObj.live]) (Qii 2 args) rfl (H.set b .dead ++ [.ext R' a]) (by simp) (Qr4 _ 0 fun j o hj hl=>?_) (.p r) rfl ⟨rfl,rfl⟩
 ·cases i with
  | zero=>cases hv;cases hu;exact .same (.ptr 0 0)
  | succ i=>
   simp only [Bw,Ln] at hu
   cases hx:args[i]? with
   | none=>rw [hx] at hu;cases hu
   | some x=>rw [hx] at hu;cases hu;exact .frz v x (hvs.2 i v x hv hx)
 rw [Md]
 by_cases hj1:j<H.length
 ·rw [Lk (by simpa using hj1)] at hj
  by_cases hjb:j=b
  ·subst hjb;rw [Lo hbl] at hj;cases hj;cases hl
  rw [Li (fun e=>hjb e.symm)] at hj;refine .inl ⟨?_,hj⟩
  have:(b == j)=false:=by simpa using fun e:b=j=>hjb e.symm
  show kdB _ _ _=true;simp [kdB,List.range,List.range.loop,AObj.live,bne,this]
 rw [Ls (by simpa using hj1)] at hj
 have hl1:(H.set b .dead).length=H.length:=by simp
 rw [hl1] at hj
 have h0:j - H.length=0:=by
  by_cases h0:j - H.length=0
  ·exact h0
  rw [Mx (by simp;omega)] at hj;cases hj
 rw [h0] at hj;cases hj;refine .inr ⟨2,.ext R' 0,rfl,?_,fun h=>by simp at h,rfl⟩;show H.length+(2 - 2)=j;omega
theorem Qg2 (h:Qs P Gl f (.ptr 0 0::args.map .p) [.dead,.ext R 0] (fun v H=>∃ b,H[b]? = some (.ext R' 0)∧Frz (fun a=>a≠b) H v r)):Q3x P Gl f R args r R':=by
 refine Qna (Qic (Lt rfl) (Jk h fun v H' ⟨b,hb,hf⟩=>⟨fun i=>if i=2 then b else i,?_⟩));refine ⟨⟨rfl,fun i v' u hv hu=>?_⟩,⟨.inl ⟨.ext R' 0,hb,.inl rfl⟩,trivial⟩,by simp [Qqs,List.range,List.range.loop,AObj.live],rfl,rfl⟩
 cases i with
 | succ i=>simp at hv
 | zero=>
  cases hv;cases hu;refine .frz v r (Q9x (fun a o h1 h2=>⟨?_,h2⟩) hf)
  have:(b == a)=false:=by simpa using fun e:b=a=>h1 e.symm
  simp [KD,kdB,List.range,List.range.loop,AObj.live,bne,this]
theorem Qa3 {cf:CFunc} (hk:Q1s P f cf=true) (h:Q2o (EP P Gl) cf (.ptr 0 0::args.map .p) [.dead,.ext R 0] (fun v H=>∃ b,H[b]? = some (.ext R' 0)∧Frz (fun a=>a≠b) H v r)):Q3x P Gl f R args r R':=
 Qg2 (Qe hk h)
theorem Qsa (h:Q3x P Gl f R args r R') {H:List AObj} {b a:Nat} (hb:H[b]? = some (.ext R a)) {vs:List AV} (hvs:FrzL (fun _=>False) H vs args) {Q:AV→List AObj→Prop} (hq:Q (.p r) (H.set b .dead ++ [.ext R' a])):Qs P Gl f (.ptr a 0::vs) H Q:=
 Jk (h H b a hb vs hvs) fun v H' ⟨e1,e2⟩=>by subst e1;subst e2;exact hq
theorem cRg {α β:Type} {x:Option α} {F : α→Option β} {r : β} {g : α→PV} {g2 : α→Reg} (h:x.bind F=some r) (hp:∀ {v},x=some v→Q3x P Gl f R args (g v) (g2 v)) {H:List AObj} {b a:Nat} (hb:H[b]? = some (.ext R a)) {vs:List AV} (hvs:FrzL (fun _=>False) H vs args)
  {Q:AV→List AObj→Prop} (hq:∀ v,F v=some r→Q (.p (g v)) (H.set b .dead ++ [.ext (g2 v) a])):Qs P Gl f (.ptr a 0::vs) H Q:=by
 obtain ⟨v,h1,h2⟩:=Q0m h;exact Qsa (hp h1) hb hvs (hq v h2)
theorem Qsq (h:Qm4 P Gl f) {H:List AObj} (n:Nat) (hn:H.length=n) {Q:AV→List AObj→Prop} (hq:Q (.ptr n 0) (H ++ [.dead,.ext [] n])):Qs P Gl f [] H Q:=
 Jk (h H) fun v H' ⟨e1,e2⟩=>by subst hn;subst e1;subst e2;exact hq
theorem Qyg {β:Type} {b:Bool} {x y:Option β} {r : β} {G:Prop} (h:cond b x y=some r) (h1:b=true→x=some r→G) (h2:b=false→y=some r→G):G:=by
 cases b with
 | true=>exact h1 rfl h
 | false=>exact h2 rfl h
end
end
end Go.Av
