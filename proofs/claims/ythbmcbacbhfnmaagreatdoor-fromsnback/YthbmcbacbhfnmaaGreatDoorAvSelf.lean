/- Part of FromsnBack: the law returns true; no condition. -/
import Derived.Test.YthbmcbacbhfnmaaGreatDoorAvMeth
import Derived.Test.YthbmcbacbhfnmaaGreatDoorAvLook
import Derived.Test.YthbmcbacbhfnmaaGreatDoorAvDraws
import Derived.Test.YthbmcbacbhfnmaaGreatDoorAvClosed4
import Derived.Test.YthbmcbacbhfnmaaGreatDoorAvGc
import Derived.Test.YthbmcbacbhfnmaaGreatDoorAvDrawt
set_option linter.all false
namespace Go.Av
noncomputable section
set_option maxHeartbeats 4000000
section
variable {P:Program} {Gl:Nat->Option (List PV)}
@[reducible] def clo (f a:Nat):AV := .func (.func f) [] [.ptr a 0]
def Zx4 (P:Program) (Gl:Nat->Option (List PV)) (f:Nat) (args:List PV) (r:PV):Prop:=
 ∀ (H:List AObj) (a:Nat),H[a]? = some (.cells [clo f a])->∀ vs,FrzL (fun _=>False) H vs args ->
  Qq P Gl f (vs ++ [.ptr a 0]) H (fun v H'=>v = .p r∧H'=H)
end
end
end Go.Av
namespace Go.Av
noncomputable section
section
variable {P:Program} {Gl:Nat->Option (List PV)}
def Q5r {f:Nat} {args:List AV} {H:List AObj} {r:AV} {k:AV->List AObj->List Nat->List Nat->Prop} (hargs:refsLt.refsLts H.length args=true) (hr:refsLt H.length r=true)
  (hc:Qq P Gl f args (List.replicate H.length .dead) (fun v _=>v=r)) (hk:k r H [] []):Wz P Gl f args H k:=
 .inl ⟨[],[],r,fun s h=>(by cases h),fun H2 _=>Vf (Qku hargs hr hc H2) (fun _ _ ⟨e1,e2⟩=>⟨e1,e2⟩),hk⟩
theorem Qu7 {f:Nat} {args:List AV} {pargs:List PV} {r:PV} {H:List AObj} {k:AV->List AObj->List Nat->List Nat->Prop} (hp:Qcp P Gl f pargs r) (R:List Nat) (hf:FrzL (fun a=>a∈R) H args pargs)
  (hr:Q29 r=true) (hk:k (.p r) H R []):Wz P Gl f args H k:=
 .inl ⟨R,[],.p r,fun s h=>(by cases h),fun H2 hH2=>Qdl hp ⟨hf.1,fun i v x hv hx=>Qeh (fun a o ha ho=>⟨trivial,hH2 a ha o ho⟩) (hf.2 i v x hv hx)⟩ hr ⟨rfl,rfl⟩,hk⟩
end
end
end Go.Av
namespace Go.Av
noncomputable section
set_option maxHeartbeats 4000000
section
variable {P:Program} {Gl:Nat->Option (List PV)} {α β R:Type}
def iU {b:Bool} {x y:Option R} {r:R} {X Y:Prop} (h:cond b x y=some r) (h1:x=some r->X) (h2:y=some r->Y) : @Bool.rec (fun _=>Prop) Y X b:=ifO h (fun _=>h1) (fun _=>h2)
def kU {b:Bool} {x:Option R} {r:R} {X:Prop} (h:cond b x none=some r) (h1:x=some r->X) : @Bool.rec (fun _=>Prop) (EP P Gl).fail X b:=by
 obtain ⟨h2,h3⟩:=Q6a h
 simp_all
section
variable {K:Nat->Prop} {H:List AObj} {a b c d e f:PV}
def p0:FrzL K H [] [] := .nil
def p1:FrzL K H [.p a] [a] := .cons (.p _) .nil
def p2:FrzL K H [.p a,.p b] [a,b] := .cons (.p _) p1
def p3:FrzL K H [.p a,.p b,.p c] [a,b,c] := .cons (.p _) p2
def p4:FrzL K H [.p a,.p b,.p c,.p d] [a,b,c,d] := .cons (.p _) p3
def p5:FrzL K H [.p a,.p b,.p c,.p d,.p e] [a,b,c,d,e] := .cons (.p _) p4
def q4:Frz K H (.agg [.p a,.p b,.p c,.p d]) (.agg [a,b,c,d]):=Ar p4
def q2:Frz K H (.agg [.p a,.p b]) (.agg [a,b]):=Ar p2
def u2:Frz K H (.tuple [.p a,.p b]) (.tuple [a,b]):=Au p2
def u3:Frz K H (.tuple [.p a,.p b,.p c]) (.tuple [a,b,c]):=Au p3
def q4n {n:Nat}:Frz K H (.agg [.p a,.p b,.p c,.p .nilSlice]) (.agg [a,b,c,.slice n []]):=Ar (.cons (.p _) (.cons (.p _) (.cons (.p _) (.cons (.nil _) .nil))))
end
section
variable {x:Option α} {F : α->Option β} {r : β} {f:Nat} {pargs:List PV} {g : α->PV} {H:List AObj} {args:List AV}
def cP (h:x.bind F=some r) (hp:∀ {v},x=some v->Qcp P Gl f pargs (g v)) (hf:FrzL (fun _=>False) H args pargs) {Q:AV->List AObj->Prop} (hq:∀ v,F v=some r->Q (.p (g v)) H):Qq P Gl f args H Q:=by
 obtain ⟨v,h1,h2⟩:=Q2h h<;>grind [Uo]
def cD (h:x.bind F=some r) (hp:∀ {v},x=some v->Qcp P Gl f pargs (g v)) (hf:FrzL (fun _=>False) H args pargs) {k:AV->List AObj->List Nat->List Nat->Prop} (hq:∀ v,F v=some r->k (.p (g v)) H [] []):Wz P Gl f args H k:=by
 obtain ⟨v,h1,h2⟩:=Q2h h<;>grind [Q5n]
def dL (h:x.bind F=some r) (hp:∀ {v},x=some v->Qcp P Gl f pargs (g v)) (W:List Nat) (hf:FrzL (fun a=>a∈W) H args pargs) {k:AV->List AObj->List Nat->List Nat->Prop} (hq:∀ v,F v=some r->k (.p (g v)) H W []) (hr:∀ v,Q29 (g v)=true:=by exact fun _=>rfl):Wz P Gl f args H k:=by
 obtain ⟨v,h1,h2⟩:=Q2h h<;>grind [Qu7]
def cM {cells:List PV} {g2 : α->List PV} (h:x.bind F=some r) (hp:∀ {v},x=some v->Qtu P Gl f cells pargs (g v) (g2 v)) {a:Nat} (ha:H[a]? = some (.cells (cells.map .p))) {vs:List AV} (hf:FrzL (fun _=>False) H vs pargs)
  {Q:AV->List AObj->Prop} (hq:∀ v,F v=some r->Q (.p (g v)) (H.set a (.cells ((g2 v).map .p)))):Qq P Gl f (.ptr a 0::vs) H Q:=by
 obtain ⟨v,h1,h2⟩:=Q2h h<;>grind [Qbb]
def dM {cells:List PV} {g2 : α->List PV} (h:x.bind F=some r) (hp:∀ {v},x=some v->Qtu P Gl f cells pargs (g v) (g2 v)) {a:Nat} (ha:H[a]? = some (.cells (cells.map .p))) {vs:List AV} (hf:FrzL (fun _=>False) H vs pargs)
  {k:AV->List AObj->List Nat->List Nat->Prop} (hq:∀ v,F v=some r->k (.p (g v)) (H.set a (.cells ((g2 v).map .p))) [a] [a]):Wz P Gl f (.ptr a 0::vs) H k:=by
 obtain ⟨v,h1,h2⟩:=Q2h h<;>grind [Quj]
def cG {a0:List AV} {H0:List AObj} {gr : α->AV} {g1 : α->List AObj} (h:x.bind F=some r) (hp:∀ {v},x=some v->GC P Gl f a0 H0 (gr v) (g1 v)) {Q:AV->List AObj->Prop}
  (hq:∀ v,F v=some r->∃ ρ H2 r2,GcP ρ args H a0 H0 (g1 v) (gr v) H2 r2∧Q r2 H2):Qq P Gl f args H Q:=by
 obtain ⟨v,h1,h2⟩:=Q2h h<;>grind [Z07]
end
def xR {T:Type} {c:T->List PV} {l:List T} {i:Int} {F:T->Option β} {r : β} (h:(idx l i).bind F=some r) {k:List PV->Prop} (hq:∀ y,F y=some r->k (c y)):Z04 (EP P Gl) (Q7 c l) i k:=by
 obtain ⟨y,h1,h2⟩:=Q2h h<;>simp_all [Zhm,idx_rows]
def xB {l:List UInt8} {i:Int} {F:UInt8->Option β} {r : β} (h:(idx l i).bind F=some r) {k:UInt8->Prop} (hq:∀ y,F y=some r->k y):Z04 (EP P Gl) l i k:=by
 obtain ⟨y,h1,h2⟩:=Q2h h<;>simp_all [Zhm]
section
variable {ρ:Nat->Nat} {K:Nat->Prop} {H:List AObj}
def rW {v1 v2:AV} {vs us:List AV} (h:RenL ρ K H vs us):RenL ρ K H (v1::v2::vs) (.any :: .any::us):=rA (rA h)
def rV {v1 v2 v3 v4:AV} {vs us:List AV} (h:RenL ρ K H vs us):RenL ρ K H (v1::v2::v3::v4::vs) (.any :: .any :: .any :: .any::us):=rW (rW h)
def rX {v1 v2 v3 v4 v5 v6 v7 v8:AV} {vs us:List AV} (h:RenL ρ K H vs us):RenL ρ K H (v1::v2::v3::v4::v5::v6::v7::v8::vs) (.any :: .any :: .any :: .any :: .any :: .any :: .any :: .any::us):=rV (rV h)
def hJ {i:Nat} {o:AObj} {r:List AObj} (e:H[ρ i]? = some (Qcd ρ o)) (h:Qei ρ K H (i+1) r):Qei ρ K H i (o::r):=hE e h
end
def Qwj {T:Type} {c:T->List PV} {vs:List T} {rows:List (List PV)} (e:rows=Q7 c vs) {k:List AV->Prop} (h:k (Xh c vs)) :
  @List.rec PV (fun _=>Up hi9 ((List AV->Prop)->Prop)) (fun k=>k []) (fun v _ ih k=>ih fun r=>k (AV.p v::r)) rows.flatten k:=by
 show Qcb AV.p rows.flatten k
 simp_all [Jr,Qaq]
abbrev iI (n:Int):AV := .p (.int .i64 n)
abbrev iW (n:Int):AV := .p (.int .u64 n)
abbrev iS (s:List UInt8):AV := .p (.str s)
abbrev a2 (l:List AV):List AV := .any :: .any::l
abbrev a4 (l:List AV):List AV := .any :: .any :: .any :: .any::l
abbrev a8 (l:List AV):List AV := .any :: .any :: .any :: .any :: .any :: .any :: .any :: .any::l
abbrev a16 (l:List AV):List AV:=a8 (a8 l)
abbrev lb {a b:Nat} (h:Nat.ble a b=true:=by rfl):a≤b:=Lj h
def lpC {τ:Type} (T : τ->List AV) (Hs : τ->List AObj) (L:Nat->τ->Option R) {r:R} {N:Nat} {b:CC} {tm:List AV} {H:List AObj} {Q:CExit->List AV->List AObj->Prop} (s0 : τ) (h:L N s0=some r) (ρ:Nat->Nat) (hw:Ren ρ H.length tm H (T s0) (Hs s0))
  (step:∀ n s,L (n+1) s=some r->ev (EP P Gl) b (T s) (Hs s) (Qrq H.length (fun s:Nat × τ=>T s.2) (fun s=>Hs s.2) (fun s=>L s.1 s.2=some r) (fun s=>s.1) (n+1,s) Q)) (h0:∀ s,L 0 s=none:=by exact fun _=>rfl) (hl:∀ s,Nat.ble H.length (Hs s).length=true:=by exact fun _=>rfl):Qaj P Gl b tm H Q:=by
 refine Qtr (σ:=Nat × τ) (fun s=>T s.2) (fun s=>Hs s.2) (fun s=>L s.1 s.2=some r) (fun s=>s.1) (N,s0) h ⟨ρ,hw⟩ (fun s _=>Lj (hl s.2)) ?_
 rintro ⟨n,s⟩ h
 cases n<;>simp_all
section
variable {b:Bool} {x y:Option R} {r:R} {X Y:Prop}
def iL (h:cond b x y=some r) (h2:y=some r->Y) (h1:x=some r->X:=by intro h;cases h;exact .p _) : @Bool.rec (fun _=>Prop) Y X b:=iU h h1 h2
def iR (h:cond b x y=some r) (h1:x=some r->X) (h2:y=some r->Y:=by intro h;cases h;exact .p _) : @Bool.rec (fun _=>Prop) Y X b:=iU h h1 h2
def iB (h:cond b x y=some r) (h1:x=some r->X:=by intro h;cases h;exact .p _) (h2:y=some r->Y:=by intro h;cases h;exact .p _) : @Bool.rec (fun _=>Prop) Y X b:=iU h h1 h2
def iL2 (h:cond b x y=some r) (h2:y=some r->Y) (h1:x=some r->X:=by intro h;obtain rfl:=Qe h;exact u2) : @Bool.rec (fun _=>Prop) Y X b:=iU h h1 h2
def iR2 (h:cond b x y=some r) (h1:x=some r->X) (h2:y=some r->Y:=by intro h;obtain rfl:=Qe h;exact u2) : @Bool.rec (fun _=>Prop) Y X b:=iU h h1 h2
def iB2 (h:cond b x y=some r) (h1:x=some r->X:=by intro h;obtain rfl:=Qe h;exact u2) (h2:y=some r->Y:=by intro h;obtain rfl:=Qe h;exact u2) : @Bool.rec (fun _=>Prop) Y X b:=iU h h1 h2
def dT (h:X) (hb:b=true:=by exact cF (by decide)) : @Bool.rec (fun _=>Prop) Y X b:=ifT hb h
def dF (h:Y) (hb:b=false:=by exact cF (by decide)) : @Bool.rec (fun _=>Prop) Y X b:=ifF hb h
end
def sd {n m:Nat} (h:n=m:=by first | (simp;done) | (simp [Q7];done)):n=m:=h
def Z6 {ρ:Nat->Nat} {n:Nat} {tm tm':List AV} {H H':List AObj} (h1:RenL ρ (KD ρ H') H tm tm':=by repeat' first | exact rN | refine rA ?_ | refine rE rfl ?_ | refine rS ?_ | refine rL gt rfl ?_ | refine rG aG ?_ | refine rP aG ?_ | refine rT (by repeat' first | refine rG aG ?_ | refine rP aG ?_ | exact rN | refine rE rfl ?_ | refine rA ?_ | refine rS ?_ | refine rL gt rfl ?_) ?_) (h2:Qei ρ (KD ρ H') H 0 H':=by repeat' first | exact hN | refine hO rfl ?_ | refine hD ?_ | refine hE rfl ?_ | refine hV lb ?_ | refine hC rfl aG ?_)
  (h3:Z2h ρ n H'=true:=by rfl) (h4:refsLt.refsLts H'.length tm'=true:=by rfl) (h5:(H'.all (Q1s H'.length))=true:=by repeat' first | exact roN | refine roE rfl ?_ | refine roE (Q83 _ _ _) ?_):Ren ρ n tm H tm' H':=⟨h1,h2,h3,h4,h5⟩
mutual
def Qlm:∀ v:AV,Q6m (fun i=>i) v=v
 | .ptr _ _=>rfl
 | .slice _ _ _ _=>rfl
 | .map _=>rfl
 | .agg cs=>by simp only [Q6m,Qbu cs]
 | .tuple cs=>by simp only [Q6m,Qbu cs]
 | .func _ a b=>by simp only [Q6m,Qbu a,Qbu b]
 | .iface _ v=>by simp only [Q6m,Qlm v]
 | .p _=>rfl
 | .gptr _ _=>rfl
 | .rptr _=>rfl
 | .any=>rfl
def Qbu:∀ l:List AV,Qel (fun i=>i) l=l
 | []=>rfl
 | v::l=>by simp only [Qel,Qlm v,Qbu l]
end
def Z5v (o:AObj):Qcd (fun i=>i) o=o:=by
 cases o<;>simp_all [Qcd,Qbu,Qlm]
def Qri {K:Nat->Prop} {H:List AObj}:∀ (i:Nat) (r:List AObj),(∀ j o,r[j]? = some o->H[i+j]? = some o)->Qei (fun i=>i) K H i r
 | _,[],_=>trivial
 | i,o::r,h=>by
  have t:Qei (fun i=>i) K H (i+1) r:=Qri (i+1) r fun j o' hj=> jd
  have e:H[i]? = some o:=by have:=h 0 o rfl;simpa using this
  simp_all [hE,Z5v]
def Qzw (n:Nat) (H:List AObj):Z2h (fun i=>i) n H=true:=by
 grind [Z2h]
def Zz4 {n:Nat} {tm tm':List AV} {H:List AObj} (h1:RenL (fun i=>i) (KD (fun i=>i) H) H tm tm') (h4:refsLt.refsLts H.length tm'=true) (h5:(H.all (Q1s H.length))=true):Ren (fun i=>i) n tm H tm' H:=
 ⟨h1,Qri 0 H (fun j o h=>by simp_all),Qzw n H,h4,h5⟩
def lpH {τ:Type} (T : τ->List AV) (L:Nat->τ->Option R) {r:R} {N:Nat} {b:CC} {tm:List AV} {H:List AObj} {Q:CExit->List AV->List AObj->Prop} (s0 : τ) (h:L N s0=some r)
  (step:∀ n s,L (n+1) s=some r->ev (EP P Gl) b (T s) H (Qrq H.length (fun s:Nat × τ=>T s.2) (fun _=>H) (fun s=>L s.1 s.2=some r) (fun s=>s.1) (n+1,s) Q))
  (h1:RenL (fun i=>i) (KD (fun i=>i) H) H tm (T s0):=by repeat' first | exact rN | refine rA ?_ | refine rE rfl ?_) (h4:refsLt.refsLts H.length (T s0)=true:=by rfl) (h5:(H.all (Q1s H.length))=true:=by repeat' first | exact roN | refine roE rfl ?_ | refine roE (Q83 _ _ _) ?_)
  (h0:∀ s,L 0 s=none:=by exact fun _=>rfl):Qaj P Gl b tm H Q:=by
 refine Qtr (σ:=Nat × τ) (fun s=>T s.2) (fun _=>H) (fun s=>L s.1 s.2=some r) (fun s=>s.1) (N,s0) h ⟨_,Zz4 h1 h4 h5⟩ (fun _ _=>Lh _) ?_
 rintro ⟨n,s⟩ h
 cases n<;>simp_all
def lpA {τ:Type} (T : τ->List AV) (Hs : τ->List AObj) (L:Nat->τ->Option R) {r:R} {N:Nat} {b:CC} {tm:List AV} {H:List AObj} {Q:CExit->List AV->List AObj->Prop} (s0 : τ) (h:L N s0=some r)
  (step:∀ n s,L (n+1) s=some r->ev (EP P Gl) b (T s) (Hs s) (Qrq H.length (fun s:Nat × τ=>T s.2) (fun s=>Hs s.2) (fun s=>L s.1 s.2=some r) (fun s=>s.1) (n+1,s) Q)) (hw:Ren (fun i=>i) H.length tm H (T s0) (Hs s0):=by exact Z6) (h0:∀ s,L 0 s=none:=by exact fun _=>rfl) (hl:∀ s,Nat.ble H.length (Hs s).length=true:=by exact fun _=>rfl):Qaj P Gl b tm H Q:=lpC T Hs L s0 h _ hw step h0 hl
def jrH {σ:Type} {r:R} (T : σ->List AV) (J : σ->Option R) {a b:CC} {tm:List AV} {H:List AObj} {Q:CExit->List AV->List AObj->Prop}
  (h1:ev (EP P Gl) a tm H (Z1f H.length T (fun _=>H) (fun s=>J s=some r) Q)) (h2:∀ s,J s=some r->ev (EP P Gl) b (T s) H Q):Z85 P Gl a b tm H Q:=Uk T (fun _=>H) _ (fun _ _=>Lh _) h1 h2
def jrA {σ:Type} {r:R} (T : σ->List AV) (Hs : σ->List AObj) (J : σ->Option R) {a b:CC} {tm:List AV} {H:List AObj} {Q:CExit->List AV->List AObj->Prop}
  (h1:ev (EP P Gl) a tm H (Z1f H.length T Hs (fun s=>J s=some r) Q)) (h2:∀ s,J s=some r->ev (EP P Gl) b (T s) (Hs s) Q) (hl:∀ s,Nat.ble H.length (Hs s).length=true:=by exact fun _=>rfl):Z85 P Gl a b tm H Q:=Uk T Hs _ (fun s _=>Lj (hl s)) h1 h2
end
section
variable {P:Program} {Gl:Nat->Option (List PV)} {α β R:Type}
noncomputable def Zcg (H l:List AObj) (k:List AObj->Prop):Prop := @List.rec AObj (fun _=>(List AObj->Prop)->Prop) (fun k=>k l) (fun o _ ih k=>ih fun r=>k (o::r)) H k
def Qqx:∀ (H l:List AObj) (k:List AObj->Prop),Zcg H l k=k (H++l)
 | [],l,k=>rfl
 | o::H,l,k=>Qqx H l fun r=>k (o::r)
def Qtn {f:Nat->Nat} {H H1:List AObj}:∀ (r:List AObj) (i:Nat),i+r.length=H.length+H1.length->(∀ j o,r[j]? = some o->(H++H1.map (Qcd (Qq0 f 0 H.length)))[i+j]? = some o)->Qhb f H [] H1 i r
 | [],_,_,_=>trivial
 | o::r,i,hl,h=>by
  rw [Mj] at hl
  have t:Qhb f H [] H1 (i+1) r:=Qtn r (i+1) (by omega) fun j o' hj=> jd
  have e:=h 0 o rfl;rw [Bj] at e;refine fX ?_ t
  by_cases hi:i<H.length
  ·rw [Lm hi] at e;exact .inl ⟨rfl,e⟩
  rw [Lq (by omega),Ll] at e
  cases hq:H1[i - H.length]? with
  | none=>simp_all
  | some o1=>
   rw [hq] at e;exact .inr ⟨i - H.length,o1,hq,by simp_all [Qq0],fun h=>by grind,(Am e).symm⟩
def cO {x:Option α} {F : α->Option β} {r : β} {f:Nat} {a0 args:List AV} {H:List AObj} {gr : α->AV} {g1 : α->List AObj} (h:x.bind F=some r) (hp:∀ {v},x=some v->GC P Gl f a0 [] (gr v) (g1 v)) (r2 : α->AV) (hf:RenL (fun i=>i) (fun _=>False) H args a0)
  {Q:AV->List AObj->Prop} (hq:∀ v,F v=some r->Zcg H (g1 v) fun H2=>Q (r2 v) H2) (hr:∀ v,Q6m (Qq0 (fun i=>i) 0 H.length) (gr v)=r2 v:=by exact fun _=>rfl)
  (ho:∀ v s,(g1 v).map (Qcd s)=g1 v:=by intro v s;repeat' first | exact oN | refine oW ?_) (hra:refsLt.refsLts 0 a0=true:=by rfl):Qq P Gl f args H Q:=by
 obtain ⟨v,h1,h2⟩:=Q2h h;have hq:=hq v h2;rw [Qqx] at hq;refine Qq5 (hp h1) (fun i=>i) hf trivial rfl hra rfl (H++g1 v) (by simp) (Qtn (H1:=g1 v) _ 0 (by simp) fun j o hj=>by simp_all) (r2 v) (hr v) hq
def gcQ {ρ:Nat->Nat} {vs:List AV} {H:List AObj} {args:List AV} {H0 H1:List AObj} {r:AV} {H2:List AObj} {r2:AV} (a1:RenL ρ (fun _=>False) H vs args:=by repeat' first | exact rN | refine rE rfl ?_)
  (a2:Qei ρ (fun _=>False) H 0 H0:=by repeat' first | exact hN | refine hO rfl ?_ | refine hD ?_ | refine hE rfl ?_ | refine hV lb ?_) (a3:Z2h ρ 0 H0=true:=by rfl) (a4:refsLt.refsLts H0.length args=true:=by rfl)
  (a5:(H0.all (Q1s H0.length))=true:=by repeat' first | exact roN | refine roE rfl ?_ | refine roE (Q83 _ _ _) ?_) (a6:(Nat.beq H2.length (H.length+(H1.length - H0.length)))=true:=by rfl)
  (a7:Qhb ρ H H0 H1 0 H2:=by repeat' first | exact fN | refine fD ?_ | refine fK rfl rfl ?_ | refine fO 1 rfl rfl rfl ?_ | refine fO 2 rfl rfl rfl ?_ | refine fO 3 rfl rfl rfl ?_ | refine fR 0 rfl rfl rfl rfl ?_) (a8:Q6m (Qq0 ρ H0.length H.length) r=r2:=by rfl):GcP ρ vs H args H0 H1 r H2 r2:=⟨a1,a2,a3,a4,a5,a6,a7,a8⟩
def dcO {x:Option α} {F : α->Option β} {r : β} {f:Nat} {a0 args:List AV} {H:List AObj} {gr : α->AV} {g1 : α->List AObj} (h:x.bind F=some r) (hp:∀ {v},x=some v->GC P Gl f a0 [] (gr v) (g1 v)) (A:List Nat) (r2 : α->AV) (hf:RenL (fun i=>i) (fun _=>False) H args a0)
  {k:AV->List AObj->List Nat->List Nat->Prop} (hq:∀ v,F v=some r->Zcg H (g1 v) fun H2=>k (r2 v) H2 [] A) (hr:∀ v,Q6m (fun j=>H.length+j) (gr v)=r2 v:=by exact fun _=>rfl)
  (ho:∀ v s,(g1 v).map (Qcd s)=g1 v:=by intro v s;repeat' first | exact oN | refine oW ?_) (hra:refsLt.refsLts 0 a0=true:=by rfl) (hl:∀ v,Nat.ble 1 (g1 v).length=true:=by exact fun _=>rfl) (hA:∀ v,List.range' H.length (g1 v).length=A:=by exact fun _=>rfl):Wz P Gl f args H k:=by
 obtain ⟨v,h1,h2⟩:=Q2h h;have hq:=hq v h2;rw [Qqx] at hq;exact Qom (hp h1) (hl v) hf hra A (hA v) (hr v) (by rw [ho]) hq
end
end
end Go.Av
