/- Part of FromsnLearns: the law returns true; no condition. -/
import Derived.Test.YtgkmcegmobfknaaGreatDoorAvJoin
import Derived.Test.YtgkmcegmobfknaaGreatDoorAvClosed
import Derived.Test.YtgkmcegmobfknaaGreatDoorAvSelf
import Derived.Test.YtgkmcegmobfknaaGreatDoorRegS
set_option linter.all false
namespace Go.Av
noncomputable section
section
variable {P:Program} {Gl:Nat->Option (List PV)}
end
end
end Go.Av
namespace Go.Av
noncomputable section
section
variable {P:Program} {Gl:Nat->Option (List PV)} {R T:Type}
end
theorem Qla {T:Type} {c:T->List PV} {e:Nat} (hc:∀ v,(c v).length=e) {K:Nat->Prop} {H:List AObj} {a n:Nat} {l:List T} (ho:H[a]? = some (.cells (Yl c l))) (hk:K a) (hn:n≤l.length) :
  Frz K H (.slice e a 0 n) (.slice e (Qi c (l.take n))):=by
 have hlt:(l.take n).length=n:=by rw [Mi];omega
 have hl:(Qi c (l.take n)).flatten.length=n * e:=by
  have:=Q1n hc (l.take n);rw [Q52,Lp,hlt] at this;exact this
 have hcs:((Yl c l).drop 0).take (n * e)=Yl c (l.take n):=by
  have h1:(Yl c (l.take n)).length=n * e:=by rw [Q1n hc,hlt]
  rw [Nz,Qou l n,Np (by omega),Mx (by omega)]
 refine .slice e a 0 n (Yl c l) (Qi c (l.take n)) hk ho (by rw [Qy,hlt]) (fun r hr=>?_) ?_ (fun i v x hv hx=>?_)
 ·simp only [Qi,Ml] at hr;obtain ⟨y,_,rfl⟩:=hr;exact hc y
 ·rw [hcs,Q1n hc,hlt,hl]
 rw [hcs,Q52,Lm,hx] at hv;cases hv;exact .p _
end
end Go.Av
namespace Go.Av
noncomputable section
theorem Qq7 {ρ:Nat->Nat} {H H0 H1:List AObj}:∀ (r:List AObj) (i:Nat),(∀ j o,r[j]? = some o->o.live=true->Z0v ρ H H0 H1 (i+j) o)->Qa3 ρ H H0 H1 i r
 | [],_,_=>trivial
 | o::r,i,h=>by
  have t:Qa3 ρ H H0 H1 (i+1) r:=Qq7 r (i+1) fun j o' hj hl=>by have:=h (j+1) o' (by simpa using hj) hl;rwa [show i+(j+1)=i+1+j by omega] at this
  cases o with
  | dead=>exact t
  | cells cs=>exact ⟨h 0 _ rfl rfl,t⟩
  | map es=>exact ⟨h 0 _ rfl rfl,t⟩
  | strIter s p=>exact ⟨h 0 _ rfl rfl,t⟩
  | ext R a=>exact ⟨h 0 _ rfl rfl,t⟩
theorem Qh3 (n:Nat):∀ args:List PV,refsLt.refsLts n (args.map .p)=true
 | []=>rfl
 | _::l=>Qh3 n l
section
variable {P:Program} {Gl:Nat->Option (List PV)} {f:Nat} {args:List PV} {r:PV} {R R':Reg}
theorem Qmw (h:GC P Gl f (.ptr 0 0::args.map .p) [.dead,.ext R 0] (.p r) [.dead,.dead,.ext R' 0]):Q0j P Gl f R args r R':=by
 intro H b a hb vs hvs;have hbl:=(La.1 hb).1;refine Qi4 h (fun i=>if i=0 then a else b) (H:=H) ⟨by simp [hvs.1],fun i v u hv hu=>?_⟩ ⟨.inl ⟨.ext R a,hb,.inl rfl⟩,trivial⟩ (by simp [Qow,List.range,List.range.loop,AObj.live]) (Qh3 2 args) rfl (H.set b .dead ++ [.ext R' a]) (by simp) (Qq7 _ 0 fun j o hj hl=>?_) (.p r) rfl ⟨rfl,rfl⟩
 ·cases i with
  | zero=>cases hv;cases hu;exact .same (.ptr 0 0)
  | succ i=>
   simp only [Bq,Lm] at hu
   cases hx:args[i]? with
   | none=>rw [hx] at hu;cases hu
   | some x=>rw [hx] at hu;cases hu;exact .frz v x (hvs.2 i v x hv hx)
 rw [Me]
 by_cases hj1:j<H.length
 ·rw [Lk (by simpa using hj1)] at hj
  by_cases hjb:j=b
  ·subst hjb;rw [Ll hbl] at hj;cases hj;cases hl
  rw [Lj (fun e=>hjb e.symm)] at hj;refine .inl ⟨?_,hj⟩
  have:(b == j)=false:=by simpa using fun e:b=j=>hjb e.symm
  show kdB _ _ _=true;simp [kdB,List.range,List.range.loop,AObj.live,bne,this]
 rw [Lo (by simpa using hj1)] at hj
 have hl1:(H.set b .dead).length=H.length:=by simp
 rw [hl1] at hj
 have h0:j - H.length=0:=by
  by_cases h0:j - H.length=0
  ·exact h0
  rw [Mj (by simp;omega)] at hj;cases hj
 rw [h0] at hj;cases hj;refine .inr ⟨2,.ext R' 0,rfl,?_,fun h=>by simp at h,rfl⟩;show H.length+(2 - 2)=j;omega
theorem Qeo (h:Qd P Gl f (.ptr 0 0::args.map .p) [.dead,.ext R 0] (fun v H=>∃ b,H[b]? = some (.ext R' 0)∧Frz (fun a=>a≠b) H v r)):Q0j P Gl f R args r R':=by
 refine Qmw (Qh1 (Lw rfl) (Y9 h fun v H' ⟨b,hb,hf⟩=>⟨fun i=>if i=2 then b else i,?_⟩));refine ⟨⟨rfl,fun i v' u hv hu=>?_⟩,⟨.inl ⟨.ext R' 0,hb,.inl rfl⟩,trivial⟩,by simp [Qow,List.range,List.range.loop,AObj.live],rfl,rfl⟩
 cases i with
 | succ i=>simp at hv
 | zero=>
  cases hv;cases hu;refine .frz v r (Qbj (fun a o h1 h2=>⟨?_,h2⟩) hf)
  have:(b == a)=false:=by simpa using fun e:b=a=>h1 e.symm
  simp [KD,kdB,List.range,List.range.loop,AObj.live,bne,this]
theorem Q7z {cf:CFunc} (hk:Q0t P f cf=true) (h:Q24 (EP P Gl) cf (.ptr 0 0::args.map .p) [.dead,.ext R 0] (fun v H=>∃ b,H[b]? = some (.ext R' 0)∧Frz (fun a=>a≠b) H v r)):Q0j P Gl f R args r R':=
 Qeo (Q6 hk h)
theorem Qre (h:Q0j P Gl f R args r R') {H:List AObj} {b a:Nat} (hb:H[b]? = some (.ext R a)) {vs:List AV} (hvs:FrzL (fun _=>False) H vs args) {Q:AV->List AObj->Prop} (hq:Q (.p r) (H.set b .dead ++ [.ext R' a])):Qd P Gl f (.ptr a 0::vs) H Q:=
 Y9 (h H b a hb vs hvs) fun v H' ⟨e1,e2⟩=>by subst e1;subst e2;exact hq
theorem cRg {α β:Type} {x:Option α} {F : α->Option β} {r : β} {g : α->PV} {g2 : α->Reg} (h:x.bind F=some r) (hp:∀ {v},x=some v->Q0j P Gl f R args (g v) (g2 v)) {H:List AObj} {b a:Nat} (hb:H[b]? = some (.ext R a)) {vs:List AV} (hvs:FrzL (fun _=>False) H vs args)
  {Q:AV->List AObj->Prop} (hq:∀ v,F v=some r->Q (.p (g v)) (H.set b .dead ++ [.ext (g2 v) a])):Qd P Gl f (.ptr a 0::vs) H Q:=by
 obtain ⟨v,h1,h2⟩:=Q2l h;exact Qre (hp h1) hb hvs (hq v h2)
theorem Qse (h:Qjs P Gl f) {H:List AObj} (n:Nat) (hn:H.length=n) {Q:AV->List AObj->Prop} (hq:Q (.ptr n 0) (H ++ [.dead,.ext [] n])):Qd P Gl f [] H Q:=
 Y9 (h H) fun v H' ⟨e1,e2⟩=>by subst hn;subst e1;subst e2;exact hq
theorem Qzo {β:Type} {b:Bool} {x y:Option β} {r : β} {G:Prop} (h:cond b x y=some r) (h1:b=true->x=some r->G) (h2:b=false->y=some r->G):G:=by
 cases b with
 | true=>exact h1 rfl h
 | false=>exact h2 rfl h
end
end
end Go.Av
namespace Go.Av
noncomputable section
structure Q9 where
 Client:List UInt8
 Name:List UInt8
 ID:Int
@[reducible] def Q9.cells (v:Q9):List PV := [.str v.Client,.str v.Name,.int .i64 v.ID]
structure Zh where
 Dup:Bool
 QoS:Int
 Retain:Bool
 Will:Bool
 Clean:Bool
 Type':Int
@[reducible] def Zh.cells (v:Zh):List PV := [.bool v.Dup,.int .i64 v.QoS,.bool v.Retain,.bool v.Will,.bool v.Clean,.int .i64 v.Type']
structure Yw where
 Type':Int
 Flags:Zh
 Gateway:Int
 Radius:Int
 Time:Int
 Timed:Bool
 TopicID:Int
 MsgID:Int
 Code:Int
 Name:List UInt8
 Data:List UInt8
@[reducible] def Yw.cells (v:Yw):List PV := [.int .i64 v.Type',.bool v.Flags.Dup,.int .i64 v.Flags.QoS,.bool v.Flags.Retain,.bool v.Flags.Will,.bool v.Flags.Clean,.int .i64 v.Flags.Type',.int .i64 v.Gateway,.int .i64 v.Radius,.int .i64 v.Time,.bool v.Timed,.int .i64 v.TopicID,.int .i64 v.MsgID,.int .i64 v.Code,.str v.Name,.str v.Data]
structure Qh where
 ID:Int
 Name:List UInt8
 Fixed:Bool
@[reducible] def Qh.cells (v:Qh):List PV := [.int .i64 v.ID,.str v.Name,.bool v.Fixed]
structure Q1 where
 client:List UInt8
 l:List Qh
@[reducible] def Q1.cells (v:Q1):List PV := [.str v.client,.slice 3 (Qi Qh.cells v.l)]
structure Q3 where
 L:List Q1
@[reducible] def Q3.cells (v:Q3):List PV := [.slice 2 (Qi Q1.cells v.L)]
structure Q74 where
 text:List UInt8
 at':Int
 err:Int
@[reducible] def Q74.cells (v:Q74):List PV := [.str v.text,.int .i64 v.at',.int .i64 v.err]
structure Vt where
 MaxPacket:Int
 MaxDepth:Int
@[reducible] def Vt.cells (v:Vt):List PV := [.int .i64 v.MaxPacket,.int .i64 v.MaxDepth]
structure Q0a where
 Radius:Int
 Node:List UInt8
@[reducible] def Q0a.cells (v:Q0a):List PV := [.int .i64 v.Radius,.str v.Node]
structure Yt where
 Hops:List Q0a
 Msg:Yw
@[reducible] def Yt.cells (v:Yt):List PV := [.slice 2 (Qi Q0a.cells v.Hops),.int .i64 v.Msg.Type',.bool v.Msg.Flags.Dup,.int .i64 v.Msg.Flags.QoS,.bool v.Msg.Flags.Retain,.bool v.Msg.Flags.Will,.bool v.Msg.Flags.Clean,.int .i64 v.Msg.Flags.Type',.int .i64 v.Msg.Gateway,.int .i64 v.Msg.Radius,.int .i64 v.Msg.Time,.bool v.Msg.Timed,.int .i64 v.Msg.TopicID,.int .i64 v.Msg.MsgID,.int .i64 v.Msg.Code,.str v.Msg.Name,.str v.Msg.Data]
structure Q0b where
@[reducible] def Q0b.cells (v:Q0b):List PV := []
structure Q8s where
 ID:Int
 N':Int
 Text:List UInt8
 Value:List UInt8
@[reducible] def Q8s.cells (v:Q8s):List PV := [.int .i64 v.ID,.int .u32 v.N',.str v.Text,.str v.Value]
structure Q77 where
 Topic:List UInt8
 Payload:List UInt8
 QoS:Int
 Retain:Bool
 Props:List Q8s
@[reducible] def Q77.cells (v:Q77):List PV := [.str v.Topic,.str v.Payload,.int .i64 v.QoS,.bool v.Retain,.slice 4 (Qi Q8s.cells v.Props)]
structure Qb9 where
 Topic:List UInt8
 QoS:Int
 NoLocal:Bool
 AsPublished:Bool
 Handling:Int
@[reducible] def Qb9.cells (v:Qb9):List PV := [.str v.Topic,.int .i64 v.QoS,.bool v.NoLocal,.bool v.AsPublished,.int .i64 v.Handling]
structure Xq where
 Kind:Int
 Dup:Bool
 Retain:Bool
 QoS:Int
 ID:Int
 Topic:List UInt8
 Payload:List UInt8
 Clean:Bool
 KeepAlive:Int
 Client:List UInt8
 HasUser:Bool
 User:List UInt8
 HasPass:Bool
 Pass:List UInt8
 HasWill:Bool
 Will:Q77
 Session:Bool
 Code:Int
 Codes:List Int
 Filters:List Qb9
 Props:List Q8s
@[reducible] def Xq.cells (v:Xq):List PV := [.int .i64 v.Kind,.bool v.Dup,.bool v.Retain,.int .i64 v.QoS,.int .i64 v.ID,.str v.Topic,.str v.Payload,.bool v.Clean,.int .i64 v.KeepAlive,.str v.Client,.bool v.HasUser,.str v.User,.bool v.HasPass,.str v.Pass,.bool v.HasWill,.str v.Will.Topic,.str v.Will.Payload,.int .i64 v.Will.QoS,.bool v.Will.Retain,.slice 4 (Qi Q8s.cells v.Will.Props),.bool v.Session,.int .i64 v.Code,.slice 1 (Qi (cI .i64) v.Codes),.slice 5 (Qi Qb9.cells v.Filters),.slice 4 (Qi Q8s.cells v.Props)]
structure Z0 where
 Kind:Int
 N':Int
 Text:List UInt8
 Items:List Z0
mutual
def Z0.cellsR:Z0->List PV
 | .mk x0 x1 x2 x3 => [.int .i64 x0,.int .u64 x1,.str x2,.slice 4 (Z0.rows x3)]
def Z0.rows:List Z0->List (List PV)
 | [] => []
 | v::l=>Z0.cellsR v::Z0.rows l
end
@[reducible] def Z0.cells (v:Z0):List PV := [.int .i64 v.Kind,.int .u64 v.N',.str v.Text,.slice 4 (Z0.rows v.Items)]
theorem Z0.cells_eq (v:Z0):v.cellsR=v.cells:=by cases v;simp only [Z0.cellsR,Z0.cells]
theorem Z0.rows_eq (l:List Z0):Z0.rows l=Qi Z0.cells l:=by
 induction l with
 | nil=>simp only [Z0.rows,Qi,Dz]
 | cons v l ih=>simp only [Z0.rows,ih,Qi,Ng,Z0.cells_eq]
theorem Z0.frz_own {K:Nat->Prop} {H:List AObj} {a n:Nat} {l:List Z0} (ho:H[a]? = some (.cells (Yl Z0.cells l))) (hk:K a) (hn:n=l.length):Frz K H (.slice 4 a 0 n) (.slice 4 (Z0.rows l)):=by rw [Z0.rows_eq];exact Av.frz_own (c:=Z0.cells) (fun _=>rfl) ho hk hn
theorem Z0.xR {P:Program} {Gl:Nat->Option (List PV)} {β:Type} {l:List Z0} {i:Int} {F:Z0->Option β} {r : β} (h:(idx l i).bind F=some r) {k:List PV->Prop} (hq:∀ y,F y=some r->k y.cells):Qtg (EP P Gl) (Z0.rows l) i k:=by rw [Z0.rows_eq];exact Av.xR h hq
theorem Z0.idx_rows {l:List Z0} {i:Int} {y:Z0} (h:idx l i=some y):idx (Z0.rows l) i=some y.cells:=by rw [Z0.rows_eq];exact Av.idx_rows h
structure Q0f where
 Type':Int
 Channel:Int
 Ext:List UInt8
 Values:List Z0
@[reducible] def Q0f.cells (v:Q0f):List PV := [.int .i64 v.Type',.int .i64 v.Channel,.str v.Ext,.slice 4 (Z0.rows v.Values)]
structure Jh where
 Proto:Int
 Kind:Int
 Topic:List UInt8
 Payload:List UInt8
 QoS:Int
 Retain:Bool
 Dup:Bool
 ID:Int
 Props:List Q8s
 Type':Int
 Hops:List Q0a
 Channel:Int
 Packet:Xq
 Msg:Yw
 Frame:Q0f
@[reducible] def Jh.cells (v:Jh):List PV := [.int .i64 v.Proto,.int .i64 v.Kind,.str v.Topic,.str v.Payload,.int .i64 v.QoS,.bool v.Retain,.bool v.Dup,.int .i64 v.ID,.slice 4 (Qi Q8s.cells v.Props),.int .i64 v.Type',.slice 2 (Qi Q0a.cells v.Hops),.int .i64 v.Channel,.int .i64 v.Packet.Kind,.bool v.Packet.Dup,.bool v.Packet.Retain,.int .i64 v.Packet.QoS,.int .i64 v.Packet.ID,.str v.Packet.Topic,.str v.Packet.Payload,.bool v.Packet.Clean,.int .i64 v.Packet.KeepAlive,.str v.Packet.Client,.bool v.Packet.HasUser,.str v.Packet.User,.bool v.Packet.HasPass,.str v.Packet.Pass,.bool v.Packet.HasWill,.str v.Packet.Will.Topic,.str v.Packet.Will.Payload,.int .i64 v.Packet.Will.QoS,.bool v.Packet.Will.Retain,.slice 4 (Qi Q8s.cells v.Packet.Will.Props),.bool v.Packet.Session,.int .i64 v.Packet.Code,.slice 1 (Qi (cI .i64) v.Packet.Codes),.slice 5 (Qi Qb9.cells v.Packet.Filters),.slice 4 (Qi Q8s.cells v.Packet.Props),.int .i64 v.Msg.Type',.bool v.Msg.Flags.Dup,.int .i64 v.Msg.Flags.QoS,.bool v.Msg.Flags.Retain,.bool v.Msg.Flags.Will,.bool v.Msg.Flags.Clean,.int .i64 v.Msg.Flags.Type',.int .i64 v.Msg.Gateway,.int .i64 v.Msg.Radius,.int .i64 v.Msg.Time,.bool v.Msg.Timed,.int .i64 v.Msg.TopicID,.int .i64 v.Msg.MsgID,.int .i64 v.Msg.Code,.str v.Msg.Name,.str v.Msg.Data,.int .i64 v.Frame.Type',.int .i64 v.Frame.Channel,.str v.Frame.Ext,.slice 4 (Z0.rows v.Frame.Values)]
structure Q0 where
 do':Int
 m:Yw
 out:List Int
 bad:Bool
end
abbrev Q6v (v:Yw) (l:List AV):List AV:=iI v.Type' :: .p (.bool v.Flags.Dup)::iI v.Flags.QoS :: .p (.bool v.Flags.Retain) :: .p (.bool v.Flags.Will) :: .p (.bool v.Flags.Clean)::iI v.Flags.Type'::iI v.Gateway::iI v.Radius::iI v.Time :: .p (.bool v.Timed)::iI v.TopicID::iI v.MsgID::iI v.Code::iS v.Name::iS v.Data::l
abbrev Z6v (v:Yw) (l:List AV):List AV := .p (.int .i64 v.Type') :: .p (.bool v.Flags.Dup) :: .p (.int .i64 v.Flags.QoS) :: .p (.bool v.Flags.Retain) :: .p (.bool v.Flags.Will) :: .p (.bool v.Flags.Clean) :: .p (.int .i64 v.Flags.Type') :: .p (.int .i64 v.Gateway) :: .p (.int .i64 v.Radius) :: .p (.int .i64 v.Time) :: .p (.bool v.Timed) :: .p (.int .i64 v.TopicID) :: .p (.int .i64 v.MsgID) :: .p (.int .i64 v.Code) :: .p (.str v.Name) :: .p (.str v.Data)::l
abbrev Q5p (v:Zh) (l:List AV):List AV := .p (.bool v.Dup)::iI v.QoS :: .p (.bool v.Retain) :: .p (.bool v.Will) :: .p (.bool v.Clean)::iI v.Type'::l
abbrev Uy (v:Q0) (k:Nat):List AV := .p .nilPtr::iI v.do'::Q6v v.m (.slice 1 k 0 v.out.length :: .p (.bool v.bad) :: [])
theorem f1_ {K:Nat->Prop} {H:List AObj} {a:PV} {xs:List AV} {ys:List PV} (h:FrzL K H xs ys):FrzL K H (.p a::xs) (a::ys) := .cons (.p _) h
theorem f2_ {K:Nat->Prop} {H:List AObj} {a0 a1:PV} {xs:List AV} {ys:List PV} (h:FrzL K H xs ys):FrzL K H (.p a0 :: .p a1::xs) (a0::a1::ys):=f1_ (f1_ h)
theorem f4_ {K:Nat->Prop} {H:List AObj} {a0 a1 a2 a3:PV} {xs:List AV} {ys:List PV} (h:FrzL K H xs ys):FrzL K H (.p a0 :: .p a1 :: .p a2 :: .p a3::xs) (a0::a1::a2::a3::ys):=f2_ (f2_ h)
theorem f8_ {K:Nat->Prop} {H:List AObj} {a0 a1 a2 a3 a4 a5 a6 a7:PV} {xs:List AV} {ys:List PV} (h:FrzL K H xs ys):FrzL K H (.p a0 :: .p a1 :: .p a2 :: .p a3 :: .p a4 :: .p a5 :: .p a6 :: .p a7::xs) (a0::a1::a2::a3::a4::a5::a6::a7::ys):=f4_ (f4_ h)
theorem Qd1 {K:Nat->Prop} {H:List AObj} {a0 a1 a2 a3 a4 a5 a6 a7 a8 a9 a10 a11 a12 a13 a14 a15:PV} {xs:List AV} {ys:List PV} (h:FrzL K H xs ys):FrzL K H (.p a0 :: .p a1 :: .p a2 :: .p a3 :: .p a4 :: .p a5 :: .p a6 :: .p a7 :: .p a8 :: .p a9 :: .p a10 :: .p a11 :: .p a12 :: .p a13 :: .p a14 :: .p a15::xs) (a0::a1::a2::a3::a4::a5::a6::a7::a8::a9::a10::a11::a12::a13::a14::a15::ys):=f8_ (f8_ h)
section
variable {K:Nat->Prop} {H:List AObj}
theorem za {a0 a1 a2 a3 a4 a5 a6 a7 a8:PV}:FrzL K H [.p a0,.p a1,.p a2,.p a3,.p a4,.p a5,.p a6,.p a7,.p a8] [a0,a1,a2,a3,a4,a5,a6,a7,a8]:=(f2_ (f1_ (.cons (.p _) p5)))
theorem zb {a0 a1 a2 a3 a4 a5 a6 a7 a8 a9 a10 a11 a12 a13 a14 a15 a16 a17 a18 a19 a20 a21 a22 a23 a24:PV}:Frz K H (.agg [.p a0,.p a1,.p a2,.p a3,.p a4,.p a5,.p a6,.p a7,.p a8,.p a9,.p a10,.p a11,.p a12,.p a13,.p a14,.p a15,.p a16,.p a17,.p a18,.p a19,.p a20,.p a21,.p a22,.p a23,.p a24]) (.agg [a0,a1,a2,a3,a4,a5,a6,a7,a8,a9,a10,a11,a12,a13,a14,a15,a16,a17,a18,a19,a20,a21,a22,a23,a24]):=(Ar (Qd1 za))
theorem zc {a0 a1 a2 a3 a4 a5 a6 a7 a8 a9 a10 a11 a12 a13 a14 a15 a16 a17 a18 a19 a20 a21 a22 a23 a24:PV}:FrzL K H [.agg [.p a0,.p a1,.p a2,.p a3,.p a4,.p a5,.p a6,.p a7,.p a8,.p a9,.p a10,.p a11,.p a12,.p a13,.p a14,.p a15,.p a16,.p a17,.p a18,.p a19,.p a20,.p a21,.p a22,.p a23,.p a24]] [.agg [a0,a1,a2,a3,a4,a5,a6,a7,a8,a9,a10,a11,a12,a13,a14,a15,a16,a17,a18,a19,a20,a21,a22,a23,a24]]:=(.cons zb .nil)
theorem zd {u:PV} {a0 a1 a2 a3 a4 a5 a6 a7 a8 a9 a10 a11 a12 a13 a14 a15 a16 a17 a18 a19 a20 a21 a22 a23 a24:PV}:FrzL K H [.p u,.agg [.p a0,.p a1,.p a2,.p a3,.p a4,.p a5,.p a6,.p a7,.p a8,.p a9,.p a10,.p a11,.p a12,.p a13,.p a14,.p a15,.p a16,.p a17,.p a18,.p a19,.p a20,.p a21,.p a22,.p a23,.p a24]] [u,.agg [a0,a1,a2,a3,a4,a5,a6,a7,a8,a9,a10,a11,a12,a13,a14,a15,a16,a17,a18,a19,a20,a21,a22,a23,a24]]:=(.cons (.p _) zc)
end
end Go.Av
