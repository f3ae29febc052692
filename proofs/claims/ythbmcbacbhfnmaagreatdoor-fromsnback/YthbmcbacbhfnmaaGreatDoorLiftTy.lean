/- Part of FromsnBack: the law returns true; no condition. -/
import Derived.Test.YthbmcbacbhfnmaaGreatDoorAvSelf
set_option linter.all false
namespace Go.Av
noncomputable section
structure Qi where
 Client:List UInt8
 Name:List UInt8
 ID:Int
@[reducible] def Qi.cells (v:Qi):List PV := [.str v.Client,.str v.Name,.int .i64 v.ID]
structure Qz where
 Dup:Bool
 QoS:Int
 Retain:Bool
 Will:Bool
 Clean:Bool
 Type':Int
@[reducible] def Qz.cells (v:Qz):List PV := [.bool v.Dup,.int .i64 v.QoS,.bool v.Retain,.bool v.Will,.bool v.Clean,.int .i64 v.Type']
structure Xl where
 Type':Int
 Flags:Qz
 Gateway:Int
 Radius:Int
 Time:Int
 Timed:Bool
 TopicID:Int
 MsgID:Int
 Code:Int
 Name:List UInt8
 Data:List UInt8
@[reducible] def Xl.cells (v:Xl):List PV := [.int .i64 v.Type',.bool v.Flags.Dup,.int .i64 v.Flags.QoS,.bool v.Flags.Retain,.bool v.Flags.Will,.bool v.Flags.Clean,.int .i64 v.Flags.Type',.int .i64 v.Gateway,.int .i64 v.Radius,.int .i64 v.Time,.bool v.Timed,.int .i64 v.TopicID,.int .i64 v.MsgID,.int .i64 v.Code,.str v.Name,.str v.Data]
structure Vc where
 Radius:Int
 Node:List UInt8
@[reducible] def Vc.cells (v:Vc):List PV := [.int .i64 v.Radius,.str v.Node]
structure Qb where
 Hops:List Vc
 Msg:Xl
@[reducible] def Qb.cells (v:Qb):List PV := [.slice 2 (Q7 Vc.cells v.Hops),.int .i64 v.Msg.Type',.bool v.Msg.Flags.Dup,.int .i64 v.Msg.Flags.QoS,.bool v.Msg.Flags.Retain,.bool v.Msg.Flags.Will,.bool v.Msg.Flags.Clean,.int .i64 v.Msg.Flags.Type',.int .i64 v.Msg.Gateway,.int .i64 v.Msg.Radius,.int .i64 v.Msg.Time,.bool v.Msg.Timed,.int .i64 v.Msg.TopicID,.int .i64 v.Msg.MsgID,.int .i64 v.Msg.Code,.str v.Msg.Name,.str v.Msg.Data]
structure Z5 where
 ID:Int
 N':Int
 Text:List UInt8
 Value:List UInt8
@[reducible] def Z5.cells (v:Z5):List PV := [.int .i64 v.ID,.int .u32 v.N',.str v.Text,.str v.Value]
structure Q3r where
 Topic:List UInt8
 Payload:List UInt8
 QoS:Int
 Retain:Bool
 Props:List Z5
@[reducible] def Q3r.cells (v:Q3r):List PV := [.str v.Topic,.str v.Payload,.int .i64 v.QoS,.bool v.Retain,.slice 4 (Q7 Z5.cells v.Props)]
structure Yp where
 Topic:List UInt8
 QoS:Int
 NoLocal:Bool
 AsPublished:Bool
 Handling:Int
@[reducible] def Yp.cells (v:Yp):List PV := [.str v.Topic,.int .i64 v.QoS,.bool v.NoLocal,.bool v.AsPublished,.int .i64 v.Handling]
structure Zj where
 Kind:Int
 Dup:Bool
 Retain:Bool
 QoS:Int
 ID:Int
 Topic:List UInt8
 Payload:List UInt8
 Clean:Bool
 KeepAlive:Int
 Client:List UInt8
 HasUser:Bool
 User:List UInt8
 HasPass:Bool
 Pass:List UInt8
 HasWill:Bool
 Will:Q3r
 Session:Bool
 Code:Int
 Codes:List Int
 Filters:List Yp
 Props:List Z5
@[reducible] def Zj.cells (v:Zj):List PV := [.int .i64 v.Kind,.bool v.Dup,.bool v.Retain,.int .i64 v.QoS,.int .i64 v.ID,.str v.Topic,.str v.Payload,.bool v.Clean,.int .i64 v.KeepAlive,.str v.Client,.bool v.HasUser,.str v.User,.bool v.HasPass,.str v.Pass,.bool v.HasWill,.str v.Will.Topic,.str v.Will.Payload,.int .i64 v.Will.QoS,.bool v.Will.Retain,.slice 4 (Q7 Z5.cells v.Will.Props),.bool v.Session,.int .i64 v.Code,.slice 1 (Q7 (cI .i64) v.Codes),.slice 5 (Q7 Yp.cells v.Filters),.slice 4 (Q7 Z5.cells v.Props)]
structure Q4 where
 Kind:Int
 N':Int
 Text:List UInt8
 Items:List Q4
mutual
def Q4.cellsR:Q4->List PV
 | .mk x0 x1 x2 x3 => [.int .i64 x0,.int .u64 x1,.str x2,.slice 4 (Q4.rows x3)]
def Q4.rows:List Q4->List (List PV)
 | [] => []
 | v::l=>Q4.cellsR v::Q4.rows l
end
@[reducible] def Q4.cells (v:Q4):List PV := [.int .i64 v.Kind,.int .u64 v.N',.str v.Text,.slice 4 (Q4.rows v.Items)]
def Q4.cells_eq (v:Q4):v.cellsR=v.cells:=by cases v;simp only [Q4.cellsR,Q4.cells]
def Q4.rows_eq (l:List Q4):Q4.rows l=Q7 Q4.cells l:=by
 induction l with
 | nil=>simp only [Q4.rows,Q7,Bk]
 | cons v l ih=>simp only [Q4.rows,ih,Q7,Mv,Q4.cells_eq]
def Q4.frz_own {K:Nat->Prop} {H:List AObj} {a n:Nat} {l:List Q4} (ho:H[a]? = some (.cells (Xh Q4.cells l))) (hk:K a) (hn:n=l.length):Frz K H (.slice 4 a 0 n) (.slice 4 (Q4.rows l)):=by rw [Q4.rows_eq];exact Av.frz_own (c:=Q4.cells) (fun _=>rfl) ho hk hn
def Q4.xR {P:Program} {Gl:Nat->Option (List PV)} {β:Type} {l:List Q4} {i:Int} {F:Q4->Option β} {r : β} (h:(idx l i).bind F=some r) {k:List PV->Prop} (hq:∀ y,F y=some r->k y.cells):Z04 (EP P Gl) (Q4.rows l) i k:=by rw [Q4.rows_eq];exact Av.xR h hq
def Q4.idx_rows {l:List Q4} {i:Int} {y:Q4} (h:idx l i=some y):idx (Q4.rows l) i=some y.cells:=by rw [Q4.rows_eq];exact Av.idx_rows h
structure X9 where
 Type':Int
 Channel:Int
 Ext:List UInt8
 Values:List Q4
@[reducible] def X9.cells (v:X9):List PV := [.int .i64 v.Type',.int .i64 v.Channel,.str v.Ext,.slice 4 (Q4.rows v.Values)]
structure Qg where
 Proto:Int
 Kind:Int
 Topic:List UInt8
 Payload:List UInt8
 QoS:Int
 Retain:Bool
 Dup:Bool
 ID:Int
 Props:List Z5
 Type':Int
 Hops:List Vc
 Channel:Int
 Packet:Zj
 Msg:Xl
 Frame:X9
@[reducible] def Qg.cells (v:Qg):List PV := [.int .i64 v.Proto,.int .i64 v.Kind,.str v.Topic,.str v.Payload,.int .i64 v.QoS,.bool v.Retain,.bool v.Dup,.int .i64 v.ID,.slice 4 (Q7 Z5.cells v.Props),.int .i64 v.Type',.slice 2 (Q7 Vc.cells v.Hops),.int .i64 v.Channel,.int .i64 v.Packet.Kind,.bool v.Packet.Dup,.bool v.Packet.Retain,.int .i64 v.Packet.QoS,.int .i64 v.Packet.ID,.str v.Packet.Topic,.str v.Packet.Payload,.bool v.Packet.Clean,.int .i64 v.Packet.KeepAlive,.str v.Packet.Client,.bool v.Packet.HasUser,.str v.Packet.User,.bool v.Packet.HasPass,.str v.Packet.Pass,.bool v.Packet.HasWill,.str v.Packet.Will.Topic,.str v.Packet.Will.Payload,.int .i64 v.Packet.Will.QoS,.bool v.Packet.Will.Retain,.slice 4 (Q7 Z5.cells v.Packet.Will.Props),.bool v.Packet.Session,.int .i64 v.Packet.Code,.slice 1 (Q7 (cI .i64) v.Packet.Codes),.slice 5 (Q7 Yp.cells v.Packet.Filters),.slice 4 (Q7 Z5.cells v.Packet.Props),.int .i64 v.Msg.Type',.bool v.Msg.Flags.Dup,.int .i64 v.Msg.Flags.QoS,.bool v.Msg.Flags.Retain,.bool v.Msg.Flags.Will,.bool v.Msg.Flags.Clean,.int .i64 v.Msg.Flags.Type',.int .i64 v.Msg.Gateway,.int .i64 v.Msg.Radius,.int .i64 v.Msg.Time,.bool v.Msg.Timed,.int .i64 v.Msg.TopicID,.int .i64 v.Msg.MsgID,.int .i64 v.Msg.Code,.str v.Msg.Name,.str v.Msg.Data,.int .i64 v.Frame.Type',.int .i64 v.Frame.Channel,.str v.Frame.Ext,.slice 4 (Q4.rows v.Frame.Values)]
structure Qs where
 ID:Int
 Name:List UInt8
 Fixed:Bool
@[reducible] def Qs.cells (v:Qs):List PV := [.int .i64 v.ID,.str v.Name,.bool v.Fixed]
structure Q5 where
 client:List UInt8
 l:List Qs
@[reducible] def Q5.cells (v:Q5):List PV := [.str v.client,.slice 3 (Q7 Qs.cells v.l)]
structure Q2 where
 L:List Q5
@[reducible] def Q2.cells (v:Q2):List PV := [.slice 2 (Q7 Q5.cells v.L)]
structure Yq where
 MaxPacket:Int
 MaxDepth:Int
@[reducible] def Yq.cells (v:Yq):List PV := [.int .i64 v.MaxPacket,.int .i64 v.MaxDepth]
structure Qdu where
 text:List UInt8
 at':Int
 err:Int
@[reducible] def Qdu.cells (v:Qdu):List PV := [.str v.text,.int .i64 v.at',.int .i64 v.err]
structure Q0r where
@[reducible] def Q0r.cells (v:Q0r):List PV := []
structure Q1n where
 text:List UInt8
@[reducible] def Q1n.cells (v:Q1n):List PV := [.str v.text]
structure Q9b where
 kind:Int
 qos:Int
 id:Int
 alive:Int
 code:Int
 dup:Bool
 retain:Bool
 clean:Bool
 user:Bool
 pass:Bool
 will:Bool
 again:Bool
 topic:List UInt8
 payload:List UInt8
 client:List UInt8
 name:List UInt8
 word:List UInt8
@[reducible] def Q9b.cells (v:Q9b):List PV := [.int .i64 v.kind,.int .i64 v.qos,.int .i64 v.id,.int .i64 v.alive,.int .i64 v.code,.bool v.dup,.bool v.retain,.bool v.clean,.bool v.user,.bool v.pass,.bool v.will,.bool v.again,.str v.topic,.str v.payload,.str v.client,.str v.name,.str v.word]
structure Qy where
 shape:Int
 kinds:Int
 least:Int
 most:Int
@[reducible] def Qy.cells (v:Qy):List PV := [.int .i64 v.shape,.int .i64 v.kinds,.int .u32 v.least,.int .u32 v.most]
structure Qxu where
 Code:Int
 Kind:Int
 Width:Int
 Sized:Bool
 Items:Bool
@[reducible] def Qxu.cells (v:Qxu):List PV := [.int .i64 v.Code,.int .i64 v.Kind,.int .i64 v.Width,.bool v.Sized,.bool v.Items]
structure Qh where
 v:Q4
 kids:List Qh
 element:Int
 inner:Int
mutual
def Qh.cellsR:Qh->List PV
 | .mk x0 x1 x2 x3 => [.int .i64 x0.Kind,.int .u64 x0.N',.str x0.Text,.slice 4 (Q4.rows x0.Items),.slice 7 (Qh.rows x1),.int .i64 x2,.int .i64 x3]
def Qh.rows:List Qh->List (List PV)
 | [] => []
 | v::l=>Qh.cellsR v::Qh.rows l
end
@[reducible] def Qh.cells (v:Qh):List PV := [.int .i64 v.v.Kind,.int .u64 v.v.N',.str v.v.Text,.slice 4 (Q4.rows v.v.Items),.slice 7 (Qh.rows v.kids),.int .i64 v.element,.int .i64 v.inner]
def Qh.cells_eq (v:Qh):v.cellsR=v.cells:=by cases v;simp only [Qh.cellsR,Qh.cells]
def Qh.rows_eq (l:List Qh):Qh.rows l=Q7 Qh.cells l:=by
 induction l with
 | nil=>simp only [Qh.rows,Q7,Bk]
 | cons v l ih=>simp only [Qh.rows,ih,Q7,Mv,Qh.cells_eq]
def Qh.frz_own {K:Nat->Prop} {H:List AObj} {a n:Nat} {l:List Qh} (ho:H[a]? = some (.cells (Xh Qh.cells l))) (hk:K a) (hn:n=l.length):Frz K H (.slice 7 a 0 n) (.slice 7 (Qh.rows l)):=by rw [Qh.rows_eq];exact Av.frz_own (c:=Qh.cells) (fun _=>rfl) ho hk hn
def Qh.xR {P:Program} {Gl:Nat->Option (List PV)} {β:Type} {l:List Qh} {i:Int} {F:Qh->Option β} {r : β} (h:(idx l i).bind F=some r) {k:List PV->Prop} (hq:∀ y,F y=some r->k y.cells):Z04 (EP P Gl) (Qh.rows l) i k:=by rw [Qh.rows_eq];exact Av.xR h hq
def Qh.idx_rows {l:List Qh} {i:Int} {y:Qh} (h:idx l i=some y):idx (Qh.rows l) i=some y.cells:=by rw [Qh.rows_eq];exact Av.idx_rows h
structure Qrr where
 is:Bool
 bit:Int
@[reducible] def Qrr.cells (v:Qrr):List PV := [.bool v.is,.int .i64 v.bit]
structure Qhm where
 version:Int
 p:Zj
@[reducible] def Qhm.cells (v:Qhm):List PV := [.int .i64 v.version,.int .i64 v.p.Kind,.bool v.p.Dup,.bool v.p.Retain,.int .i64 v.p.QoS,.int .i64 v.p.ID,.str v.p.Topic,.str v.p.Payload,.bool v.p.Clean,.int .i64 v.p.KeepAlive,.str v.p.Client,.bool v.p.HasUser,.str v.p.User,.bool v.p.HasPass,.str v.p.Pass,.bool v.p.HasWill,.str v.p.Will.Topic,.str v.p.Will.Payload,.int .i64 v.p.Will.QoS,.bool v.p.Will.Retain,.slice 4 (Q7 Z5.cells v.p.Will.Props),.bool v.p.Session,.int .i64 v.p.Code,.slice 1 (Q7 (cI .i64) v.p.Codes),.slice 5 (Q7 Yp.cells v.p.Filters),.slice 4 (Q7 Z5.cells v.p.Props)]
structure Qcf where
@[reducible] def Qcf.cells (v:Qcf):List PV := []
structure Qa where
 shape:Int
 kinds:List Int
 least:Int
 most:Int
@[reducible] def Qa.cells (v:Qa):List PV := [.int .i64 v.shape,.slice 1 (Q7 (cI .i64) v.kinds),.int .u32 v.least,.int .u32 v.most]
structure Q3 where
 do':Int
 m:Xl
 out:List Int
 bad:Bool
end
abbrev Q5z (v:Qg) (l:List AV):List AV:=iI v.Proto::iI v.Kind::iS v.Topic::iS v.Payload::iI v.QoS :: .p (.bool v.Retain) :: .p (.bool v.Dup)::iI v.ID :: .p (.slice 4 (Q7 Z5.cells v.Props))::iI v.Type' :: .p (.slice 2 (Q7 Vc.cells v.Hops))::iI v.Channel::iI v.Packet.Kind :: .p (.bool v.Packet.Dup) :: .p (.bool v.Packet.Retain)::iI v.Packet.QoS::iI v.Packet.ID::iS v.Packet.Topic::iS v.Packet.Payload :: .p (.bool v.Packet.Clean)::iI v.Packet.KeepAlive::iS v.Packet.Client :: .p (.bool v.Packet.HasUser)::iS v.Packet.User :: .p (.bool v.Packet.HasPass)::iS v.Packet.Pass :: .p (.bool v.Packet.HasWill)::iS v.Packet.Will.Topic::iS v.Packet.Will.Payload::iI v.Packet.Will.QoS :: .p (.bool v.Packet.Will.Retain) :: .p (.slice 4 (Q7 Z5.cells v.Packet.Will.Props)) :: .p (.bool v.Packet.Session)::iI v.Packet.Code :: .p (.slice 1 (Q7 (cI .i64) v.Packet.Codes)) :: .p (.slice 5 (Q7 Yp.cells v.Packet.Filters)) :: .p (.slice 4 (Q7 Z5.cells v.Packet.Props))::iI v.Msg.Type' :: .p (.bool v.Msg.Flags.Dup)::iI v.Msg.Flags.QoS :: .p (.bool v.Msg.Flags.Retain) :: .p (.bool v.Msg.Flags.Will) :: .p (.bool v.Msg.Flags.Clean)::iI v.Msg.Flags.Type'::iI v.Msg.Gateway::iI v.Msg.Radius::iI v.Msg.Time :: .p (.bool v.Msg.Timed)::iI v.Msg.TopicID::iI v.Msg.MsgID::iI v.Msg.Code::iS v.Msg.Name::iS v.Msg.Data::iI v.Frame.Type'::iI v.Frame.Channel::iS v.Frame.Ext :: .p (.slice 4 (Q4.rows v.Frame.Values))::l
abbrev Qrg (v:Qb) (l:List AV):List AV := .p (.slice 2 (Q7 Vc.cells v.Hops))::iI v.Msg.Type' :: .p (.bool v.Msg.Flags.Dup)::iI v.Msg.Flags.QoS :: .p (.bool v.Msg.Flags.Retain) :: .p (.bool v.Msg.Flags.Will) :: .p (.bool v.Msg.Flags.Clean)::iI v.Msg.Flags.Type'::iI v.Msg.Gateway::iI v.Msg.Radius::iI v.Msg.Time :: .p (.bool v.Msg.Timed)::iI v.Msg.TopicID::iI v.Msg.MsgID::iI v.Msg.Code::iS v.Msg.Name::iS v.Msg.Data::l
abbrev Qfu (v:Xl) (l:List AV):List AV:=iI v.Type' :: .p (.bool v.Flags.Dup)::iI v.Flags.QoS :: .p (.bool v.Flags.Retain) :: .p (.bool v.Flags.Will) :: .p (.bool v.Flags.Clean)::iI v.Flags.Type'::iI v.Gateway::iI v.Radius::iI v.Time :: .p (.bool v.Timed)::iI v.TopicID::iI v.MsgID::iI v.Code::iS v.Name::iS v.Data::l
abbrev Zjl (v:Xl) (l:List AV):List AV := .p (.int .i64 v.Type') :: .p (.bool v.Flags.Dup) :: .p (.int .i64 v.Flags.QoS) :: .p (.bool v.Flags.Retain) :: .p (.bool v.Flags.Will) :: .p (.bool v.Flags.Clean) :: .p (.int .i64 v.Flags.Type') :: .p (.int .i64 v.Gateway) :: .p (.int .i64 v.Radius) :: .p (.int .i64 v.Time) :: .p (.bool v.Timed) :: .p (.int .i64 v.TopicID) :: .p (.int .i64 v.MsgID) :: .p (.int .i64 v.Code) :: .p (.str v.Name) :: .p (.str v.Data)::l
abbrev Qbm (v:Qz) (l:List AV):List AV := .p (.bool v.Dup)::iI v.QoS :: .p (.bool v.Retain) :: .p (.bool v.Will) :: .p (.bool v.Clean)::iI v.Type'::l
abbrev Q12 (v:Q3) (k:Nat):List AV := .p .nilPtr::iI v.do'::Qfu v.m (.slice 1 k 0 v.out.length :: .p (.bool v.bad) :: [])
def f1_ {K:Nat->Prop} {H:List AObj} {a:PV} {xs:List AV} {ys:List PV} (h:FrzL K H xs ys):FrzL K H (.p a::xs) (a::ys) := .cons (.p _) h
def f2_ {K:Nat->Prop} {H:List AObj} {a0 a1:PV} {xs:List AV} {ys:List PV} (h:FrzL K H xs ys):FrzL K H (.p a0 :: .p a1::xs) (a0::a1::ys):=f1_ (f1_ h)
def f4_ {K:Nat->Prop} {H:List AObj} {a0 a1 a2 a3:PV} {xs:List AV} {ys:List PV} (h:FrzL K H xs ys):FrzL K H (.p a0 :: .p a1 :: .p a2 :: .p a3::xs) (a0::a1::a2::a3::ys):=f2_ (f2_ h)
def f8_ {K:Nat->Prop} {H:List AObj} {a0 a1 a2 a3 a4 a5 a6 a7:PV} {xs:List AV} {ys:List PV} (h:FrzL K H xs ys):FrzL K H (.p a0 :: .p a1 :: .p a2 :: .p a3 :: .p a4 :: .p a5 :: .p a6 :: .p a7::xs) (a0::a1::a2::a3::a4::a5::a6::a7::ys):=f4_ (f4_ h)
def Vl {K:Nat->Prop} {H:List AObj} {a0 a1 a2 a3 a4 a5 a6 a7 a8 a9 a10 a11 a12 a13 a14 a15:PV} {xs:List AV} {ys:List PV} (h:FrzL K H xs ys):FrzL K H (.p a0 :: .p a1 :: .p a2 :: .p a3 :: .p a4 :: .p a5 :: .p a6 :: .p a7 :: .p a8 :: .p a9 :: .p a10 :: .p a11 :: .p a12 :: .p a13 :: .p a14 :: .p a15::xs) (a0::a1::a2::a3::a4::a5::a6::a7::a8::a9::a10::a11::a12::a13::a14::a15::ys):=f8_ (f8_ h)
section
variable {K:Nat->Prop} {H:List AObj}
def za {a0 a1 a2 a3 a4 a5 a6 a7 a8:PV}:FrzL K H [.p a0,.p a1,.p a2,.p a3,.p a4,.p a5,.p a6,.p a7,.p a8] [a0,a1,a2,a3,a4,a5,a6,a7,a8]:=(f2_ (f1_ (.cons (.p _) p5)))
def zb {a0 a1 a2 a3 a4 a5 a6 a7 a8 a9 a10 a11 a12 a13 a14 a15 a16 a17 a18 a19 a20 a21 a22 a23 a24:PV}:Frz K H (.agg [.p a0,.p a1,.p a2,.p a3,.p a4,.p a5,.p a6,.p a7,.p a8,.p a9,.p a10,.p a11,.p a12,.p a13,.p a14,.p a15,.p a16,.p a17,.p a18,.p a19,.p a20,.p a21,.p a22,.p a23,.p a24]) (.agg [a0,a1,a2,a3,a4,a5,a6,a7,a8,a9,a10,a11,a12,a13,a14,a15,a16,a17,a18,a19,a20,a21,a22,a23,a24]):=(Ar (Vl za))
def zc {a0 a1 a2 a3 a4 a5 a6 a7 a8 a9 a10 a11 a12 a13 a14 a15 a16 a17 a18 a19 a20 a21 a22 a23 a24:PV}:FrzL K H [.agg [.p a0,.p a1,.p a2,.p a3,.p a4,.p a5,.p a6,.p a7,.p a8,.p a9,.p a10,.p a11,.p a12,.p a13,.p a14,.p a15,.p a16,.p a17,.p a18,.p a19,.p a20,.p a21,.p a22,.p a23,.p a24]] [.agg [a0,a1,a2,a3,a4,a5,a6,a7,a8,a9,a10,a11,a12,a13,a14,a15,a16,a17,a18,a19,a20,a21,a22,a23,a24]]:=(.cons zb .nil)
def zd {u:PV} {a0 a1 a2 a3 a4 a5 a6 a7 a8 a9 a10 a11 a12 a13 a14 a15 a16 a17 a18 a19 a20 a21 a22 a23 a24:PV}:FrzL K H [.p u,.agg [.p a0,.p a1,.p a2,.p a3,.p a4,.p a5,.p a6,.p a7,.p a8,.p a9,.p a10,.p a11,.p a12,.p a13,.p a14,.p a15,.p a16,.p a17,.p a18,.p a19,.p a20,.p a21,.p a22,.p a23,.p a24]] [u,.agg [a0,a1,a2,a3,a4,a5,a6,a7,a8,a9,a10,a11,a12,a13,a14,a15,a16,a17,a18,a19,a20,a21,a22,a23,a24]]:=(.cons (.p _) zc)
end
end Go.Av
