/- Part of FrommqttCalls: the law returns true; no condition. -/
import Derived.Test.YtbcddiagcaddbaaGreatDoorAvAbb
set_option linter.all false
namespace Go.Av
noncomputable section
structure Q6 where
 ID:Int
 N':Int
 Text:List UInt8
 Value:List UInt8
@[reducible] def Q6.cells (v:Q6):List PV := [.int .i64 v.ID,.int .u32 v.N',.str v.Text,.str v.Value]
structure Y5 where
 Topic:List UInt8
 Payload:List UInt8
 QoS:Int
 Retain:Bool
 Props:List Q6
@[reducible] def Y5.cells (v:Y5):List PV := [.str v.Topic,.str v.Payload,.int .i64 v.QoS,.bool v.Retain,.slice 4 (Q7 Q6.cells v.Props)]
structure Qa where
 Topic:List UInt8
 QoS:Int
 NoLocal:Bool
 AsPublished:Bool
 Handling:Int
@[reducible] def Qa.cells (v:Qa):List PV := [.str v.Topic,.int .i64 v.QoS,.bool v.NoLocal,.bool v.AsPublished,.int .i64 v.Handling]
structure Q1 where
 Kind:Int
 Dup:Bool
 Retain:Bool
 QoS:Int
 ID:Int
 Topic:List UInt8
 Payload:List UInt8
 Clean:Bool
 KeepAlive:Int
 Client:List UInt8
 HasUser:Bool
 User:List UInt8
 HasPass:Bool
 Pass:List UInt8
 HasWill:Bool
 Will:Y5
 Session:Bool
 Code:Int
 Codes:List Int
 Filters:List Qa
 Props:List Q6
@[reducible] def Q1.cells (v:Q1):List PV := [.int .i64 v.Kind,.bool v.Dup,.bool v.Retain,.int .i64 v.QoS,.int .i64 v.ID,.str v.Topic,.str v.Payload,.bool v.Clean,.int .i64 v.KeepAlive,.str v.Client,.bool v.HasUser,.str v.User,.bool v.HasPass,.str v.Pass,.bool v.HasWill,.str v.Will.Topic,.str v.Will.Payload,.int .i64 v.Will.QoS,.bool v.Will.Retain,.slice 4 (Q7 Q6.cells v.Will.Props),.bool v.Session,.int .i64 v.Code,.slice 1 (Q7 (cI .i64) v.Codes),.slice 5 (Q7 Qa.cells v.Filters),.slice 4 (Q7 Q6.cells v.Props)]
structure Q9g where
 kind:Int
 qos:Int
 id:Int
 alive:Int
 code:Int
 dup:Bool
 retain:Bool
 clean:Bool
 user:Bool
 pass:Bool
 will:Bool
 again:Bool
 topic:List UInt8
 payload:List UInt8
 client:List UInt8
 name:List UInt8
 word:List UInt8
@[reducible] def Q9g.cells (v:Q9g):List PV := [.int .i64 v.kind,.int .i64 v.qos,.int .i64 v.id,.int .i64 v.alive,.int .i64 v.code,.bool v.dup,.bool v.retain,.bool v.clean,.bool v.user,.bool v.pass,.bool v.will,.bool v.again,.str v.topic,.str v.payload,.str v.client,.str v.name,.str v.word]
structure Qu where
 shape:Int
 kinds:Int
 least:Int
 most:Int
@[reducible] def Qu.cells (v:Qu):List PV := [.int .i64 v.shape,.int .i64 v.kinds,.int .u32 v.least,.int .u32 v.most]
structure Q78 where
 is:Bool
 bit:Int
@[reducible] def Q78.cells (v:Q78):List PV := [.bool v.is,.int .i64 v.bit]
structure Zr where
 version:Int
 p:Q1
@[reducible] def Zr.cells (v:Zr):List PV := [.int .i64 v.version,.int .i64 v.p.Kind,.bool v.p.Dup,.bool v.p.Retain,.int .i64 v.p.QoS,.int .i64 v.p.ID,.str v.p.Topic,.str v.p.Payload,.bool v.p.Clean,.int .i64 v.p.KeepAlive,.str v.p.Client,.bool v.p.HasUser,.str v.p.User,.bool v.p.HasPass,.str v.p.Pass,.bool v.p.HasWill,.str v.p.Will.Topic,.str v.p.Will.Payload,.int .i64 v.p.Will.QoS,.bool v.p.Will.Retain,.slice 4 (Q7 Q6.cells v.p.Will.Props),.bool v.p.Session,.int .i64 v.p.Code,.slice 1 (Q7 (cI .i64) v.p.Codes),.slice 5 (Q7 Qa.cells v.p.Filters),.slice 4 (Q7 Q6.cells v.p.Props)]
structure U3 where
@[reducible] def U3.cells (v:U3):List PV := []
structure Q09 where
 Radius:Int
 Node:List UInt8
@[reducible] def Q09.cells (v:Q09):List PV := [.int .i64 v.Radius,.str v.Node]
structure Q26 where
 Dup:Bool
 QoS:Int
 Retain:Bool
 Will:Bool
 Clean:Bool
 Type':Int
@[reducible] def Q26.cells (v:Q26):List PV := [.bool v.Dup,.int .i64 v.QoS,.bool v.Retain,.bool v.Will,.bool v.Clean,.int .i64 v.Type']
structure Qbr where
 Type':Int
 Flags:Q26
 Gateway:Int
 Radius:Int
 Time:Int
 Timed:Bool
 TopicID:Int
 MsgID:Int
 Code:Int
 Name:List UInt8
 Data:List UInt8
@[reducible] def Qbr.cells (v:Qbr):List PV := [.int .i64 v.Type',.bool v.Flags.Dup,.int .i64 v.Flags.QoS,.bool v.Flags.Retain,.bool v.Flags.Will,.bool v.Flags.Clean,.int .i64 v.Flags.Type',.int .i64 v.Gateway,.int .i64 v.Radius,.int .i64 v.Time,.bool v.Timed,.int .i64 v.TopicID,.int .i64 v.MsgID,.int .i64 v.Code,.str v.Name,.str v.Data]
structure Q2 where
 Kind:Int
 N':Int
 Text:List UInt8
 Items:List Q2
mutual
def Q2.cellsR:Q2->List PV
 | .mk x0 x1 x2 x3 => [.int .i64 x0,.int .u64 x1,.str x2,.slice 4 (Q2.rows x3)]
def Q2.rows:List Q2->List (List PV)
 | [] => []
 | v::l=>Q2.cellsR v::Q2.rows l
end
@[reducible] def Q2.cells (v:Q2):List PV := [.int .i64 v.Kind,.int .u64 v.N',.str v.Text,.slice 4 (Q2.rows v.Items)]
theorem Q2.cells_eq (v:Q2):v.cellsR=v.cells:=by cases v;simp only [Q2.cellsR,Q2.cells]
theorem Q2.rows_eq (l:List Q2):Q2.rows l=Q7 Q2.cells l:=by
 induction l with
 | nil=>simp only [Q2.rows,Q7,Cn]
 | cons v l ih=>simp only [Q2.rows,ih,Q7,Nr,Q2.cells_eq]
theorem Q2.frz_own {K:Nat->Prop} {H:List AObj} {a n:Nat} {l:List Q2} (ho:H[a]? = some (.cells (Q0g Q2.cells l))) (hk:K a) (hn:n=l.length):Frz K H (.slice 4 a 0 n) (.slice 4 (Q2.rows l)):=by rw [Q2.rows_eq];exact Av.frz_own (c:=Q2.cells) (fun _=>rfl) ho hk hn
theorem Q2.xR {P:Program} {Gl:Nat->Option (List PV)} {β:Type} {l:List Q2} {i:Int} {F:Q2->Option β} {r : β} (h:(idx l i).bind F=some r) {k:List PV->Prop} (hq:∀ y,F y=some r->k y.cells):Qy6 (EP P Gl) (Q2.rows l) i k:=by rw [Q2.rows_eq];exact Av.xR h hq
theorem Q2.idx_rows {l:List Q2} {i:Int} {y:Q2} (h:idx l i=some y):idx (Q2.rows l) i=some y.cells:=by rw [Q2.rows_eq];exact Av.idx_rows h
structure Y2 where
 Type':Int
 Channel:Int
 Ext:List UInt8
 Values:List Q2
@[reducible] def Y2.cells (v:Y2):List PV := [.int .i64 v.Type',.int .i64 v.Channel,.str v.Ext,.slice 4 (Q2.rows v.Values)]
structure Qd where
 Proto:Int
 Kind:Int
 Topic:List UInt8
 Payload:List UInt8
 QoS:Int
 Retain:Bool
 Dup:Bool
 ID:Int
 Props:List Q6
 Type':Int
 Hops:List Q09
 Channel:Int
 Packet:Q1
 Msg:Qbr
 Frame:Y2
@[reducible] def Qd.cells (v:Qd):List PV := [.int .i64 v.Proto,.int .i64 v.Kind,.str v.Topic,.str v.Payload,.int .i64 v.QoS,.bool v.Retain,.bool v.Dup,.int .i64 v.ID,.slice 4 (Q7 Q6.cells v.Props),.int .i64 v.Type',.slice 2 (Q7 Q09.cells v.Hops),.int .i64 v.Channel,.int .i64 v.Packet.Kind,.bool v.Packet.Dup,.bool v.Packet.Retain,.int .i64 v.Packet.QoS,.int .i64 v.Packet.ID,.str v.Packet.Topic,.str v.Packet.Payload,.bool v.Packet.Clean,.int .i64 v.Packet.KeepAlive,.str v.Packet.Client,.bool v.Packet.HasUser,.str v.Packet.User,.bool v.Packet.HasPass,.str v.Packet.Pass,.bool v.Packet.HasWill,.str v.Packet.Will.Topic,.str v.Packet.Will.Payload,.int .i64 v.Packet.Will.QoS,.bool v.Packet.Will.Retain,.slice 4 (Q7 Q6.cells v.Packet.Will.Props),.bool v.Packet.Session,.int .i64 v.Packet.Code,.slice 1 (Q7 (cI .i64) v.Packet.Codes),.slice 5 (Q7 Qa.cells v.Packet.Filters),.slice 4 (Q7 Q6.cells v.Packet.Props),.int .i64 v.Msg.Type',.bool v.Msg.Flags.Dup,.int .i64 v.Msg.Flags.QoS,.bool v.Msg.Flags.Retain,.bool v.Msg.Flags.Will,.bool v.Msg.Flags.Clean,.int .i64 v.Msg.Flags.Type',.int .i64 v.Msg.Gateway,.int .i64 v.Msg.Radius,.int .i64 v.Msg.Time,.bool v.Msg.Timed,.int .i64 v.Msg.TopicID,.int .i64 v.Msg.MsgID,.int .i64 v.Msg.Code,.str v.Msg.Name,.str v.Msg.Data,.int .i64 v.Frame.Type',.int .i64 v.Frame.Channel,.str v.Frame.Ext,.slice 4 (Q2.rows v.Frame.Values)]
structure Q5m where
 Hops:List Q09
 Msg:Qbr
@[reducible] def Q5m.cells (v:Q5m):List PV := [.slice 2 (Q7 Q09.cells v.Hops),.int .i64 v.Msg.Type',.bool v.Msg.Flags.Dup,.int .i64 v.Msg.Flags.QoS,.bool v.Msg.Flags.Retain,.bool v.Msg.Flags.Will,.bool v.Msg.Flags.Clean,.int .i64 v.Msg.Flags.Type',.int .i64 v.Msg.Gateway,.int .i64 v.Msg.Radius,.int .i64 v.Msg.Time,.bool v.Msg.Timed,.int .i64 v.Msg.TopicID,.int .i64 v.Msg.MsgID,.int .i64 v.Msg.Code,.str v.Msg.Name,.str v.Msg.Data]
structure Qc where
 shape:Int
 kinds:List Int
 least:Int
 most:Int
@[reducible] def Qc.cells (v:Qc):List PV := [.int .i64 v.shape,.slice 1 (Q7 (cI .i64) v.kinds),.int .u32 v.least,.int .u32 v.most]
structure Q24 where
 text:List UInt8
@[reducible] def Q24.cells (v:Q24):List PV := [.str v.text]
structure Yz where
 MaxPacket:Int
 MaxDepth:Int
@[reducible] def Yz.cells (v:Yz):List PV := [.int .i64 v.MaxPacket,.int .i64 v.MaxDepth]
structure Qfx where
 text:List UInt8
 at':Int
 err:Int
@[reducible] def Qfx.cells (v:Qfx):List PV := [.str v.text,.int .i64 v.at',.int .i64 v.err]
structure Qv5 where
 Code:Int
 Kind:Int
 Width:Int
 Sized:Bool
 Items:Bool
@[reducible] def Qv5.cells (v:Qv5):List PV := [.int .i64 v.Code,.int .i64 v.Kind,.int .i64 v.Width,.bool v.Sized,.bool v.Items]
structure Qh where
 v:Q2
 kids:List Qh
 element:Int
 inner:Int
mutual
def Qh.cellsR:Qh->List PV
 | .mk x0 x1 x2 x3 => [.int .i64 x0.Kind,.int .u64 x0.N',.str x0.Text,.slice 4 (Q2.rows x0.Items),.slice 7 (Qh.rows x1),.int .i64 x2,.int .i64 x3]
def Qh.rows:List Qh->List (List PV)
 | [] => []
 | v::l=>Qh.cellsR v::Qh.rows l
end
@[reducible] def Qh.cells (v:Qh):List PV := [.int .i64 v.v.Kind,.int .u64 v.v.N',.str v.v.Text,.slice 4 (Q2.rows v.v.Items),.slice 7 (Qh.rows v.kids),.int .i64 v.element,.int .i64 v.inner]
theorem Qh.cells_eq (v:Qh):v.cellsR=v.cells:=by cases v;simp only [Qh.cellsR,Qh.cells]
theorem Qh.rows_eq (l:List Qh):Qh.rows l=Q7 Qh.cells l:=by
 induction l with
 | nil=>simp only [Qh.rows,Q7,Cn]
 | cons v l ih=>simp only [Qh.rows,ih,Q7,Nr,Qh.cells_eq]
theorem Qh.frz_own {K:Nat->Prop} {H:List AObj} {a n:Nat} {l:List Qh} (ho:H[a]? = some (.cells (Q0g Qh.cells l))) (hk:K a) (hn:n=l.length):Frz K H (.slice 7 a 0 n) (.slice 7 (Qh.rows l)):=by rw [Qh.rows_eq];exact Av.frz_own (c:=Qh.cells) (fun _=>rfl) ho hk hn
theorem Qh.xR {P:Program} {Gl:Nat->Option (List PV)} {β:Type} {l:List Qh} {i:Int} {F:Qh->Option β} {r : β} (h:(idx l i).bind F=some r) {k:List PV->Prop} (hq:∀ y,F y=some r->k y.cells):Qy6 (EP P Gl) (Qh.rows l) i k:=by rw [Qh.rows_eq];exact Av.xR h hq
theorem Qh.idx_rows {l:List Qh} {i:Int} {y:Qh} (h:idx l i=some y):idx (Qh.rows l) i=some y.cells:=by rw [Qh.rows_eq];exact Av.idx_rows h
structure Qhy where
 Kind:Int
 Flags:Int
 Length:Int
@[reducible] def Qhy.cells (v:Qhy):List PV := [.int .i64 v.Kind,.int .i64 v.Flags,.int .i64 v.Length]
structure Q3c where
 do':Int
 m:Qbr
 out:List Int
 bad:Bool
end
abbrev Q6j (v:Qd) (l:List AV):List AV:=iI v.Proto::iI v.Kind::iS v.Topic::iS v.Payload::iI v.QoS :: .p (.bool v.Retain) :: .p (.bool v.Dup)::iI v.ID :: .p (.slice 4 (Q7 Q6.cells v.Props))::iI v.Type' :: .p (.slice 2 (Q7 Q09.cells v.Hops))::iI v.Channel::iI v.Packet.Kind :: .p (.bool v.Packet.Dup) :: .p (.bool v.Packet.Retain)::iI v.Packet.QoS::iI v.Packet.ID::iS v.Packet.Topic::iS v.Packet.Payload :: .p (.bool v.Packet.Clean)::iI v.Packet.KeepAlive::iS v.Packet.Client :: .p (.bool v.Packet.HasUser)::iS v.Packet.User :: .p (.bool v.Packet.HasPass)::iS v.Packet.Pass :: .p (.bool v.Packet.HasWill)::iS v.Packet.Will.Topic::iS v.Packet.Will.Payload::iI v.Packet.Will.QoS :: .p (.bool v.Packet.Will.Retain) :: .p (.slice 4 (Q7 Q6.cells v.Packet.Will.Props)) :: .p (.bool v.Packet.Session)::iI v.Packet.Code :: .p (.slice 1 (Q7 (cI .i64) v.Packet.Codes)) :: .p (.slice 5 (Q7 Qa.cells v.Packet.Filters)) :: .p (.slice 4 (Q7 Q6.cells v.Packet.Props))::iI v.Msg.Type' :: .p (.bool v.Msg.Flags.Dup)::iI v.Msg.Flags.QoS :: .p (.bool v.Msg.Flags.Retain) :: .p (.bool v.Msg.Flags.Will) :: .p (.bool v.Msg.Flags.Clean)::iI v.Msg.Flags.Type'::iI v.Msg.Gateway::iI v.Msg.Radius::iI v.Msg.Time :: .p (.bool v.Msg.Timed)::iI v.Msg.TopicID::iI v.Msg.MsgID::iI v.Msg.Code::iS v.Msg.Name::iS v.Msg.Data::iI v.Frame.Type'::iI v.Frame.Channel::iS v.Frame.Ext :: .p (.slice 4 (Q2.rows v.Frame.Values))::l
abbrev Q2l (v:Q1) (l:List AV):List AV:=iI v.Kind :: .p (.bool v.Dup) :: .p (.bool v.Retain)::iI v.QoS::iI v.ID::iS v.Topic::iS v.Payload :: .p (.bool v.Clean)::iI v.KeepAlive::iS v.Client :: .p (.bool v.HasUser)::iS v.User :: .p (.bool v.HasPass)::iS v.Pass :: .p (.bool v.HasWill)::iS v.Will.Topic::iS v.Will.Payload::iI v.Will.QoS :: .p (.bool v.Will.Retain) :: .p (.slice 4 (Q7 Q6.cells v.Will.Props)) :: .p (.bool v.Session)::iI v.Code :: .p (.slice 1 (Q7 (cI .i64) v.Codes)) :: .p (.slice 5 (Q7 Qa.cells v.Filters)) :: .p (.slice 4 (Q7 Q6.cells v.Props))::l
abbrev Qo0 (v:Qbr) (l:List AV):List AV:=iI v.Type' :: .p (.bool v.Flags.Dup)::iI v.Flags.QoS :: .p (.bool v.Flags.Retain) :: .p (.bool v.Flags.Will) :: .p (.bool v.Flags.Clean)::iI v.Flags.Type'::iI v.Gateway::iI v.Radius::iI v.Time :: .p (.bool v.Timed)::iI v.TopicID::iI v.MsgID::iI v.Code::iS v.Name::iS v.Data::l
abbrev Qi4 (v:Y2) (l:List AV):List AV:=iI v.Type'::iI v.Channel::iS v.Ext :: .p (.slice 4 (Q2.rows v.Values))::l
theorem f1_ {K:Nat->Prop} {H:List AObj} {a:PV} {xs:List AV} {ys:List PV} (h:FrzL K H xs ys):FrzL K H (.p a::xs) (a::ys) := .cons (.p _) h
theorem f2_ {K:Nat->Prop} {H:List AObj} {a0 a1:PV} {xs:List AV} {ys:List PV} (h:FrzL K H xs ys):FrzL K H (.p a0 :: .p a1::xs) (a0::a1::ys):=f1_ (f1_ h)
theorem f4_ {K:Nat->Prop} {H:List AObj} {a0 a1 a2 a3:PV} {xs:List AV} {ys:List PV} (h:FrzL K H xs ys):FrzL K H (.p a0 :: .p a1 :: .p a2 :: .p a3::xs) (a0::a1::a2::a3::ys):=f2_ (f2_ h)
theorem f8_ {K:Nat->Prop} {H:List AObj} {a0 a1 a2 a3 a4 a5 a6 a7:PV} {xs:List AV} {ys:List PV} (h:FrzL K H xs ys):FrzL K H (.p a0 :: .p a1 :: .p a2 :: .p a3 :: .p a4 :: .p a5 :: .p a6 :: .p a7::xs) (a0::a1::a2::a3::a4::a5::a6::a7::ys):=f4_ (f4_ h)
theorem Qo {K:Nat->Prop} {H:List AObj} {a0 a1 a2 a3 a4 a5 a6 a7 a8 a9 a10 a11 a12 a13 a14 a15:PV} {xs:List AV} {ys:List PV} (h:FrzL K H xs ys):FrzL K H (.p a0 :: .p a1 :: .p a2 :: .p a3 :: .p a4 :: .p a5 :: .p a6 :: .p a7 :: .p a8 :: .p a9 :: .p a10 :: .p a11 :: .p a12 :: .p a13 :: .p a14 :: .p a15::xs) (a0::a1::a2::a3::a4::a5::a6::a7::a8::a9::a10::a11::a12::a13::a14::a15::ys):=f8_ (f8_ h)
section
variable {K:Nat->Prop} {H:List AObj}
theorem za {a0 a1 a2 a3 a4 a5 a6 a7 a8:PV}:FrzL K H [.p a0,.p a1,.p a2,.p a3,.p a4,.p a5,.p a6,.p a7,.p a8] [a0,a1,a2,a3,a4,a5,a6,a7,a8]:=(f2_ (f1_ (.cons (.p _) p5)))
theorem zb {a0 a1 a2 a3 a4 a5 a6 a7 a8 a9 a10 a11 a12 a13 a14 a15 a16 a17 a18 a19 a20 a21 a22 a23 a24:PV}:Frz K H (.agg [.p a0,.p a1,.p a2,.p a3,.p a4,.p a5,.p a6,.p a7,.p a8,.p a9,.p a10,.p a11,.p a12,.p a13,.p a14,.p a15,.p a16,.p a17,.p a18,.p a19,.p a20,.p a21,.p a22,.p a23,.p a24]) (.agg [a0,a1,a2,a3,a4,a5,a6,a7,a8,a9,a10,a11,a12,a13,a14,a15,a16,a17,a18,a19,a20,a21,a22,a23,a24]):=(Ap (Qo za))
theorem zc {a0 a1 a2 a3 a4 a5 a6 a7 a8 a9 a10 a11 a12 a13 a14 a15 a16 a17 a18 a19 a20 a21 a22 a23 a24:PV}:FrzL K H [.agg [.p a0,.p a1,.p a2,.p a3,.p a4,.p a5,.p a6,.p a7,.p a8,.p a9,.p a10,.p a11,.p a12,.p a13,.p a14,.p a15,.p a16,.p a17,.p a18,.p a19,.p a20,.p a21,.p a22,.p a23,.p a24]] [.agg [a0,a1,a2,a3,a4,a5,a6,a7,a8,a9,a10,a11,a12,a13,a14,a15,a16,a17,a18,a19,a20,a21,a22,a23,a24]]:=(.cons zb .nil)
theorem zd {u:PV} {a0 a1 a2 a3 a4 a5 a6 a7 a8 a9 a10 a11 a12 a13 a14 a15 a16 a17 a18 a19 a20 a21 a22 a23 a24:PV}:FrzL K H [.p u,.agg [.p a0,.p a1,.p a2,.p a3,.p a4,.p a5,.p a6,.p a7,.p a8,.p a9,.p a10,.p a11,.p a12,.p a13,.p a14,.p a15,.p a16,.p a17,.p a18,.p a19,.p a20,.p a21,.p a22,.p a23,.p a24]] [u,.agg [a0,a1,a2,a3,a4,a5,a6,a7,a8,a9,a10,a11,a12,a13,a14,a15,a16,a17,a18,a19,a20,a21,a22,a23,a24]]:=(.cons (.p _) zc)
end
end Go.Av
