/- Part of the proof of FrommqttBack: for every input the law returns true; no condition. -/
import Derived.Test.YteblaejaahpnaaaGreatDoorAvAbb
set_option linter.all false
namespace Go.Av
noncomputable section
structure Q8k where
 kind:Int
 qos:Int
 id:Int
 alive:Int
 code:Int
 dup:Bool
 retain:Bool
 clean:Bool
 user:Bool
 pass:Bool
 will:Bool
 again:Bool
 topic:List UInt8
 payload:List UInt8
 client:List UInt8
 name:List UInt8
 word:List UInt8
@[reducible] def Q8k.cells (v:Q8k):List PV := [.int .i64 v.kind,.int .i64 v.qos,.int .i64 v.id,.int .i64 v.alive,.int .i64 v.code,.bool v.dup,.bool v.retain,.bool v.clean,.bool v.user,.bool v.pass,.bool v.will,.bool v.again,.str v.topic,.str v.payload,.str v.client,.str v.name,.str v.word]
structure Qb where
 ID:Int
 N':Int
 Text:List UInt8
 Value:List UInt8
@[reducible] def Qb.cells (v:Qb):List PV := [.int .i64 v.ID,.int .u32 v.N',.str v.Text,.str v.Value]
structure Xn where
 Topic:List UInt8
 Payload:List UInt8
 QoS:Int
 Retain:Bool
 Props:List Qb
@[reducible] def Xn.cells (v:Xn):List PV := [.str v.Topic,.str v.Payload,.int .i64 v.QoS,.bool v.Retain,.slice 4 (Q6 Qb.cells v.Props)]
structure Qg where
 Topic:List UInt8
 QoS:Int
 NoLocal:Bool
 AsPublished:Bool
 Handling:Int
@[reducible] def Qg.cells (v:Qg):List PV := [.str v.Topic,.int .i64 v.QoS,.bool v.NoLocal,.bool v.AsPublished,.int .i64 v.Handling]
structure Q1 where
 Kind:Int
 Dup:Bool
 Retain:Bool
 QoS:Int
 ID:Int
 Topic:List UInt8
 Payload:List UInt8
 Clean:Bool
 KeepAlive:Int
 Client:List UInt8
 HasUser:Bool
 User:List UInt8
 HasPass:Bool
 Pass:List UInt8
 HasWill:Bool
 Will:Xn
 Session:Bool
 Code:Int
 Codes:List Int
 Filters:List Qg
 Props:List Qb
@[reducible] def Q1.cells (v:Q1):List PV := [.int .i64 v.Kind,.bool v.Dup,.bool v.Retain,.int .i64 v.QoS,.int .i64 v.ID,.str v.Topic,.str v.Payload,.bool v.Clean,.int .i64 v.KeepAlive,.str v.Client,.bool v.HasUser,.str v.User,.bool v.HasPass,.str v.Pass,.bool v.HasWill,.str v.Will.Topic,.str v.Will.Payload,.int .i64 v.Will.QoS,.bool v.Will.Retain,.slice 4 (Q6 Qb.cells v.Will.Props),.bool v.Session,.int .i64 v.Code,.slice 1 (Q6 (cI .i64) v.Codes),.slice 5 (Q6 Qg.cells v.Filters),.slice 4 (Q6 Qb.cells v.Props)]
structure Qv where
 shape:Int
 kinds:Int
 least:Int
 most:Int
@[reducible] def Qv.cells (v:Qv):List PV := [.int .i64 v.shape,.int .i64 v.kinds,.int .u32 v.least,.int .u32 v.most]
structure Q6q where
 is:Bool
 bit:Int
@[reducible] def Q6q.cells (v:Q6q):List PV := [.bool v.is,.int .i64 v.bit]
structure Zq where
 version:Int
 p:Q1
@[reducible] def Zq.cells (v:Zq):List PV := [.int .i64 v.version,.int .i64 v.p.Kind,.bool v.p.Dup,.bool v.p.Retain,.int .i64 v.p.QoS,.int .i64 v.p.ID,.str v.p.Topic,.str v.p.Payload,.bool v.p.Clean,.int .i64 v.p.KeepAlive,.str v.p.Client,.bool v.p.HasUser,.str v.p.User,.bool v.p.HasPass,.str v.p.Pass,.bool v.p.HasWill,.str v.p.Will.Topic,.str v.p.Will.Payload,.int .i64 v.p.Will.QoS,.bool v.p.Will.Retain,.slice 4 (Q6 Qb.cells v.p.Will.Props),.bool v.p.Session,.int .i64 v.p.Code,.slice 1 (Q6 (cI .i64) v.p.Codes),.slice 5 (Q6 Qg.cells v.p.Filters),.slice 4 (Q6 Qb.cells v.p.Props)]
structure U3 where
@[reducible] def U3.cells (v:U3):List PV := []
structure Q3f where
 Radius:Int
 Node:List UInt8
@[reducible] def Q3f.cells (v:Q3f):List PV := [.int .i64 v.Radius,.str v.Node]
structure Q3i where
 Dup:Bool
 QoS:Int
 Retain:Bool
 Will:Bool
 Clean:Bool
 Type':Int
@[reducible] def Q3i.cells (v:Q3i):List PV := [.bool v.Dup,.int .i64 v.QoS,.bool v.Retain,.bool v.Will,.bool v.Clean,.int .i64 v.Type']
structure Qcw where
 Type':Int
 Flags:Q3i
 Gateway:Int
 Radius:Int
 Time:Int
 Timed:Bool
 TopicID:Int
 MsgID:Int
 Code:Int
 Name:List UInt8
 Data:List UInt8
@[reducible] def Qcw.cells (v:Qcw):List PV := [.int .i64 v.Type',.bool v.Flags.Dup,.int .i64 v.Flags.QoS,.bool v.Flags.Retain,.bool v.Flags.Will,.bool v.Flags.Clean,.int .i64 v.Flags.Type',.int .i64 v.Gateway,.int .i64 v.Radius,.int .i64 v.Time,.bool v.Timed,.int .i64 v.TopicID,.int .i64 v.MsgID,.int .i64 v.Code,.str v.Name,.str v.Data]
structure Q2 where
 Kind:Int
 N':Int
 Text:List UInt8
 Items:List Q2
mutual
def Q2.cellsR:Q2→List PV
 | .mk x0 x1 x2 x3 => [.int .i64 x0,.int .u64 x1,.str x2,.slice 4 (Q2.rows x3)]
def Q2.rows:List Q2→List (List PV)
 | [] => []
 | v::l=>Q2.cellsR v::Q2.rows l
end
@[reducible] def Q2.cells (v:Q2):List PV := [.int .i64 v.Kind,.int .u64 v.N',.str v.Text,.slice 4 (Q2.rows v.Items)]
theorem Q2.cells_eq (v:Q2):v.cellsR=v.cells:=by cases v;simp only [Q2.cellsR,Q2.cells]
theorem Q2.rows_eq (l:List Q2):Q2.rows l=Q6 Q2.cells l:=by
 induction l with
 | nil=>simp only [Q2.rows,Q6,Cm]
 | cons v l ih=>simp only [Q2.rows,ih,Q6,Nt,Q2.cells_eq]
theorem Q2.frz_own {K:Nat→Prop} {H:List AObj} {a n:Nat} {l:List Q2} (ho:H[a]? = some (.cells (Q18 Q2.cells l))) (hk:K a) (hn:n=l.length):Frz K H (.slice 4 a 0 n) (.slice 4 (Q2.rows l)):=by rw [Q2.rows_eq];exact Av.frz_own (c:=Q2.cells) (fun _=>rfl) ho hk hn
theorem Q2.xR {P:Program} {Gl:Nat→Option (List PV)} {β:Type} {l:List Q2} {i:Int} {F:Q2→Option β} {r : β} (h:(idx l i).bind F=some r) {k:List PV→Prop} (hq:∀ y,F y=some r→k y.cells):Qxi (EP P Gl) (Q2.rows l) i k:=by rw [Q2.rows_eq];exact Av.xR h hq
theorem Q2.idx_rows {l:List Q2} {i:Int} {y:Q2} (h:idx l i=some y):idx (Q2.rows l) i=some y.cells:=by rw [Q2.rows_eq];exact Av.idx_rows h
structure Yy where
 Type':Int
 Channel:Int
 Ext:List UInt8
 Values:List Q2
@[reducible] def Yy.cells (v:Yy):List PV := [.int .i64 v.Type',.int .i64 v.Channel,.str v.Ext,.slice 4 (Q2.rows v.Values)]
structure Qe where
 Proto:Int
 Kind:Int
 Topic:List UInt8
 Payload:List UInt8
 QoS:Int
 Retain:Bool
 Dup:Bool
 ID:Int
 Props:List Qb
 Type':Int
 Hops:List Q3f
 Channel:Int
 Packet:Q1
 Msg:Qcw
 Frame:Yy
@[reducible] def Qe.cells (v:Qe):List PV := [.int .i64 v.Proto,.int .i64 v.Kind,.str v.Topic,.str v.Payload,.int .i64 v.QoS,.bool v.Retain,.bool v.Dup,.int .i64 v.ID,.slice 4 (Q6 Qb.cells v.Props),.int .i64 v.Type',.slice 2 (Q6 Q3f.cells v.Hops),.int .i64 v.Channel,.int .i64 v.Packet.Kind,.bool v.Packet.Dup,.bool v.Packet.Retain,.int .i64 v.Packet.QoS,.int .i64 v.Packet.ID,.str v.Packet.Topic,.str v.Packet.Payload,.bool v.Packet.Clean,.int .i64 v.Packet.KeepAlive,.str v.Packet.Client,.bool v.Packet.HasUser,.str v.Packet.User,.bool v.Packet.HasPass,.str v.Packet.Pass,.bool v.Packet.HasWill,.str v.Packet.Will.Topic,.str v.Packet.Will.Payload,.int .i64 v.Packet.Will.QoS,.bool v.Packet.Will.Retain,.slice 4 (Q6 Qb.cells v.Packet.Will.Props),.bool v.Packet.Session,.int .i64 v.Packet.Code,.slice 1 (Q6 (cI .i64) v.Packet.Codes),.slice 5 (Q6 Qg.cells v.Packet.Filters),.slice 4 (Q6 Qb.cells v.Packet.Props),.int .i64 v.Msg.Type',.bool v.Msg.Flags.Dup,.int .i64 v.Msg.Flags.QoS,.bool v.Msg.Flags.Retain,.bool v.Msg.Flags.Will,.bool v.Msg.Flags.Clean,.int .i64 v.Msg.Flags.Type',.int .i64 v.Msg.Gateway,.int .i64 v.Msg.Radius,.int .i64 v.Msg.Time,.bool v.Msg.Timed,.int .i64 v.Msg.TopicID,.int .i64 v.Msg.MsgID,.int .i64 v.Msg.Code,.str v.Msg.Name,.str v.Msg.Data,.int .i64 v.Frame.Type',.int .i64 v.Frame.Channel,.str v.Frame.Ext,.slice 4 (Q2.rows v.Frame.Values)]
structure Q4l where
 Hops:List Q3f
 Msg:Qcw
@[reducible] def Q4l.cells (v:Q4l):List PV := [.slice 2 (Q6 Q3f.cells v.Hops),.int .i64 v.Msg.Type',.bool v.Msg.Flags.Dup,.int .i64 v.Msg.Flags.QoS,.bool v.Msg.Flags.Retain,.bool v.Msg.Flags.Will,.bool v.Msg.Flags.Clean,.int .i64 v.Msg.Flags.Type',.int .i64 v.Msg.Gateway,.int .i64 v.Msg.Radius,.int .i64 v.Msg.Time,.bool v.Msg.Timed,.int .i64 v.Msg.TopicID,.int .i64 v.Msg.MsgID,.int .i64 v.Msg.Code,.str v.Msg.Name,.str v.Msg.Data]
structure Q9 where
 shape:Int
 kinds:List Int
 least:Int
 most:Int
@[reducible] def Q9.cells (v:Q9):List PV := [.int .i64 v.shape,.slice 1 (Q6 (cI .i64) v.kinds),.int .u32 v.least,.int .u32 v.most]
structure Ua where
 MaxPacket:Int
 MaxDepth:Int
@[reducible] def Ua.cells (v:Ua):List PV := [.int .i64 v.MaxPacket,.int .i64 v.MaxDepth]
structure Qeu where
 text:List UInt8
 at':Int
 err:Int
@[reducible] def Qeu.cells (v:Qeu):List PV := [.str v.text,.int .i64 v.at',.int .i64 v.err]
structure Q1o where
 text:List UInt8
@[reducible] def Q1o.cells (v:Q1o):List PV := [.str v.text]
structure Qvr where
 Code:Int
 Kind:Int
 Width:Int
 Sized:Bool
 Items:Bool
@[reducible] def Qvr.cells (v:Qvr):List PV := [.int .i64 v.Code,.int .i64 v.Kind,.int .i64 v.Width,.bool v.Sized,.bool v.Items]
structure Qh where
 v:Q2
 kids:List Qh
 element:Int
 inner:Int
mutual
def Qh.cellsR:Qh→List PV
 | .mk x0 x1 x2 x3 => [.int .i64 x0.Kind,.int .u64 x0.N',.str x0.Text,.slice 4 (Q2.rows x0.Items),.slice 7 (Qh.rows x1),.int .i64 x2,.int .i64 x3]
def Qh.rows:List Qh→List (List PV)
 | [] => []
 | v::l=>Qh.cellsR v::Qh.rows l
end
@[reducible] def Qh.cells (v:Qh):List PV := [.int .i64 v.v.Kind,.int .u64 v.v.N',.str v.v.Text,.slice 4 (Q2.rows v.v.Items),.slice 7 (Qh.rows v.kids),.int .i64 v.element,.int .i64 v.inner]
theorem Qh.cells_eq (v:Qh):v.cellsR=v.cells:=by cases v;simp only [Qh.cellsR,Qh.cells]
theorem Qh.rows_eq (l:List Qh):Qh.rows l=Q6 Qh.cells l:=by
 induction l with
 | nil=>simp only [Qh.rows,Q6,Cm]
 | cons v l ih=>simp only [Qh.rows,ih,Q6,Nt,Qh.cells_eq]
theorem Qh.frz_own {K:Nat→Prop} {H:List AObj} {a n:Nat} {l:List Qh} (ho:H[a]? = some (.cells (Q18 Qh.cells l))) (hk:K a) (hn:n=l.length):Frz K H (.slice 7 a 0 n) (.slice 7 (Qh.rows l)):=by rw [Qh.rows_eq];exact Av.frz_own (c:=Qh.cells) (fun _=>rfl) ho hk hn
theorem Qh.xR {P:Program} {Gl:Nat→Option (List PV)} {β:Type} {l:List Qh} {i:Int} {F:Qh→Option β} {r : β} (h:(idx l i).bind F=some r) {k:List PV→Prop} (hq:∀ y,F y=some r→k y.cells):Qxi (EP P Gl) (Qh.rows l) i k:=by rw [Qh.rows_eq];exact Av.xR h hq
theorem Qh.idx_rows {l:List Qh} {i:Int} {y:Qh} (h:idx l i=some y):idx (Qh.rows l) i=some y.cells:=by rw [Qh.rows_eq];exact Av.idx_rows h
structure Qhb where
 Kind:Int
 Flags:Int
 Length:Int
@[reducible] def Qhb.cells (v:Qhb):List PV := [.int .i64 v.Kind,.int .i64 v.Flags,.int .i64 v.Length]
structure Q2v where
 do':Int
 m:Qcw
 out:List Int
 bad:Bool
end
abbrev Q5z (v:Qe) (l:List AV):List AV:=iI v.Proto::iI v.Kind::iS v.Topic::iS v.Payload::iI v.QoS :: .p (.bool v.Retain) :: .p (.bool v.Dup)::iI v.ID :: .p (.slice 4 (Q6 Qb.cells v.Props))::iI v.Type' :: .p (.slice 2 (Q6 Q3f.cells v.Hops))::iI v.Channel::iI v.Packet.Kind :: .p (.bool v.Packet.Dup) :: .p (.bool v.Packet.Retain)::iI v.Packet.QoS::iI v.Packet.ID::iS v.Packet.Topic::iS v.Packet.Payload :: .p (.bool v.Packet.Clean)::iI v.Packet.KeepAlive::iS v.Packet.Client :: .p (.bool v.Packet.HasUser)::iS v.Packet.User :: .p (.bool v.Packet.HasPass)::iS v.Packet.Pass :: .p (.bool v.Packet.HasWill)::iS v.Packet.Will.Topic::iS v.Packet.Will.Payload::iI v.Packet.Will.QoS :: .p (.bool v.Packet.Will.Retain) :: .p (.slice 4 (Q6 Qb.cells v.Packet.Will.Props)) :: .p (.bool v.Packet.Session)::iI v.Packet.Code :: .p (.slice 1 (Q6 (cI .i64) v.Packet.Codes)) :: .p (.slice 5 (Q6 Qg.cells v.Packet.Filters)) :: .p (.slice 4 (Q6 Qb.cells v.Packet.Props))::iI v.Msg.Type' :: .p (.bool v.Msg.Flags.Dup)::iI v.Msg.Flags.QoS :: .p (.bool v.Msg.Flags.Retain) :: .p (.bool v.Msg.Flags.Will) :: .p (.bool v.Msg.Flags.Clean)::iI v.Msg.Flags.Type'::iI v.Msg.Gateway::iI v.Msg.Radius::iI v.Msg.Time :: .p (.bool v.Msg.Timed)::iI v.Msg.TopicID::iI v.Msg.MsgID::iI v.Msg.Code::iS v.Msg.Name::iS v.Msg.Data::iI v.Frame.Type'::iI v.Frame.Channel::iS v.Frame.Ext :: .p (.slice 4 (Q2.rows v.Frame.Values))::l
abbrev Q67 (v:Q1) (l:List AV):List AV:=iI v.Kind :: .p (.bool v.Dup) :: .p (.bool v.Retain)::iI v.QoS::iI v.ID::iS v.Topic::iS v.Payload :: .p (.bool v.Clean)::iI v.KeepAlive::iS v.Client :: .p (.bool v.HasUser)::iS v.User :: .p (.bool v.HasPass)::iS v.Pass :: .p (.bool v.HasWill)::iS v.Will.Topic::iS v.Will.Payload::iI v.Will.QoS :: .p (.bool v.Will.Retain) :: .p (.slice 4 (Q6 Qb.cells v.Will.Props)) :: .p (.bool v.Session)::iI v.Code :: .p (.slice 1 (Q6 (cI .i64) v.Codes)) :: .p (.slice 5 (Q6 Qg.cells v.Filters)) :: .p (.slice 4 (Q6 Qb.cells v.Props))::l
abbrev Z5e (v:Qcw) (l:List AV):List AV:=iI v.Type' :: .p (.bool v.Flags.Dup)::iI v.Flags.QoS :: .p (.bool v.Flags.Retain) :: .p (.bool v.Flags.Will) :: .p (.bool v.Flags.Clean)::iI v.Flags.Type'::iI v.Gateway::iI v.Radius::iI v.Time :: .p (.bool v.Timed)::iI v.TopicID::iI v.MsgID::iI v.Code::iS v.Name::iS v.Data::l
theorem f1_ {K:Nat→Prop} {H:List AObj} {a:PV} {xs:List AV} {ys:List PV} (h:FrzL K H xs ys):FrzL K H (.p a::xs) (a::ys) := .cons (.p _) h
theorem f2_ {K:Nat→Prop} {H:List AObj} {a0 a1:PV} {xs:List AV} {ys:List PV} (h:FrzL K H xs ys):FrzL K H (.p a0 :: .p a1::xs) (a0::a1::ys):=f1_ (f1_ h)
theorem f4_ {K:Nat→Prop} {H:List AObj} {a0 a1 a2 a3:PV} {xs:List AV} {ys:List PV} (h:FrzL K H xs ys):FrzL K H (.p a0 :: .p a1 :: .p a2 :: .p a3::xs) (a0::a1::a2::a3::ys):=f2_ (f2_ h)
theorem f8_ {K:Nat→Prop} {H:List AObj} {a0 a1 a2 a3 a4 a5 a6 a7:PV} {xs:List AV} {ys:List PV} (h:FrzL K H xs ys):FrzL K H (.p a0 :: .p a1 :: .p a2 :: .p a3 :: .p a4 :: .p a5 :: .p a6 :: .p a7::xs) (a0::a1::a2::a3::a4::a5::a6::a7::ys):=f4_ (f4_ h)
theorem Qo {K:Nat→Prop} {H:List AObj} {a0 a1 a2 a3 a4 a5 a6 a7 a8 a9 a10 a11 a12 a13 a14 a15:PV} {xs:List AV} {ys:List PV} (h:FrzL K H xs ys):FrzL K H (.p a0 :: .p a1 :: .p a2 :: .p a3 :: .p a4 :: .p a5 :: .p a6 :: .p a7 :: .p a8 :: .p a9 :: .p a10 :: .p a11 :: .p a12 :: .p a13 :: .p a14 :: .p a15::xs) (a0::a1::a2::a3::a4::a5::a6::a7::a8::a9::a10::a11::a12::a13::a14::a15::ys):=f8_ (f8_ h)
end Go.Av
