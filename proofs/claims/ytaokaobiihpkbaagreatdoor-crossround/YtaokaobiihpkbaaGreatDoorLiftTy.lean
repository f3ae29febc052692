/- Part of the proof of CrossRound: for every input the law returns true; no condition. -/
import Derived.Test.YtaokaobiihpkbaaGreatDoorAvAbb
set_option linter.all false
namespace Go.Av
noncomputable section
structure Q8 where
 Client:List UInt8
 Name:List UInt8
 ID:Int
@[reducible] def Q8.cells (v:Q8):List PV := [.str v.Client,.str v.Name,.int .i64 v.ID]
structure Zf where
 ID:Int
 Name:List UInt8
 Fixed:Bool
@[reducible] def Zf.cells (v:Zf):List PV := [.int .i64 v.ID,.str v.Name,.bool v.Fixed]
structure Q0 where
 client:List UInt8
 l:List Zf
@[reducible] def Q0.cells (v:Q0):List PV := [.str v.client,.slice 3 (Q9 Zf.cells v.l)]
structure Q1 where
 L:List Q0
@[reducible] def Q1.cells (v:Q1):List PV := [.slice 2 (Q9 Q0.cells v.L)]
structure Zq where
 ID:Int
 N':Int
 Text:List UInt8
 Value:List UInt8
@[reducible] def Zq.cells (v:Zq):List PV := [.int .i64 v.ID,.int .u32 v.N',.str v.Text,.str v.Value]
structure Wj where
 Topic:List UInt8
 Payload:List UInt8
 QoS:Int
 Retain:Bool
 Props:List Zq
@[reducible] def Wj.cells (v:Wj):List PV := [.str v.Topic,.str v.Payload,.int .i64 v.QoS,.bool v.Retain,.slice 4 (Q9 Zq.cells v.Props)]
structure Zb where
 Topic:List UInt8
 QoS:Int
 NoLocal:Bool
 AsPublished:Bool
 Handling:Int
@[reducible] def Zb.cells (v:Zb):List PV := [.str v.Topic,.int .i64 v.QoS,.bool v.NoLocal,.bool v.AsPublished,.int .i64 v.Handling]
structure Ql where
 Kind:Int
 Dup:Bool
 Retain:Bool
 QoS:Int
 ID:Int
 Topic:List UInt8
 Payload:List UInt8
 Clean:Bool
 KeepAlive:Int
 Client:List UInt8
 HasUser:Bool
 User:List UInt8
 HasPass:Bool
 Pass:List UInt8
 HasWill:Bool
 Will:Wj
 Session:Bool
 Code:Int
 Codes:List Int
 Filters:List Zb
 Props:List Zq
@[reducible] def Ql.cells (v:Ql):List PV := [.int .i64 v.Kind,.bool v.Dup,.bool v.Retain,.int .i64 v.QoS,.int .i64 v.ID,.str v.Topic,.str v.Payload,.bool v.Clean,.int .i64 v.KeepAlive,.str v.Client,.bool v.HasUser,.str v.User,.bool v.HasPass,.str v.Pass,.bool v.HasWill,.str v.Will.Topic,.str v.Will.Payload,.int .i64 v.Will.QoS,.bool v.Will.Retain,.slice 4 (Q9 Zq.cells v.Will.Props),.bool v.Session,.int .i64 v.Code,.slice 1 (Q9 (cI .i64) v.Codes),.slice 5 (Q9 Zb.cells v.Filters),.slice 4 (Q9 Zq.cells v.Props)]
structure Q2 where
 Kind:Int
 N':Int
 Text:List UInt8
 Items:List Q2
mutual
def Q2.cellsR:Q2→List PV
 | .mk x0 x1 x2 x3 => [.int .i64 x0,.int .u64 x1,.str x2,.slice 4 (Q2.rows x3)]
def Q2.rows:List Q2→List (List PV)
 | [] => []
 | v::l=>Q2.cellsR v::Q2.rows l
end
@[reducible] def Q2.cells (v:Q2):List PV := [.int .i64 v.Kind,.int .u64 v.N',.str v.Text,.slice 4 (Q2.rows v.Items)]
theorem Q2.cells_eq (v:Q2):v.cellsR=v.cells:=by cases v;simp only [Q2.cellsR,Q2.cells]
theorem Q2.rows_eq (l:List Q2):Q2.rows l=Q9 Q2.cells l:=by
 induction l with
 | nil=>simp only [Q2.rows,Q9,Cl]
 | cons v l ih=>simp only [Q2.rows,ih,Q9,Nl,Q2.cells_eq]
theorem Q2.frz_own {K:Nat→Prop} {H:List AObj} {a n:Nat} {l:List Q2} (ho:H[a]? = some (.cells (W8 Q2.cells l))) (hk:K a) (hn:n=l.length):Frz K H (.slice 4 a 0 n) (.slice 4 (Q2.rows l)):=by rw [Q2.rows_eq];exact Av.frz_own (c:=Q2.cells) (fun _=>rfl) ho hk hn
theorem Q2.xR {P:Program} {Gl:Nat→Option (List PV)} {β:Type} {l:List Q2} {i:Int} {F:Q2→Option β} {r : β} (h:(idx l i).bind F=some r) {k:List PV→Prop} (hq:∀ y,F y=some r→k y.cells):Qqg (EP P Gl) (Q2.rows l) i k:=by rw [Q2.rows_eq];exact Av.xR h hq
theorem Q2.idx_rows {l:List Q2} {i:Int} {y:Q2} (h:idx l i=some y):idx (Q2.rows l) i=some y.cells:=by rw [Q2.rows_eq];exact Av.idx_rows h
structure V0 where
 Radius:Int
 Node:List UInt8
@[reducible] def V0.cells (v:V0):List PV := [.int .i64 v.Radius,.str v.Node]
structure Qp where
 Dup:Bool
 QoS:Int
 Retain:Bool
 Will:Bool
 Clean:Bool
 Type':Int
@[reducible] def Qp.cells (v:Qp):List PV := [.bool v.Dup,.int .i64 v.QoS,.bool v.Retain,.bool v.Will,.bool v.Clean,.int .i64 v.Type']
structure Wh where
 Type':Int
 Flags:Qp
 Gateway:Int
 Radius:Int
 Time:Int
 Timed:Bool
 TopicID:Int
 MsgID:Int
 Code:Int
 Name:List UInt8
 Data:List UInt8
@[reducible] def Wh.cells (v:Wh):List PV := [.int .i64 v.Type',.bool v.Flags.Dup,.int .i64 v.Flags.QoS,.bool v.Flags.Retain,.bool v.Flags.Will,.bool v.Flags.Clean,.int .i64 v.Flags.Type',.int .i64 v.Gateway,.int .i64 v.Radius,.int .i64 v.Time,.bool v.Timed,.int .i64 v.TopicID,.int .i64 v.MsgID,.int .i64 v.Code,.str v.Name,.str v.Data]
structure Zi where
 Type':Int
 Channel:Int
 Ext:List UInt8
 Values:List Q2
@[reducible] def Zi.cells (v:Zi):List PV := [.int .i64 v.Type',.int .i64 v.Channel,.str v.Ext,.slice 4 (Q2.rows v.Values)]
structure Qc where
 Proto:Int
 Kind:Int
 Topic:List UInt8
 Payload:List UInt8
 QoS:Int
 Retain:Bool
 Dup:Bool
 ID:Int
 Props:List Zq
 Type':Int
 Hops:List V0
 Channel:Int
 Packet:Ql
 Msg:Wh
 Frame:Zi
@[reducible] def Qc.cells (v:Qc):List PV := [.int .i64 v.Proto,.int .i64 v.Kind,.str v.Topic,.str v.Payload,.int .i64 v.QoS,.bool v.Retain,.bool v.Dup,.int .i64 v.ID,.slice 4 (Q9 Zq.cells v.Props),.int .i64 v.Type',.slice 2 (Q9 V0.cells v.Hops),.int .i64 v.Channel,.int .i64 v.Packet.Kind,.bool v.Packet.Dup,.bool v.Packet.Retain,.int .i64 v.Packet.QoS,.int .i64 v.Packet.ID,.str v.Packet.Topic,.str v.Packet.Payload,.bool v.Packet.Clean,.int .i64 v.Packet.KeepAlive,.str v.Packet.Client,.bool v.Packet.HasUser,.str v.Packet.User,.bool v.Packet.HasPass,.str v.Packet.Pass,.bool v.Packet.HasWill,.str v.Packet.Will.Topic,.str v.Packet.Will.Payload,.int .i64 v.Packet.Will.QoS,.bool v.Packet.Will.Retain,.slice 4 (Q9 Zq.cells v.Packet.Will.Props),.bool v.Packet.Session,.int .i64 v.Packet.Code,.slice 1 (Q9 (cI .i64) v.Packet.Codes),.slice 5 (Q9 Zb.cells v.Packet.Filters),.slice 4 (Q9 Zq.cells v.Packet.Props),.int .i64 v.Msg.Type',.bool v.Msg.Flags.Dup,.int .i64 v.Msg.Flags.QoS,.bool v.Msg.Flags.Retain,.bool v.Msg.Flags.Will,.bool v.Msg.Flags.Clean,.int .i64 v.Msg.Flags.Type',.int .i64 v.Msg.Gateway,.int .i64 v.Msg.Radius,.int .i64 v.Msg.Time,.bool v.Msg.Timed,.int .i64 v.Msg.TopicID,.int .i64 v.Msg.MsgID,.int .i64 v.Msg.Code,.str v.Msg.Name,.str v.Msg.Data,.int .i64 v.Frame.Type',.int .i64 v.Frame.Channel,.str v.Frame.Ext,.slice 4 (Q2.rows v.Frame.Values)]
structure Gy where
@[reducible] def Gy.cells (v:Gy):List PV := []
structure X2 where
 MaxPacket:Int
 MaxDepth:Int
@[reducible] def X2.cells (v:X2):List PV := [.int .i64 v.MaxPacket,.int .i64 v.MaxDepth]
structure Q3o where
 kind:Int
 qos:Int
 id:Int
 alive:Int
 code:Int
 dup:Bool
 retain:Bool
 clean:Bool
 user:Bool
 pass:Bool
 will:Bool
 again:Bool
 topic:List UInt8
 payload:List UInt8
 client:List UInt8
 name:List UInt8
 word:List UInt8
@[reducible] def Q3o.cells (v:Q3o):List PV := [.int .i64 v.kind,.int .i64 v.qos,.int .i64 v.id,.int .i64 v.alive,.int .i64 v.code,.bool v.dup,.bool v.retain,.bool v.clean,.bool v.user,.bool v.pass,.bool v.will,.bool v.again,.str v.topic,.str v.payload,.str v.client,.str v.name,.str v.word]
structure Qt where
 shape:Int
 kinds:Int
 least:Int
 most:Int
@[reducible] def Qt.cells (v:Qt):List PV := [.int .i64 v.shape,.int .i64 v.kinds,.int .u32 v.least,.int .u32 v.most]
structure Qlb where
 is:Bool
 bit:Int
@[reducible] def Qlb.cells (v:Qlb):List PV := [.bool v.is,.int .i64 v.bit]
structure Qbc where
 version:Int
 p:Ql
@[reducible] def Qbc.cells (v:Qbc):List PV := [.int .i64 v.version,.int .i64 v.p.Kind,.bool v.p.Dup,.bool v.p.Retain,.int .i64 v.p.QoS,.int .i64 v.p.ID,.str v.p.Topic,.str v.p.Payload,.bool v.p.Clean,.int .i64 v.p.KeepAlive,.str v.p.Client,.bool v.p.HasUser,.str v.p.User,.bool v.p.HasPass,.str v.p.Pass,.bool v.p.HasWill,.str v.p.Will.Topic,.str v.p.Will.Payload,.int .i64 v.p.Will.QoS,.bool v.p.Will.Retain,.slice 4 (Q9 Zq.cells v.p.Will.Props),.bool v.p.Session,.int .i64 v.p.Code,.slice 1 (Q9 (cI .i64) v.p.Codes),.slice 5 (Q9 Zb.cells v.p.Filters),.slice 4 (Q9 Zq.cells v.p.Props)]
structure Q6r where
@[reducible] def Q6r.cells (v:Q6r):List PV := []
structure Qa9 where
 Code:Int
 Kind:Int
 Width:Int
 Sized:Bool
 Items:Bool
@[reducible] def Qa9.cells (v:Qa9):List PV := [.int .i64 v.Code,.int .i64 v.Kind,.int .i64 v.Width,.bool v.Sized,.bool v.Items]
structure Qe where
 v:Q2
 kids:List Qe
 element:Int
 inner:Int
mutual
def Qe.cellsR:Qe→List PV
 | .mk x0 x1 x2 x3 => [.int .i64 x0.Kind,.int .u64 x0.N',.str x0.Text,.slice 4 (Q2.rows x0.Items),.slice 7 (Qe.rows x1),.int .i64 x2,.int .i64 x3]
def Qe.rows:List Qe→List (List PV)
 | [] => []
 | v::l=>Qe.cellsR v::Qe.rows l
end
@[reducible] def Qe.cells (v:Qe):List PV := [.int .i64 v.v.Kind,.int .u64 v.v.N',.str v.v.Text,.slice 4 (Q2.rows v.v.Items),.slice 7 (Qe.rows v.kids),.int .i64 v.element,.int .i64 v.inner]
theorem Qe.cells_eq (v:Qe):v.cellsR=v.cells:=by cases v;simp only [Qe.cellsR,Qe.cells]
theorem Qe.rows_eq (l:List Qe):Qe.rows l=Q9 Qe.cells l:=by
 induction l with
 | nil=>simp only [Qe.rows,Q9,Cl]
 | cons v l ih=>simp only [Qe.rows,ih,Q9,Nl,Qe.cells_eq]
theorem Qe.frz_own {K:Nat→Prop} {H:List AObj} {a n:Nat} {l:List Qe} (ho:H[a]? = some (.cells (W8 Qe.cells l))) (hk:K a) (hn:n=l.length):Frz K H (.slice 7 a 0 n) (.slice 7 (Qe.rows l)):=by rw [Qe.rows_eq];exact Av.frz_own (c:=Qe.cells) (fun _=>rfl) ho hk hn
theorem Qe.xR {P:Program} {Gl:Nat→Option (List PV)} {β:Type} {l:List Qe} {i:Int} {F:Qe→Option β} {r : β} (h:(idx l i).bind F=some r) {k:List PV→Prop} (hq:∀ y,F y=some r→k y.cells):Qqg (EP P Gl) (Qe.rows l) i k:=by rw [Qe.rows_eq];exact Av.xR h hq
theorem Qe.idx_rows {l:List Qe} {i:Int} {y:Qe} (h:idx l i=some y):idx (Qe.rows l) i=some y.cells:=by rw [Qe.rows_eq];exact Av.idx_rows h
structure Q7w where
 text:List UInt8
 at':Int
 err:Int
@[reducible] def Q7w.cells (v:Q7w):List PV := [.str v.text,.int .i64 v.at',.int .i64 v.err]
structure Qm where
 Hops:List V0
 Msg:Wh
@[reducible] def Qm.cells (v:Qm):List PV := [.slice 2 (Q9 V0.cells v.Hops),.int .i64 v.Msg.Type',.bool v.Msg.Flags.Dup,.int .i64 v.Msg.Flags.QoS,.bool v.Msg.Flags.Retain,.bool v.Msg.Flags.Will,.bool v.Msg.Flags.Clean,.int .i64 v.Msg.Flags.Type',.int .i64 v.Msg.Gateway,.int .i64 v.Msg.Radius,.int .i64 v.Msg.Time,.bool v.Msg.Timed,.int .i64 v.Msg.TopicID,.int .i64 v.Msg.MsgID,.int .i64 v.Msg.Code,.str v.Msg.Name,.str v.Msg.Data]
structure Uo where
 text:List UInt8
@[reducible] def Uo.cells (v:Uo):List PV := [.str v.text]
structure Qa where
 do':Int
 m:Wh
 out:List Int
 bad:Bool
end
abbrev Q19 (v:Qc) (l:List AV):List AV:=iI v.Proto::iI v.Kind::iS v.Topic::iS v.Payload::iI v.QoS :: .p (.bool v.Retain) :: .p (.bool v.Dup)::iI v.ID :: .p (.slice 4 (Q9 Zq.cells v.Props))::iI v.Type' :: .p (.slice 2 (Q9 V0.cells v.Hops))::iI v.Channel::iI v.Packet.Kind :: .p (.bool v.Packet.Dup) :: .p (.bool v.Packet.Retain)::iI v.Packet.QoS::iI v.Packet.ID::iS v.Packet.Topic::iS v.Packet.Payload :: .p (.bool v.Packet.Clean)::iI v.Packet.KeepAlive::iS v.Packet.Client :: .p (.bool v.Packet.HasUser)::iS v.Packet.User :: .p (.bool v.Packet.HasPass)::iS v.Packet.Pass :: .p (.bool v.Packet.HasWill)::iS v.Packet.Will.Topic::iS v.Packet.Will.Payload::iI v.Packet.Will.QoS :: .p (.bool v.Packet.Will.Retain) :: .p (.slice 4 (Q9 Zq.cells v.Packet.Will.Props)) :: .p (.bool v.Packet.Session)::iI v.Packet.Code :: .p (.slice 1 (Q9 (cI .i64) v.Packet.Codes)) :: .p (.slice 5 (Q9 Zb.cells v.Packet.Filters)) :: .p (.slice 4 (Q9 Zq.cells v.Packet.Props))::iI v.Msg.Type' :: .p (.bool v.Msg.Flags.Dup)::iI v.Msg.Flags.QoS :: .p (.bool v.Msg.Flags.Retain) :: .p (.bool v.Msg.Flags.Will) :: .p (.bool v.Msg.Flags.Clean)::iI v.Msg.Flags.Type'::iI v.Msg.Gateway::iI v.Msg.Radius::iI v.Msg.Time :: .p (.bool v.Msg.Timed)::iI v.Msg.TopicID::iI v.Msg.MsgID::iI v.Msg.Code::iS v.Msg.Name::iS v.Msg.Data::iI v.Frame.Type'::iI v.Frame.Channel::iS v.Frame.Ext :: .p (.slice 4 (Q2.rows v.Frame.Values))::l
abbrev Qe6 (v:Wh) (l:List AV):List AV:=iI v.Type' :: .p (.bool v.Flags.Dup)::iI v.Flags.QoS :: .p (.bool v.Flags.Retain) :: .p (.bool v.Flags.Will) :: .p (.bool v.Flags.Clean)::iI v.Flags.Type'::iI v.Gateway::iI v.Radius::iI v.Time :: .p (.bool v.Timed)::iI v.TopicID::iI v.MsgID::iI v.Code::iS v.Name::iS v.Data::l
abbrev Z26 (v:Wh) (l:List AV):List AV := .p (.int .i64 v.Type') :: .p (.bool v.Flags.Dup) :: .p (.int .i64 v.Flags.QoS) :: .p (.bool v.Flags.Retain) :: .p (.bool v.Flags.Will) :: .p (.bool v.Flags.Clean) :: .p (.int .i64 v.Flags.Type') :: .p (.int .i64 v.Gateway) :: .p (.int .i64 v.Radius) :: .p (.int .i64 v.Time) :: .p (.bool v.Timed) :: .p (.int .i64 v.TopicID) :: .p (.int .i64 v.MsgID) :: .p (.int .i64 v.Code) :: .p (.str v.Name) :: .p (.str v.Data)::l
abbrev Q6d (v:Qp) (l:List AV):List AV := .p (.bool v.Dup)::iI v.QoS :: .p (.bool v.Retain) :: .p (.bool v.Will) :: .p (.bool v.Clean)::iI v.Type'::l
abbrev Qp6 (v:Ql) (s0 s1 s2 s3:AV) (l:List AV):List AV:=iI v.Kind :: .p (.bool v.Dup) :: .p (.bool v.Retain)::iI v.QoS::iI v.ID::iS v.Topic::iS v.Payload :: .p (.bool v.Clean)::iI v.KeepAlive::iS v.Client :: .p (.bool v.HasUser)::iS v.User :: .p (.bool v.HasPass)::iS v.Pass :: .p (.bool v.HasWill)::iS v.Will.Topic::iS v.Will.Payload::iI v.Will.QoS :: .p (.bool v.Will.Retain)::s0 :: .p (.bool v.Session)::iI v.Code::s1::s2::s3::l
abbrev Qpl (v:Ql) (s0 s1 s2 s3:AV):List AV := [.p (.int .i64 v.Kind),.p (.bool v.Dup),.p (.bool v.Retain),.p (.int .i64 v.QoS),.p (.int .i64 v.ID),.p (.str v.Topic),.p (.str v.Payload),.p (.bool v.Clean),.p (.int .i64 v.KeepAlive),.p (.str v.Client),.p (.bool v.HasUser),.p (.str v.User),.p (.bool v.HasPass),.p (.str v.Pass),.p (.bool v.HasWill),.p (.str v.Will.Topic),.p (.str v.Will.Payload),.p (.int .i64 v.Will.QoS),.p (.bool v.Will.Retain),s0,.p (.bool v.Session),.p (.int .i64 v.Code),s1,s2,s3]
abbrev Qnu (v:Ql) (s0 s1 s2 s3:AV):List AV := [iI v.Kind,.p (.bool v.Dup),.p (.bool v.Retain),iI v.QoS,iI v.ID,iS v.Topic,iS v.Payload,.p (.bool v.Clean),iI v.KeepAlive,iS v.Client,.p (.bool v.HasUser),iS v.User,.p (.bool v.HasPass),iS v.Pass,.p (.bool v.HasWill),iS v.Will.Topic,iS v.Will.Payload,iI v.Will.QoS,.p (.bool v.Will.Retain),s0,.p (.bool v.Session),iI v.Code,s1,s2,s3]
abbrev Q4v (v:Qa) (k:Nat):List AV := .p .nilPtr::iI v.do'::Qe6 v.m (.slice 1 k 0 v.out.length :: .p (.bool v.bad) :: [])
theorem f1_ {K:Nat→Prop} {H:List AObj} {a:PV} {xs:List AV} {ys:List PV} (h:FrzL K H xs ys):FrzL K H (.p a::xs) (a::ys) := .cons (.p _) h
theorem f2_ {K:Nat→Prop} {H:List AObj} {a0 a1:PV} {xs:List AV} {ys:List PV} (h:FrzL K H xs ys):FrzL K H (.p a0 :: .p a1::xs) (a0::a1::ys):=f1_ (f1_ h)
theorem f4_ {K:Nat→Prop} {H:List AObj} {a0 a1 a2 a3:PV} {xs:List AV} {ys:List PV} (h:FrzL K H xs ys):FrzL K H (.p a0 :: .p a1 :: .p a2 :: .p a3::xs) (a0::a1::a2::a3::ys):=f2_ (f2_ h)
theorem f8_ {K:Nat→Prop} {H:List AObj} {a0 a1 a2 a3 a4 a5 a6 a7:PV} {xs:List AV} {ys:List PV} (h:FrzL K H xs ys):FrzL K H (.p a0 :: .p a1 :: .p a2 :: .p a3 :: .p a4 :: .p a5 :: .p a6 :: .p a7::xs) (a0::a1::a2::a3::a4::a5::a6::a7::ys):=f4_ (f4_ h)
theorem Za {K:Nat→Prop} {H:List AObj} {a0 a1 a2 a3 a4 a5 a6 a7 a8 a9 a10 a11 a12 a13 a14 a15:PV} {xs:List AV} {ys:List PV} (h:FrzL K H xs ys):FrzL K H (.p a0 :: .p a1 :: .p a2 :: .p a3 :: .p a4 :: .p a5 :: .p a6 :: .p a7 :: .p a8 :: .p a9 :: .p a10 :: .p a11 :: .p a12 :: .p a13 :: .p a14 :: .p a15::xs) (a0::a1::a2::a3::a4::a5::a6::a7::a8::a9::a10::a11::a12::a13::a14::a15::ys):=f8_ (f8_ h)
end Go.Av
