/- Part of the proof of CrossKeeps: for every input the law returns true; no condition. -/
import Derived.Test.YtaokaobiihpkbaaGreatDoorAvAbb
set_option linter.all false
namespace Go.Av
noncomputable section
structure Qe where
 Client:List UInt8
 Name:List UInt8
 ID:Int
@[reducible] def Qe.cells (v:Qe):List PV := [.str v.Client,.str v.Name,.int .i64 v.ID]
structure Qk where
 ID:Int
 N':Int
 Text:List UInt8
 Value:List UInt8
@[reducible] def Qk.cells (v:Qk):List PV := [.int .i64 v.ID,.int .u32 v.N',.str v.Text,.str v.Value]
structure J2 where
 Topic:List UInt8
 Payload:List UInt8
 QoS:Int
 Retain:Bool
 Props:List Qk
@[reducible] def J2.cells (v:J2):List PV := [.str v.Topic,.str v.Payload,.int .i64 v.QoS,.bool v.Retain,.slice 4 (Q8 Qk.cells v.Props)]
structure Z0 where
 Topic:List UInt8
 QoS:Int
 NoLocal:Bool
 AsPublished:Bool
 Handling:Int
@[reducible] def Z0.cells (v:Z0):List PV := [.str v.Topic,.int .i64 v.QoS,.bool v.NoLocal,.bool v.AsPublished,.int .i64 v.Handling]
structure Qu where
 Kind:Int
 Dup:Bool
 Retain:Bool
 QoS:Int
 ID:Int
 Topic:List UInt8
 Payload:List UInt8
 Clean:Bool
 KeepAlive:Int
 Client:List UInt8
 HasUser:Bool
 User:List UInt8
 HasPass:Bool
 Pass:List UInt8
 HasWill:Bool
 Will:J2
 Session:Bool
 Code:Int
 Codes:List Int
 Filters:List Z0
 Props:List Qk
@[reducible] def Qu.cells (v:Qu):List PV := [.int .i64 v.Kind,.bool v.Dup,.bool v.Retain,.int .i64 v.QoS,.int .i64 v.ID,.str v.Topic,.str v.Payload,.bool v.Clean,.int .i64 v.KeepAlive,.str v.Client,.bool v.HasUser,.str v.User,.bool v.HasPass,.str v.Pass,.bool v.HasWill,.str v.Will.Topic,.str v.Will.Payload,.int .i64 v.Will.QoS,.bool v.Will.Retain,.slice 4 (Q8 Qk.cells v.Will.Props),.bool v.Session,.int .i64 v.Code,.slice 1 (Q8 (cI .i64) v.Codes),.slice 5 (Q8 Z0.cells v.Filters),.slice 4 (Q8 Qk.cells v.Props)]
structure Qz where
 Dup:Bool
 QoS:Int
 Retain:Bool
 Will:Bool
 Clean:Bool
 Type':Int
@[reducible] def Qz.cells (v:Qz):List PV := [.bool v.Dup,.int .i64 v.QoS,.bool v.Retain,.bool v.Will,.bool v.Clean,.int .i64 v.Type']
structure U2 where
 Type':Int
 Flags:Qz
 Gateway:Int
 Radius:Int
 Time:Int
 Timed:Bool
 TopicID:Int
 MsgID:Int
 Code:Int
 Name:List UInt8
 Data:List UInt8
@[reducible] def U2.cells (v:U2):List PV := [.int .i64 v.Type',.bool v.Flags.Dup,.int .i64 v.Flags.QoS,.bool v.Flags.Retain,.bool v.Flags.Will,.bool v.Flags.Clean,.int .i64 v.Flags.Type',.int .i64 v.Gateway,.int .i64 v.Radius,.int .i64 v.Time,.bool v.Timed,.int .i64 v.TopicID,.int .i64 v.MsgID,.int .i64 v.Code,.str v.Name,.str v.Data]
structure Vd where
 Radius:Int
 Node:List UInt8
@[reducible] def Vd.cells (v:Vd):List PV := [.int .i64 v.Radius,.str v.Node]
structure Qq where
 Hops:List Vd
 Msg:U2
@[reducible] def Qq.cells (v:Qq):List PV := [.slice 2 (Q8 Vd.cells v.Hops),.int .i64 v.Msg.Type',.bool v.Msg.Flags.Dup,.int .i64 v.Msg.Flags.QoS,.bool v.Msg.Flags.Retain,.bool v.Msg.Flags.Will,.bool v.Msg.Flags.Clean,.int .i64 v.Msg.Flags.Type',.int .i64 v.Msg.Gateway,.int .i64 v.Msg.Radius,.int .i64 v.Msg.Time,.bool v.Msg.Timed,.int .i64 v.Msg.TopicID,.int .i64 v.Msg.MsgID,.int .i64 v.Msg.Code,.str v.Msg.Name,.str v.Msg.Data]
structure Q0 where
 Kind:Int
 N':Int
 Text:List UInt8
 Items:List Q0
mutual
def Q0.cellsR:Q0→List PV
 | .mk x0 x1 x2 x3 => [.int .i64 x0,.int .u64 x1,.str x2,.slice 4 (Q0.rows x3)]
def Q0.rows:List Q0→List (List PV)
 | [] => []
 | v::l=>Q0.cellsR v::Q0.rows l
end
@[reducible] def Q0.cells (v:Q0):List PV := [.int .i64 v.Kind,.int .u64 v.N',.str v.Text,.slice 4 (Q0.rows v.Items)]
theorem Q0.cells_eq (v:Q0):v.cellsR=v.cells:=by cases v;simp only [Q0.cellsR,Q0.cells]
theorem Q0.rows_eq (l:List Q0):Q0.rows l=Q8 Q0.cells l:=by
 induction l with
 | nil=>simp only [Q0.rows,Q8,Cl]
 | cons v l ih=>simp only [Q0.rows,ih,Q8,Ns,Q0.cells_eq]
theorem Q0.frz_own {K:Nat→Prop} {H:List AObj} {a n:Nat} {l:List Q0} (ho:H[a]? = some (.cells (Wo Q0.cells l))) (hk:K a) (hn:n=l.length):Frz K H (.slice 4 a 0 n) (.slice 4 (Q0.rows l)):=by rw [Q0.rows_eq];exact Av.frz_own (c:=Q0.cells) (fun _=>rfl) ho hk hn
theorem Q0.xR {P:Program} {Gl:Nat→Option (List PV)} {β:Type} {l:List Q0} {i:Int} {F:Q0→Option β} {r : β} (h:(idx l i).bind F=some r) {k:List PV→Prop} (hq:∀ y,F y=some r→k y.cells):Qsr (EP P Gl) (Q0.rows l) i k:=by rw [Q0.rows_eq];exact Av.xR h hq
theorem Q0.idx_rows {l:List Q0} {i:Int} {y:Q0} (h:idx l i=some y):idx (Q0.rows l) i=some y.cells:=by rw [Q0.rows_eq];exact Av.idx_rows h
structure Zn where
 Type':Int
 Channel:Int
 Ext:List UInt8
 Values:List Q0
@[reducible] def Zn.cells (v:Zn):List PV := [.int .i64 v.Type',.int .i64 v.Channel,.str v.Ext,.slice 4 (Q0.rows v.Values)]
structure Qf where
 Proto:Int
 Kind:Int
 Topic:List UInt8
 Payload:List UInt8
 QoS:Int
 Retain:Bool
 Dup:Bool
 ID:Int
 Props:List Qk
 Type':Int
 Hops:List Vd
 Channel:Int
 Packet:Qu
 Msg:U2
 Frame:Zn
@[reducible] def Qf.cells (v:Qf):List PV := [.int .i64 v.Proto,.int .i64 v.Kind,.str v.Topic,.str v.Payload,.int .i64 v.QoS,.bool v.Retain,.bool v.Dup,.int .i64 v.ID,.slice 4 (Q8 Qk.cells v.Props),.int .i64 v.Type',.slice 2 (Q8 Vd.cells v.Hops),.int .i64 v.Channel,.int .i64 v.Packet.Kind,.bool v.Packet.Dup,.bool v.Packet.Retain,.int .i64 v.Packet.QoS,.int .i64 v.Packet.ID,.str v.Packet.Topic,.str v.Packet.Payload,.bool v.Packet.Clean,.int .i64 v.Packet.KeepAlive,.str v.Packet.Client,.bool v.Packet.HasUser,.str v.Packet.User,.bool v.Packet.HasPass,.str v.Packet.Pass,.bool v.Packet.HasWill,.str v.Packet.Will.Topic,.str v.Packet.Will.Payload,.int .i64 v.Packet.Will.QoS,.bool v.Packet.Will.Retain,.slice 4 (Q8 Qk.cells v.Packet.Will.Props),.bool v.Packet.Session,.int .i64 v.Packet.Code,.slice 1 (Q8 (cI .i64) v.Packet.Codes),.slice 5 (Q8 Z0.cells v.Packet.Filters),.slice 4 (Q8 Qk.cells v.Packet.Props),.int .i64 v.Msg.Type',.bool v.Msg.Flags.Dup,.int .i64 v.Msg.Flags.QoS,.bool v.Msg.Flags.Retain,.bool v.Msg.Flags.Will,.bool v.Msg.Flags.Clean,.int .i64 v.Msg.Flags.Type',.int .i64 v.Msg.Gateway,.int .i64 v.Msg.Radius,.int .i64 v.Msg.Time,.bool v.Msg.Timed,.int .i64 v.Msg.TopicID,.int .i64 v.Msg.MsgID,.int .i64 v.Msg.Code,.str v.Msg.Name,.str v.Msg.Data,.int .i64 v.Frame.Type',.int .i64 v.Frame.Channel,.str v.Frame.Ext,.slice 4 (Q0.rows v.Frame.Values)]
structure Zh where
 ID:Int
 Name:List UInt8
 Fixed:Bool
@[reducible] def Zh.cells (v:Zh):List PV := [.int .i64 v.ID,.str v.Name,.bool v.Fixed]
structure Q1 where
 client:List UInt8
 l:List Zh
@[reducible] def Q1.cells (v:Q1):List PV := [.str v.client,.slice 3 (Q8 Zh.cells v.l)]
structure Q3 where
 L:List Q1
@[reducible] def Q3.cells (v:Q3):List PV := [.slice 2 (Q8 Q1.cells v.L)]
structure Q1r where
@[reducible] def Q1r.cells (v:Q1r):List PV := []
structure Xm where
 MaxPacket:Int
 MaxDepth:Int
@[reducible] def Xm.cells (v:Xm):List PV := [.int .i64 v.MaxPacket,.int .i64 v.MaxDepth]
structure Q52 where
 kind:Int
 qos:Int
 id:Int
 alive:Int
 code:Int
 dup:Bool
 retain:Bool
 clean:Bool
 user:Bool
 pass:Bool
 will:Bool
 again:Bool
 topic:List UInt8
 payload:List UInt8
 client:List UInt8
 name:List UInt8
 word:List UInt8
@[reducible] def Q52.cells (v:Q52):List PV := [.int .i64 v.kind,.int .i64 v.qos,.int .i64 v.id,.int .i64 v.alive,.int .i64 v.code,.bool v.dup,.bool v.retain,.bool v.clean,.bool v.user,.bool v.pass,.bool v.will,.bool v.again,.str v.topic,.str v.payload,.str v.client,.str v.name,.str v.word]
structure Qt where
 shape:Int
 kinds:Int
 least:Int
 most:Int
@[reducible] def Qt.cells (v:Qt):List PV := [.int .i64 v.shape,.int .i64 v.kinds,.int .u32 v.least,.int .u32 v.most]
structure Qnv where
 is:Bool
 bit:Int
@[reducible] def Qnv.cells (v:Qnv):List PV := [.bool v.is,.int .i64 v.bit]
structure Qdj where
 version:Int
 p:Qu
@[reducible] def Qdj.cells (v:Qdj):List PV := [.int .i64 v.version,.int .i64 v.p.Kind,.bool v.p.Dup,.bool v.p.Retain,.int .i64 v.p.QoS,.int .i64 v.p.ID,.str v.p.Topic,.str v.p.Payload,.bool v.p.Clean,.int .i64 v.p.KeepAlive,.str v.p.Client,.bool v.p.HasUser,.str v.p.User,.bool v.p.HasPass,.str v.p.Pass,.bool v.p.HasWill,.str v.p.Will.Topic,.str v.p.Will.Payload,.int .i64 v.p.Will.QoS,.bool v.p.Will.Retain,.slice 4 (Q8 Qk.cells v.p.Will.Props),.bool v.p.Session,.int .i64 v.p.Code,.slice 1 (Q8 (cI .i64) v.p.Codes),.slice 5 (Q8 Z0.cells v.p.Filters),.slice 4 (Q8 Qk.cells v.p.Props)]
structure Q8o where
@[reducible] def Q8o.cells (v:Q8o):List PV := []
structure Qc2 where
 Code:Int
 Kind:Int
 Width:Int
 Sized:Bool
 Items:Bool
@[reducible] def Qc2.cells (v:Qc2):List PV := [.int .i64 v.Code,.int .i64 v.Kind,.int .i64 v.Width,.bool v.Sized,.bool v.Items]
structure Qd where
 v:Q0
 kids:List Qd
 element:Int
 inner:Int
mutual
def Qd.cellsR:Qd→List PV
 | .mk x0 x1 x2 x3 => [.int .i64 x0.Kind,.int .u64 x0.N',.str x0.Text,.slice 4 (Q0.rows x0.Items),.slice 7 (Qd.rows x1),.int .i64 x2,.int .i64 x3]
def Qd.rows:List Qd→List (List PV)
 | [] => []
 | v::l=>Qd.cellsR v::Qd.rows l
end
@[reducible] def Qd.cells (v:Qd):List PV := [.int .i64 v.v.Kind,.int .u64 v.v.N',.str v.v.Text,.slice 4 (Q0.rows v.v.Items),.slice 7 (Qd.rows v.kids),.int .i64 v.element,.int .i64 v.inner]
theorem Qd.cells_eq (v:Qd):v.cellsR=v.cells:=by cases v;simp only [Qd.cellsR,Qd.cells]
theorem Qd.rows_eq (l:List Qd):Qd.rows l=Q8 Qd.cells l:=by
 induction l with
 | nil=>simp only [Qd.rows,Q8,Cl]
 | cons v l ih=>simp only [Qd.rows,ih,Q8,Ns,Qd.cells_eq]
theorem Qd.frz_own {K:Nat→Prop} {H:List AObj} {a n:Nat} {l:List Qd} (ho:H[a]? = some (.cells (Wo Qd.cells l))) (hk:K a) (hn:n=l.length):Frz K H (.slice 7 a 0 n) (.slice 7 (Qd.rows l)):=by rw [Qd.rows_eq];exact Av.frz_own (c:=Qd.cells) (fun _=>rfl) ho hk hn
theorem Qd.xR {P:Program} {Gl:Nat→Option (List PV)} {β:Type} {l:List Qd} {i:Int} {F:Qd→Option β} {r : β} (h:(idx l i).bind F=some r) {k:List PV→Prop} (hq:∀ y,F y=some r→k y.cells):Qsr (EP P Gl) (Qd.rows l) i k:=by rw [Qd.rows_eq];exact Av.xR h hq
theorem Qd.idx_rows {l:List Qd} {i:Int} {y:Qd} (h:idx l i=some y):idx (Qd.rows l) i=some y.cells:=by rw [Qd.rows_eq];exact Av.idx_rows h
structure Qab where
 text:List UInt8
 at':Int
 err:Int
@[reducible] def Qab.cells (v:Qab):List PV := [.str v.text,.int .i64 v.at',.int .i64 v.err]
structure Jl where
 text:List UInt8
@[reducible] def Jl.cells (v:Jl):List PV := [.str v.text]
structure Q7 where
 shape:Int
 kinds:List Int
 least:Int
 most:Int
@[reducible] def Q7.cells (v:Q7):List PV := [.int .i64 v.shape,.slice 1 (Q8 (cI .i64) v.kinds),.int .u32 v.least,.int .u32 v.most]
structure Qh where
 do':Int
 m:U2
 out:List Int
 bad:Bool
end
abbrev Q1t (v:Qf) (l:List AV):List AV:=iI v.Proto::iI v.Kind::iS v.Topic::iS v.Payload::iI v.QoS :: .p (.bool v.Retain) :: .p (.bool v.Dup)::iI v.ID :: .p (.slice 4 (Q8 Qk.cells v.Props))::iI v.Type' :: .p (.slice 2 (Q8 Vd.cells v.Hops))::iI v.Channel::iI v.Packet.Kind :: .p (.bool v.Packet.Dup) :: .p (.bool v.Packet.Retain)::iI v.Packet.QoS::iI v.Packet.ID::iS v.Packet.Topic::iS v.Packet.Payload :: .p (.bool v.Packet.Clean)::iI v.Packet.KeepAlive::iS v.Packet.Client :: .p (.bool v.Packet.HasUser)::iS v.Packet.User :: .p (.bool v.Packet.HasPass)::iS v.Packet.Pass :: .p (.bool v.Packet.HasWill)::iS v.Packet.Will.Topic::iS v.Packet.Will.Payload::iI v.Packet.Will.QoS :: .p (.bool v.Packet.Will.Retain) :: .p (.slice 4 (Q8 Qk.cells v.Packet.Will.Props)) :: .p (.bool v.Packet.Session)::iI v.Packet.Code :: .p (.slice 1 (Q8 (cI .i64) v.Packet.Codes)) :: .p (.slice 5 (Q8 Z0.cells v.Packet.Filters)) :: .p (.slice 4 (Q8 Qk.cells v.Packet.Props))::iI v.Msg.Type' :: .p (.bool v.Msg.Flags.Dup)::iI v.Msg.Flags.QoS :: .p (.bool v.Msg.Flags.Retain) :: .p (.bool v.Msg.Flags.Will) :: .p (.bool v.Msg.Flags.Clean)::iI v.Msg.Flags.Type'::iI v.Msg.Gateway::iI v.Msg.Radius::iI v.Msg.Time :: .p (.bool v.Msg.Timed)::iI v.Msg.TopicID::iI v.Msg.MsgID::iI v.Msg.Code::iS v.Msg.Name::iS v.Msg.Data::iI v.Frame.Type'::iI v.Frame.Channel::iS v.Frame.Ext :: .p (.slice 4 (Q0.rows v.Frame.Values))::l
abbrev Qfl (v:U2) (l:List AV):List AV:=iI v.Type' :: .p (.bool v.Flags.Dup)::iI v.Flags.QoS :: .p (.bool v.Flags.Retain) :: .p (.bool v.Flags.Will) :: .p (.bool v.Flags.Clean)::iI v.Flags.Type'::iI v.Gateway::iI v.Radius::iI v.Time :: .p (.bool v.Timed)::iI v.TopicID::iI v.MsgID::iI v.Code::iS v.Name::iS v.Data::l
abbrev Zcu (v:U2) (l:List AV):List AV := .p (.int .i64 v.Type') :: .p (.bool v.Flags.Dup) :: .p (.int .i64 v.Flags.QoS) :: .p (.bool v.Flags.Retain) :: .p (.bool v.Flags.Will) :: .p (.bool v.Flags.Clean) :: .p (.int .i64 v.Flags.Type') :: .p (.int .i64 v.Gateway) :: .p (.int .i64 v.Radius) :: .p (.int .i64 v.Time) :: .p (.bool v.Timed) :: .p (.int .i64 v.TopicID) :: .p (.int .i64 v.MsgID) :: .p (.int .i64 v.Code) :: .p (.str v.Name) :: .p (.str v.Data)::l
abbrev Q8b (v:Qz) (l:List AV):List AV := .p (.bool v.Dup)::iI v.QoS :: .p (.bool v.Retain) :: .p (.bool v.Will) :: .p (.bool v.Clean)::iI v.Type'::l
abbrev Qpy (v:Qu) (s0 s1 s2 s3:AV) (l:List AV):List AV:=iI v.Kind :: .p (.bool v.Dup) :: .p (.bool v.Retain)::iI v.QoS::iI v.ID::iS v.Topic::iS v.Payload :: .p (.bool v.Clean)::iI v.KeepAlive::iS v.Client :: .p (.bool v.HasUser)::iS v.User :: .p (.bool v.HasPass)::iS v.Pass :: .p (.bool v.HasWill)::iS v.Will.Topic::iS v.Will.Payload::iI v.Will.QoS :: .p (.bool v.Will.Retain)::s0 :: .p (.bool v.Session)::iI v.Code::s1::s2::s3::l
abbrev Qro (v:Qu) (s0 s1 s2 s3:AV):List AV := [.p (.int .i64 v.Kind),.p (.bool v.Dup),.p (.bool v.Retain),.p (.int .i64 v.QoS),.p (.int .i64 v.ID),.p (.str v.Topic),.p (.str v.Payload),.p (.bool v.Clean),.p (.int .i64 v.KeepAlive),.p (.str v.Client),.p (.bool v.HasUser),.p (.str v.User),.p (.bool v.HasPass),.p (.str v.Pass),.p (.bool v.HasWill),.p (.str v.Will.Topic),.p (.str v.Will.Payload),.p (.int .i64 v.Will.QoS),.p (.bool v.Will.Retain),s0,.p (.bool v.Session),.p (.int .i64 v.Code),s1,s2,s3]
abbrev Qqf (v:Qu) (s0 s1 s2 s3:AV):List AV := [iI v.Kind,.p (.bool v.Dup),.p (.bool v.Retain),iI v.QoS,iI v.ID,iS v.Topic,iS v.Payload,.p (.bool v.Clean),iI v.KeepAlive,iS v.Client,.p (.bool v.HasUser),iS v.User,.p (.bool v.HasPass),iS v.Pass,.p (.bool v.HasWill),iS v.Will.Topic,iS v.Will.Payload,iI v.Will.QoS,.p (.bool v.Will.Retain),s0,.p (.bool v.Session),iI v.Code,s1,s2,s3]
abbrev Q6t (v:Qh) (k:Nat):List AV := .p .nilPtr::iI v.do'::Qfl v.m (.slice 1 k 0 v.out.length :: .p (.bool v.bad) :: [])
theorem f1_ {K:Nat→Prop} {H:List AObj} {a:PV} {xs:List AV} {ys:List PV} (h:FrzL K H xs ys):FrzL K H (.p a::xs) (a::ys) := .cons (.p _) h
theorem f2_ {K:Nat→Prop} {H:List AObj} {a0 a1:PV} {xs:List AV} {ys:List PV} (h:FrzL K H xs ys):FrzL K H (.p a0 :: .p a1::xs) (a0::a1::ys):=f1_ (f1_ h)
theorem f4_ {K:Nat→Prop} {H:List AObj} {a0 a1 a2 a3:PV} {xs:List AV} {ys:List PV} (h:FrzL K H xs ys):FrzL K H (.p a0 :: .p a1 :: .p a2 :: .p a3::xs) (a0::a1::a2::a3::ys):=f2_ (f2_ h)
theorem f8_ {K:Nat→Prop} {H:List AObj} {a0 a1 a2 a3 a4 a5 a6 a7:PV} {xs:List AV} {ys:List PV} (h:FrzL K H xs ys):FrzL K H (.p a0 :: .p a1 :: .p a2 :: .p a3 :: .p a4 :: .p a5 :: .p a6 :: .p a7::xs) (a0::a1::a2::a3::a4::a5::a6::a7::ys):=f4_ (f4_ h)
theorem Xd {K:Nat→Prop} {H:List AObj} {a0 a1 a2 a3 a4 a5 a6 a7 a8 a9 a10 a11 a12 a13 a14 a15:PV} {xs:List AV} {ys:List PV} (h:FrzL K H xs ys):FrzL K H (.p a0 :: .p a1 :: .p a2 :: .p a3 :: .p a4 :: .p a5 :: .p a6 :: .p a7 :: .p a8 :: .p a9 :: .p a10 :: .p a11 :: .p a12 :: .p a13 :: .p a14 :: .p a15::xs) (a0::a1::a2::a3::a4::a5::a6::a7::a8::a9::a10::a11::a12::a13::a14::a15::ys):=f8_ (f8_ h)
end Go.Av
