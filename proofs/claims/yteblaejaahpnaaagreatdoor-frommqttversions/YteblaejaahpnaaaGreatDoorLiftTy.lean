/- Part of the proof of FrommqttVersions: for every input the law returns true; no condition. -/
import Derived.Test.YteblaejaahpnaaaGreatDoorAvAbb
set_option linter.all false
namespace Go.Av
noncomputable section
structure Q28 where
 kind:Int
 qos:Int
 id:Int
 alive:Int
 code:Int
 dup:Bool
 retain:Bool
 clean:Bool
 user:Bool
 pass:Bool
 will:Bool
 again:Bool
 topic:List UInt8
 payload:List UInt8
 client:List UInt8
 name:List UInt8
 word:List UInt8
@[reducible] def Q28.cells (v:Q28):List PV := [.int .i64 v.kind,.int .i64 v.qos,.int .i64 v.id,.int .i64 v.alive,.int .i64 v.code,.bool v.dup,.bool v.retain,.bool v.clean,.bool v.user,.bool v.pass,.bool v.will,.bool v.again,.str v.topic,.str v.payload,.str v.client,.str v.name,.str v.word]
structure Qj where
 ID:Int
 N':Int
 Text:List UInt8
 Value:List UInt8
@[reducible] def Qj.cells (v:Qj):List PV := [.int .i64 v.ID,.int .u32 v.N',.str v.Text,.str v.Value]
structure W7 where
 Topic:List UInt8
 Payload:List UInt8
 QoS:Int
 Retain:Bool
 Props:List Qj
@[reducible] def W7.cells (v:W7):List PV := [.str v.Topic,.str v.Payload,.int .i64 v.QoS,.bool v.Retain,.slice 4 (Qc Qj.cells v.Props)]
structure Qn where
 Topic:List UInt8
 QoS:Int
 NoLocal:Bool
 AsPublished:Bool
 Handling:Int
@[reducible] def Qn.cells (v:Qn):List PV := [.str v.Topic,.int .i64 v.QoS,.bool v.NoLocal,.bool v.AsPublished,.int .i64 v.Handling]
structure Q5 where
 Kind:Int
 Dup:Bool
 Retain:Bool
 QoS:Int
 ID:Int
 Topic:List UInt8
 Payload:List UInt8
 Clean:Bool
 KeepAlive:Int
 Client:List UInt8
 HasUser:Bool
 User:List UInt8
 HasPass:Bool
 Pass:List UInt8
 HasWill:Bool
 Will:W7
 Session:Bool
 Code:Int
 Codes:List Int
 Filters:List Qn
 Props:List Qj
@[reducible] def Q5.cells (v:Q5):List PV := [.int .i64 v.Kind,.bool v.Dup,.bool v.Retain,.int .i64 v.QoS,.int .i64 v.ID,.str v.Topic,.str v.Payload,.bool v.Clean,.int .i64 v.KeepAlive,.str v.Client,.bool v.HasUser,.str v.User,.bool v.HasPass,.str v.Pass,.bool v.HasWill,.str v.Will.Topic,.str v.Will.Payload,.int .i64 v.Will.QoS,.bool v.Will.Retain,.slice 4 (Qc Qj.cells v.Will.Props),.bool v.Session,.int .i64 v.Code,.slice 1 (Qc (cI .i64) v.Codes),.slice 5 (Qc Qn.cells v.Filters),.slice 4 (Qc Qj.cells v.Props)]
structure Qx where
 shape:Int
 kinds:Int
 least:Int
 most:Int
@[reducible] def Qx.cells (v:Qx):List PV := [.int .i64 v.shape,.int .i64 v.kinds,.int .u32 v.least,.int .u32 v.most]
structure Qgs where
 is:Bool
 bit:Int
@[reducible] def Qgs.cells (v:Qgs):List PV := [.bool v.is,.int .i64 v.bit]
structure Gf where
 version:Int
 p:Q5
@[reducible] def Gf.cells (v:Gf):List PV := [.int .i64 v.version,.int .i64 v.p.Kind,.bool v.p.Dup,.bool v.p.Retain,.int .i64 v.p.QoS,.int .i64 v.p.ID,.str v.p.Topic,.str v.p.Payload,.bool v.p.Clean,.int .i64 v.p.KeepAlive,.str v.p.Client,.bool v.p.HasUser,.str v.p.User,.bool v.p.HasPass,.str v.p.Pass,.bool v.p.HasWill,.str v.p.Will.Topic,.str v.p.Will.Payload,.int .i64 v.p.Will.QoS,.bool v.p.Will.Retain,.slice 4 (Qc Qj.cells v.p.Will.Props),.bool v.p.Session,.int .i64 v.p.Code,.slice 1 (Qc (cI .i64) v.p.Codes),.slice 5 (Qc Qn.cells v.p.Filters),.slice 4 (Qc Qj.cells v.p.Props)]
structure Q4s where
@[reducible] def Q4s.cells (v:Q4s):List PV := []
structure Q3e where
 Radius:Int
 Node:List UInt8
@[reducible] def Q3e.cells (v:Q3e):List PV := [.int .i64 v.Radius,.str v.Node]
structure Q6o where
 Dup:Bool
 QoS:Int
 Retain:Bool
 Will:Bool
 Clean:Bool
 Type':Int
@[reducible] def Q6o.cells (v:Q6o):List PV := [.bool v.Dup,.int .i64 v.QoS,.bool v.Retain,.bool v.Will,.bool v.Clean,.int .i64 v.Type']
structure Qey where
 Type':Int
 Flags:Q6o
 Gateway:Int
 Radius:Int
 Time:Int
 Timed:Bool
 TopicID:Int
 MsgID:Int
 Code:Int
 Name:List UInt8
 Data:List UInt8
@[reducible] def Qey.cells (v:Qey):List PV := [.int .i64 v.Type',.bool v.Flags.Dup,.int .i64 v.Flags.QoS,.bool v.Flags.Retain,.bool v.Flags.Will,.bool v.Flags.Clean,.int .i64 v.Flags.Type',.int .i64 v.Gateway,.int .i64 v.Radius,.int .i64 v.Time,.bool v.Timed,.int .i64 v.TopicID,.int .i64 v.MsgID,.int .i64 v.Code,.str v.Name,.str v.Data]
structure Q3 where
 Kind:Int
 N':Int
 Text:List UInt8
 Items:List Q3
mutual
def Q3.cellsR:Q3→List PV
 | .mk x0 x1 x2 x3 => [.int .i64 x0,.int .u64 x1,.str x2,.slice 4 (Q3.rows x3)]
def Q3.rows:List Q3→List (List PV)
 | [] => []
 | v::l=>Q3.cellsR v::Q3.rows l
end
@[reducible] def Q3.cells (v:Q3):List PV := [.int .i64 v.Kind,.int .u64 v.N',.str v.Text,.slice 4 (Q3.rows v.Items)]
theorem Q3.cells_eq (v:Q3):v.cellsR=v.cells:=by cases v;simp only [Q3.cellsR,Q3.cells]
theorem Q3.rows_eq (l:List Q3):Q3.rows l=Qc Q3.cells l:=by
 induction l with
 | nil=>simp only [Q3.rows,Qc,Bx]
 | cons v l ih=>simp only [Q3.rows,ih,Qc,Mw,Q3.cells_eq]
theorem Q3.frz_own {K:Nat→Prop} {H:List AObj} {a n:Nat} {l:List Q3} (ho:H[a]? = some (.cells (Uz Q3.cells l))) (hk:K a) (hn:n=l.length):Frz K H (.slice 4 a 0 n) (.slice 4 (Q3.rows l)):=by rw [Q3.rows_eq];exact Av.frz_own (c:=Q3.cells) (fun _=>rfl) ho hk hn
theorem Q3.xR {P:Program} {Gl:Nat→Option (List PV)} {β:Type} {l:List Q3} {i:Int} {F:Q3→Option β} {r : β} (h:(idx l i).bind F=some r) {k:List PV→Prop} (hq:∀ y,F y=some r→k y.cells):Qle (EP P Gl) (Q3.rows l) i k:=by rw [Q3.rows_eq];exact Av.xR h hq
theorem Q3.idx_rows {l:List Q3} {i:Int} {y:Q3} (h:idx l i=some y):idx (Q3.rows l) i=some y.cells:=by rw [Q3.rows_eq];exact Av.idx_rows h
structure Wb where
 Type':Int
 Channel:Int
 Ext:List UInt8
 Values:List Q3
@[reducible] def Wb.cells (v:Wb):List PV := [.int .i64 v.Type',.int .i64 v.Channel,.str v.Ext,.slice 4 (Q3.rows v.Values)]
structure Zo where
 Proto:Int
 Kind:Int
 Topic:List UInt8
 Payload:List UInt8
 QoS:Int
 Retain:Bool
 Dup:Bool
 ID:Int
 Props:List Qj
 Type':Int
 Hops:List Q3e
 Channel:Int
 Packet:Q5
 Msg:Qey
 Frame:Wb
@[reducible] def Zo.cells (v:Zo):List PV := [.int .i64 v.Proto,.int .i64 v.Kind,.str v.Topic,.str v.Payload,.int .i64 v.QoS,.bool v.Retain,.bool v.Dup,.int .i64 v.ID,.slice 4 (Qc Qj.cells v.Props),.int .i64 v.Type',.slice 2 (Qc Q3e.cells v.Hops),.int .i64 v.Channel,.int .i64 v.Packet.Kind,.bool v.Packet.Dup,.bool v.Packet.Retain,.int .i64 v.Packet.QoS,.int .i64 v.Packet.ID,.str v.Packet.Topic,.str v.Packet.Payload,.bool v.Packet.Clean,.int .i64 v.Packet.KeepAlive,.str v.Packet.Client,.bool v.Packet.HasUser,.str v.Packet.User,.bool v.Packet.HasPass,.str v.Packet.Pass,.bool v.Packet.HasWill,.str v.Packet.Will.Topic,.str v.Packet.Will.Payload,.int .i64 v.Packet.Will.QoS,.bool v.Packet.Will.Retain,.slice 4 (Qc Qj.cells v.Packet.Will.Props),.bool v.Packet.Session,.int .i64 v.Packet.Code,.slice 1 (Qc (cI .i64) v.Packet.Codes),.slice 5 (Qc Qn.cells v.Packet.Filters),.slice 4 (Qc Qj.cells v.Packet.Props),.int .i64 v.Msg.Type',.bool v.Msg.Flags.Dup,.int .i64 v.Msg.Flags.QoS,.bool v.Msg.Flags.Retain,.bool v.Msg.Flags.Will,.bool v.Msg.Flags.Clean,.int .i64 v.Msg.Flags.Type',.int .i64 v.Msg.Gateway,.int .i64 v.Msg.Radius,.int .i64 v.Msg.Time,.bool v.Msg.Timed,.int .i64 v.Msg.TopicID,.int .i64 v.Msg.MsgID,.int .i64 v.Msg.Code,.str v.Msg.Name,.str v.Msg.Data,.int .i64 v.Frame.Type',.int .i64 v.Frame.Channel,.str v.Frame.Ext,.slice 4 (Q3.rows v.Frame.Values)]
structure Q7 where
 shape:Int
 kinds:List Int
 least:Int
 most:Int
@[reducible] def Q7.cells (v:Q7):List PV := [.int .i64 v.shape,.slice 1 (Qc (cI .i64) v.kinds),.int .u32 v.least,.int .u32 v.most]
structure Vv where
 MaxPacket:Int
 MaxDepth:Int
@[reducible] def Vv.cells (v:Vv):List PV := [.int .i64 v.MaxPacket,.int .i64 v.MaxDepth]
structure Q2d where
 Kind:Int
 Flags:Int
 Length:Int
@[reducible] def Q2d.cells (v:Q2d):List PV := [.int .i64 v.Kind,.int .i64 v.Flags,.int .i64 v.Length]
structure Q6f where
 text:List UInt8
 at':Int
 err:Int
@[reducible] def Q6f.cells (v:Q6f):List PV := [.str v.text,.int .i64 v.at',.int .i64 v.err]
structure Q5o where
 Hops:List Q3e
 Msg:Qey
@[reducible] def Q5o.cells (v:Q5o):List PV := [.slice 2 (Qc Q3e.cells v.Hops),.int .i64 v.Msg.Type',.bool v.Msg.Flags.Dup,.int .i64 v.Msg.Flags.QoS,.bool v.Msg.Flags.Retain,.bool v.Msg.Flags.Will,.bool v.Msg.Flags.Clean,.int .i64 v.Msg.Flags.Type',.int .i64 v.Msg.Gateway,.int .i64 v.Msg.Radius,.int .i64 v.Msg.Time,.bool v.Msg.Timed,.int .i64 v.Msg.TopicID,.int .i64 v.Msg.MsgID,.int .i64 v.Msg.Code,.str v.Msg.Name,.str v.Msg.Data]
structure Vg where
 text:List UInt8
@[reducible] def Vg.cells (v:Vg):List PV := [.str v.text]
structure Qjr where
 Code:Int
 Kind:Int
 Width:Int
 Sized:Bool
 Items:Bool
@[reducible] def Qjr.cells (v:Qjr):List PV := [.int .i64 v.Code,.int .i64 v.Kind,.int .i64 v.Width,.bool v.Sized,.bool v.Items]
structure Qb where
 v:Q3
 kids:List Qb
 element:Int
 inner:Int
mutual
def Qb.cellsR:Qb→List PV
 | .mk x0 x1 x2 x3 => [.int .i64 x0.Kind,.int .u64 x0.N',.str x0.Text,.slice 4 (Q3.rows x0.Items),.slice 7 (Qb.rows x1),.int .i64 x2,.int .i64 x3]
def Qb.rows:List Qb→List (List PV)
 | [] => []
 | v::l=>Qb.cellsR v::Qb.rows l
end
@[reducible] def Qb.cells (v:Qb):List PV := [.int .i64 v.v.Kind,.int .u64 v.v.N',.str v.v.Text,.slice 4 (Q3.rows v.v.Items),.slice 7 (Qb.rows v.kids),.int .i64 v.element,.int .i64 v.inner]
theorem Qb.cells_eq (v:Qb):v.cellsR=v.cells:=by cases v;simp only [Qb.cellsR,Qb.cells]
theorem Qb.rows_eq (l:List Qb):Qb.rows l=Qc Qb.cells l:=by
 induction l with
 | nil=>simp only [Qb.rows,Qc,Bx]
 | cons v l ih=>simp only [Qb.rows,ih,Qc,Mw,Qb.cells_eq]
theorem Qb.frz_own {K:Nat→Prop} {H:List AObj} {a n:Nat} {l:List Qb} (ho:H[a]? = some (.cells (Uz Qb.cells l))) (hk:K a) (hn:n=l.length):Frz K H (.slice 7 a 0 n) (.slice 7 (Qb.rows l)):=by rw [Qb.rows_eq];exact Av.frz_own (c:=Qb.cells) (fun _=>rfl) ho hk hn
theorem Qb.xR {P:Program} {Gl:Nat→Option (List PV)} {β:Type} {l:List Qb} {i:Int} {F:Qb→Option β} {r : β} (h:(idx l i).bind F=some r) {k:List PV→Prop} (hq:∀ y,F y=some r→k y.cells):Qle (EP P Gl) (Qb.rows l) i k:=by rw [Qb.rows_eq];exact Av.xR h hq
theorem Qb.idx_rows {l:List Qb} {i:Int} {y:Qb} (h:idx l i=some y):idx (Qb.rows l) i=some y.cells:=by rw [Qb.rows_eq];exact Av.idx_rows h
structure Q1 where
 S:List UInt8
 I:Int
 E:Int
@[reducible] def Q1.cells (v:Q1):List PV := [.str v.S,.int .i64 v.I,.int .i64 v.E]
structure J8 where
 do':Int
 m:Qey
 out:List Int
 bad:Bool
end
abbrev Qgi (v:Zo) (l:List AV):List AV:=iI v.Proto::iI v.Kind::iS v.Topic::iS v.Payload::iI v.QoS :: .p (.bool v.Retain) :: .p (.bool v.Dup)::iI v.ID :: .p (.slice 4 (Qc Qj.cells v.Props))::iI v.Type' :: .p (.slice 2 (Qc Q3e.cells v.Hops))::iI v.Channel::iI v.Packet.Kind :: .p (.bool v.Packet.Dup) :: .p (.bool v.Packet.Retain)::iI v.Packet.QoS::iI v.Packet.ID::iS v.Packet.Topic::iS v.Packet.Payload :: .p (.bool v.Packet.Clean)::iI v.Packet.KeepAlive::iS v.Packet.Client :: .p (.bool v.Packet.HasUser)::iS v.Packet.User :: .p (.bool v.Packet.HasPass)::iS v.Packet.Pass :: .p (.bool v.Packet.HasWill)::iS v.Packet.Will.Topic::iS v.Packet.Will.Payload::iI v.Packet.Will.QoS :: .p (.bool v.Packet.Will.Retain) :: .p (.slice 4 (Qc Qj.cells v.Packet.Will.Props)) :: .p (.bool v.Packet.Session)::iI v.Packet.Code :: .p (.slice 1 (Qc (cI .i64) v.Packet.Codes)) :: .p (.slice 5 (Qc Qn.cells v.Packet.Filters)) :: .p (.slice 4 (Qc Qj.cells v.Packet.Props))::iI v.Msg.Type' :: .p (.bool v.Msg.Flags.Dup)::iI v.Msg.Flags.QoS :: .p (.bool v.Msg.Flags.Retain) :: .p (.bool v.Msg.Flags.Will) :: .p (.bool v.Msg.Flags.Clean)::iI v.Msg.Flags.Type'::iI v.Msg.Gateway::iI v.Msg.Radius::iI v.Msg.Time :: .p (.bool v.Msg.Timed)::iI v.Msg.TopicID::iI v.Msg.MsgID::iI v.Msg.Code::iS v.Msg.Name::iS v.Msg.Data::iI v.Frame.Type'::iI v.Frame.Channel::iS v.Frame.Ext :: .p (.slice 4 (Q3.rows v.Frame.Values))::l
abbrev Qkh (v:Q5) (l:List AV):List AV:=iI v.Kind :: .p (.bool v.Dup) :: .p (.bool v.Retain)::iI v.QoS::iI v.ID::iS v.Topic::iS v.Payload :: .p (.bool v.Clean)::iI v.KeepAlive::iS v.Client :: .p (.bool v.HasUser)::iS v.User :: .p (.bool v.HasPass)::iS v.Pass :: .p (.bool v.HasWill)::iS v.Will.Topic::iS v.Will.Payload::iI v.Will.QoS :: .p (.bool v.Will.Retain) :: .p (.slice 4 (Qc Qj.cells v.Will.Props)) :: .p (.bool v.Session)::iI v.Code :: .p (.slice 1 (Qc (cI .i64) v.Codes)) :: .p (.slice 5 (Qc Qn.cells v.Filters)) :: .p (.slice 4 (Qc Qj.cells v.Props))::l
abbrev Qr2 (v:Qey) (l:List AV):List AV:=iI v.Type' :: .p (.bool v.Flags.Dup)::iI v.Flags.QoS :: .p (.bool v.Flags.Retain) :: .p (.bool v.Flags.Will) :: .p (.bool v.Flags.Clean)::iI v.Flags.Type'::iI v.Gateway::iI v.Radius::iI v.Time :: .p (.bool v.Timed)::iI v.TopicID::iI v.MsgID::iI v.Code::iS v.Name::iS v.Data::l
theorem f1_ {K:Nat→Prop} {H:List AObj} {a:PV} {xs:List AV} {ys:List PV} (h:FrzL K H xs ys):FrzL K H (.p a::xs) (a::ys) := .cons (.p _) h
theorem f2_ {K:Nat→Prop} {H:List AObj} {a0 a1:PV} {xs:List AV} {ys:List PV} (h:FrzL K H xs ys):FrzL K H (.p a0 :: .p a1::xs) (a0::a1::ys):=f1_ (f1_ h)
theorem f4_ {K:Nat→Prop} {H:List AObj} {a0 a1 a2 a3:PV} {xs:List AV} {ys:List PV} (h:FrzL K H xs ys):FrzL K H (.p a0 :: .p a1 :: .p a2 :: .p a3::xs) (a0::a1::a2::a3::ys):=f2_ (f2_ h)
theorem f8_ {K:Nat→Prop} {H:List AObj} {a0 a1 a2 a3 a4 a5 a6 a7:PV} {xs:List AV} {ys:List PV} (h:FrzL K H xs ys):FrzL K H (.p a0 :: .p a1 :: .p a2 :: .p a3 :: .p a4 :: .p a5 :: .p a6 :: .p a7::xs) (a0::a1::a2::a3::a4::a5::a6::a7::ys):=f4_ (f4_ h)
theorem Yf {K:Nat→Prop} {H:List AObj} {a0 a1 a2 a3 a4 a5 a6 a7 a8 a9 a10 a11 a12 a13 a14 a15:PV} {xs:List AV} {ys:List PV} (h:FrzL K H xs ys):FrzL K H (.p a0 :: .p a1 :: .p a2 :: .p a3 :: .p a4 :: .p a5 :: .p a6 :: .p a7 :: .p a8 :: .p a9 :: .p a10 :: .p a11 :: .p a12 :: .p a13 :: .p a14 :: .p a15::xs) (a0::a1::a2::a3::a4::a5::a6::a7::a8::a9::a10::a11::a12::a13::a14::a15::ys):=f8_ (f8_ h)
end Go.Av
