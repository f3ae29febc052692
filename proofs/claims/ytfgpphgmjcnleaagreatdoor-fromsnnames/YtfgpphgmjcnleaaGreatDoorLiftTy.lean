/- Part of FromsnNames: the law returns true; no condition. -/
import Derived.Test.YtfgpphgmjcnleaaGreatDoorAvAbb
set_option linter.all false
namespace Go.Av
noncomputable section
structure Zv where
 MaxPacket:Int
 MaxDepth:Int
@[reducible] def Zv.cells (v:Zv):List PV := [.int .i64 v.MaxPacket,.int .i64 v.MaxDepth]
structure V5 where
 Radius:Int
 Node:List UInt8
@[reducible] def V5.cells (v:V5):List PV := [.int .i64 v.Radius,.str v.Node]
structure Qp where
 Dup:Bool
 QoS:Int
 Retain:Bool
 Will:Bool
 Clean:Bool
 Type':Int
@[reducible] def Qp.cells (v:Qp):List PV := [.bool v.Dup,.int .i64 v.QoS,.bool v.Retain,.bool v.Will,.bool v.Clean,.int .i64 v.Type']
structure Q6n where
 text:List UInt8
 at':Int
 err:Int
@[reducible] def Q6n.cells (v:Q6n):List PV := [.str v.text,.int .i64 v.at',.int .i64 v.err]
structure X1 where
 Type':Int
 Flags:Qp
 Gateway:Int
 Radius:Int
 Time:Int
 Timed:Bool
 TopicID:Int
 MsgID:Int
 Code:Int
 Name:List UInt8
 Data:List UInt8
@[reducible] def X1.cells (v:X1):List PV := [.int .i64 v.Type',.bool v.Flags.Dup,.int .i64 v.Flags.QoS,.bool v.Flags.Retain,.bool v.Flags.Will,.bool v.Flags.Clean,.int .i64 v.Flags.Type',.int .i64 v.Gateway,.int .i64 v.Radius,.int .i64 v.Time,.bool v.Timed,.int .i64 v.TopicID,.int .i64 v.MsgID,.int .i64 v.Code,.str v.Name,.str v.Data]
structure Qf where
 Hops:List V5
 Msg:X1
@[reducible] def Qf.cells (v:Qf):List PV := [.slice 2 (Qg V5.cells v.Hops),.int .i64 v.Msg.Type',.bool v.Msg.Flags.Dup,.int .i64 v.Msg.Flags.QoS,.bool v.Msg.Flags.Retain,.bool v.Msg.Flags.Will,.bool v.Msg.Flags.Clean,.int .i64 v.Msg.Flags.Type',.int .i64 v.Msg.Gateway,.int .i64 v.Msg.Radius,.int .i64 v.Msg.Time,.bool v.Msg.Timed,.int .i64 v.Msg.TopicID,.int .i64 v.Msg.MsgID,.int .i64 v.Msg.Code,.str v.Msg.Name,.str v.Msg.Data]
structure Xs where
@[reducible] def Xs.cells (v:Xs):List PV := []
structure Zw where
 ID:Int
 N':Int
 Text:List UInt8
 Value:List UInt8
@[reducible] def Zw.cells (v:Zw):List PV := [.int .i64 v.ID,.int .u32 v.N',.str v.Text,.str v.Value]
structure Q1p where
 Topic:List UInt8
 Payload:List UInt8
 QoS:Int
 Retain:Bool
 Props:List Zw
@[reducible] def Q1p.cells (v:Q1p):List PV := [.str v.Topic,.str v.Payload,.int .i64 v.QoS,.bool v.Retain,.slice 4 (Qg Zw.cells v.Props)]
structure X4 where
 Topic:List UInt8
 QoS:Int
 NoLocal:Bool
 AsPublished:Bool
 Handling:Int
@[reducible] def X4.cells (v:X4):List PV := [.str v.Topic,.int .i64 v.QoS,.bool v.NoLocal,.bool v.AsPublished,.int .i64 v.Handling]
structure X8 where
 Kind:Int
 Dup:Bool
 Retain:Bool
 QoS:Int
 ID:Int
 Topic:List UInt8
 Payload:List UInt8
 Clean:Bool
 KeepAlive:Int
 Client:List UInt8
 HasUser:Bool
 User:List UInt8
 HasPass:Bool
 Pass:List UInt8
 HasWill:Bool
 Will:Q1p
 Session:Bool
 Code:Int
 Codes:List Int
 Filters:List X4
 Props:List Zw
@[reducible] def X8.cells (v:X8):List PV := [.int .i64 v.Kind,.bool v.Dup,.bool v.Retain,.int .i64 v.QoS,.int .i64 v.ID,.str v.Topic,.str v.Payload,.bool v.Clean,.int .i64 v.KeepAlive,.str v.Client,.bool v.HasUser,.str v.User,.bool v.HasPass,.str v.Pass,.bool v.HasWill,.str v.Will.Topic,.str v.Will.Payload,.int .i64 v.Will.QoS,.bool v.Will.Retain,.slice 4 (Qg Zw.cells v.Will.Props),.bool v.Session,.int .i64 v.Code,.slice 1 (Qg (cI .i64) v.Codes),.slice 5 (Qg X4.cells v.Filters),.slice 4 (Qg Zw.cells v.Props)]
structure Qn where
 Kind:Int
 N':Int
 Text:List UInt8
 Items:List Qn
mutual
def Qn.cellsR:Qn->List PV
 | .mk x0 x1 x2 x3 => [.int .i64 x0,.int .u64 x1,.str x2,.slice 4 (Qn.rows x3)]
def Qn.rows:List Qn->List (List PV)
 | [] => []
 | v::l=>Qn.cellsR v::Qn.rows l
end
@[reducible] def Qn.cells (v:Qn):List PV := [.int .i64 v.Kind,.int .u64 v.N',.str v.Text,.slice 4 (Qn.rows v.Items)]
theorem Qn.cells_eq (v:Qn):v.cellsR=v.cells:=by cases v;simp only [Qn.cellsR,Qn.cells]
theorem Qn.rows_eq (l:List Qn):Qn.rows l=Qg Qn.cells l:=by
 induction l with
 | nil=>simp only [Qn.rows,Qg,Bx]
 | cons v l ih=>simp only [Qn.rows,ih,Qg,Mx,Qn.cells_eq]
theorem Qn.frz_own {K:Nat->Prop} {H:List AObj} {a n:Nat} {l:List Qn} (ho:H[a]? = some (.cells (Z0 Qn.cells l))) (hk:K a) (hn:n=l.length):Frz K H (.slice 4 a 0 n) (.slice 4 (Qn.rows l)):=by rw [Qn.rows_eq];exact Av.frz_own (c:=Qn.cells) (fun _=>rfl) ho hk hn
theorem Qn.xR {P:Program} {Gl:Nat->Option (List PV)} {β:Type} {l:List Qn} {i:Int} {F:Qn->Option β} {r : β} (h:(idx l i).bind F=some r) {k:List PV->Prop} (hq:∀ y,F y=some r->k y.cells):Qmf (EP P Gl) (Qn.rows l) i k:=by rw [Qn.rows_eq];exact Av.xR h hq
theorem Qn.idx_rows {l:List Qn} {i:Int} {y:Qn} (h:idx l i=some y):idx (Qn.rows l) i=some y.cells:=by rw [Qn.rows_eq];exact Av.idx_rows h
structure Vl where
 Type':Int
 Channel:Int
 Ext:List UInt8
 Values:List Qn
@[reducible] def Vl.cells (v:Vl):List PV := [.int .i64 v.Type',.int .i64 v.Channel,.str v.Ext,.slice 4 (Qn.rows v.Values)]
structure Zj where
 Proto:Int
 Kind:Int
 Topic:List UInt8
 Payload:List UInt8
 QoS:Int
 Retain:Bool
 Dup:Bool
 ID:Int
 Props:List Zw
 Type':Int
 Hops:List V5
 Channel:Int
 Packet:X8
 Msg:X1
 Frame:Vl
@[reducible] def Zj.cells (v:Zj):List PV := [.int .i64 v.Proto,.int .i64 v.Kind,.str v.Topic,.str v.Payload,.int .i64 v.QoS,.bool v.Retain,.bool v.Dup,.int .i64 v.ID,.slice 4 (Qg Zw.cells v.Props),.int .i64 v.Type',.slice 2 (Qg V5.cells v.Hops),.int .i64 v.Channel,.int .i64 v.Packet.Kind,.bool v.Packet.Dup,.bool v.Packet.Retain,.int .i64 v.Packet.QoS,.int .i64 v.Packet.ID,.str v.Packet.Topic,.str v.Packet.Payload,.bool v.Packet.Clean,.int .i64 v.Packet.KeepAlive,.str v.Packet.Client,.bool v.Packet.HasUser,.str v.Packet.User,.bool v.Packet.HasPass,.str v.Packet.Pass,.bool v.Packet.HasWill,.str v.Packet.Will.Topic,.str v.Packet.Will.Payload,.int .i64 v.Packet.Will.QoS,.bool v.Packet.Will.Retain,.slice 4 (Qg Zw.cells v.Packet.Will.Props),.bool v.Packet.Session,.int .i64 v.Packet.Code,.slice 1 (Qg (cI .i64) v.Packet.Codes),.slice 5 (Qg X4.cells v.Packet.Filters),.slice 4 (Qg Zw.cells v.Packet.Props),.int .i64 v.Msg.Type',.bool v.Msg.Flags.Dup,.int .i64 v.Msg.Flags.QoS,.bool v.Msg.Flags.Retain,.bool v.Msg.Flags.Will,.bool v.Msg.Flags.Clean,.int .i64 v.Msg.Flags.Type',.int .i64 v.Msg.Gateway,.int .i64 v.Msg.Radius,.int .i64 v.Msg.Time,.bool v.Msg.Timed,.int .i64 v.Msg.TopicID,.int .i64 v.Msg.MsgID,.int .i64 v.Msg.Code,.str v.Msg.Name,.str v.Msg.Data,.int .i64 v.Frame.Type',.int .i64 v.Frame.Channel,.str v.Frame.Ext,.slice 4 (Qn.rows v.Frame.Values)]
structure Q1s where
 kind:Int
 qos:Int
 id:Int
 alive:Int
 code:Int
 dup:Bool
 retain:Bool
 clean:Bool
 user:Bool
 pass:Bool
 will:Bool
 again:Bool
 topic:List UInt8
 payload:List UInt8
 client:List UInt8
 name:List UInt8
 word:List UInt8
@[reducible] def Q1s.cells (v:Q1s):List PV := [.int .i64 v.kind,.int .i64 v.qos,.int .i64 v.id,.int .i64 v.alive,.int .i64 v.code,.bool v.dup,.bool v.retain,.bool v.clean,.bool v.user,.bool v.pass,.bool v.will,.bool v.again,.str v.topic,.str v.payload,.str v.client,.str v.name,.str v.word]
structure Qh where
 shape:Int
 kinds:Int
 least:Int
 most:Int
@[reducible] def Qh.cells (v:Qh):List PV := [.int .i64 v.shape,.int .i64 v.kinds,.int .u32 v.least,.int .u32 v.most]
structure Wi where
 text:List UInt8
@[reducible] def Wi.cells (v:Wi):List PV := [.str v.text]
structure Q9y where
 version:Int
 p:X8
@[reducible] def Q9y.cells (v:Q9y):List PV := [.int .i64 v.version,.int .i64 v.p.Kind,.bool v.p.Dup,.bool v.p.Retain,.int .i64 v.p.QoS,.int .i64 v.p.ID,.str v.p.Topic,.str v.p.Payload,.bool v.p.Clean,.int .i64 v.p.KeepAlive,.str v.p.Client,.bool v.p.HasUser,.str v.p.User,.bool v.p.HasPass,.str v.p.Pass,.bool v.p.HasWill,.str v.p.Will.Topic,.str v.p.Will.Payload,.int .i64 v.p.Will.QoS,.bool v.p.Will.Retain,.slice 4 (Qg Zw.cells v.p.Will.Props),.bool v.p.Session,.int .i64 v.p.Code,.slice 1 (Qg (cI .i64) v.p.Codes),.slice 5 (Qg X4.cells v.p.Filters),.slice 4 (Qg Zw.cells v.p.Props)]
structure Q4x where
@[reducible] def Q4x.cells (v:Q4x):List PV := []
structure Qhs where
 is:Bool
 bit:Int
@[reducible] def Qhs.cells (v:Qhs):List PV := [.bool v.is,.int .i64 v.bit]
structure Qs9 where
 Code:Int
 Kind:Int
 Width:Int
 Sized:Bool
 Items:Bool
@[reducible] def Qs9.cells (v:Qs9):List PV := [.int .i64 v.Code,.int .i64 v.Kind,.int .i64 v.Width,.bool v.Sized,.bool v.Items]
structure Q5 where
 v:Qn
 kids:List Q5
 element:Int
 inner:Int
mutual
def Q5.cellsR:Q5->List PV
 | .mk x0 x1 x2 x3 => [.int .i64 x0.Kind,.int .u64 x0.N',.str x0.Text,.slice 4 (Qn.rows x0.Items),.slice 7 (Q5.rows x1),.int .i64 x2,.int .i64 x3]
def Q5.rows:List Q5->List (List PV)
 | [] => []
 | v::l=>Q5.cellsR v::Q5.rows l
end
@[reducible] def Q5.cells (v:Q5):List PV := [.int .i64 v.v.Kind,.int .u64 v.v.N',.str v.v.Text,.slice 4 (Qn.rows v.v.Items),.slice 7 (Q5.rows v.kids),.int .i64 v.element,.int .i64 v.inner]
theorem Q5.cells_eq (v:Q5):v.cellsR=v.cells:=by cases v;simp only [Q5.cellsR,Q5.cells]
theorem Q5.rows_eq (l:List Q5):Q5.rows l=Qg Q5.cells l:=by
 induction l with
 | nil=>simp only [Q5.rows,Qg,Bx]
 | cons v l ih=>simp only [Q5.rows,ih,Qg,Mx,Q5.cells_eq]
theorem Q5.frz_own {K:Nat->Prop} {H:List AObj} {a n:Nat} {l:List Q5} (ho:H[a]? = some (.cells (Z0 Q5.cells l))) (hk:K a) (hn:n=l.length):Frz K H (.slice 7 a 0 n) (.slice 7 (Q5.rows l)):=by rw [Q5.rows_eq];exact Av.frz_own (c:=Q5.cells) (fun _=>rfl) ho hk hn
theorem Q5.xR {P:Program} {Gl:Nat->Option (List PV)} {β:Type} {l:List Q5} {i:Int} {F:Q5->Option β} {r : β} (h:(idx l i).bind F=some r) {k:List PV->Prop} (hq:∀ y,F y=some r->k y.cells):Qmf (EP P Gl) (Q5.rows l) i k:=by rw [Q5.rows_eq];exact Av.xR h hq
theorem Q5.idx_rows {l:List Q5} {i:Int} {y:Q5} (h:idx l i=some y):idx (Q5.rows l) i=some y.cells:=by rw [Q5.rows_eq];exact Av.idx_rows h
structure Q3m where
 ID:Int
 Name:List UInt8
 Fixed:Bool
@[reducible] def Q3m.cells (v:Q3m):List PV := [.int .i64 v.ID,.str v.Name,.bool v.Fixed]
structure Q0 where
 do':Int
 m:X1
 out:List Int
 bad:Bool
end
abbrev Qnd (v:Zj) (l:List AV):List AV:=iI v.Proto::iI v.Kind::iS v.Topic::iS v.Payload::iI v.QoS :: .p (.bool v.Retain) :: .p (.bool v.Dup)::iI v.ID :: .p (.slice 4 (Qg Zw.cells v.Props))::iI v.Type' :: .p (.slice 2 (Qg V5.cells v.Hops))::iI v.Channel::iI v.Packet.Kind :: .p (.bool v.Packet.Dup) :: .p (.bool v.Packet.Retain)::iI v.Packet.QoS::iI v.Packet.ID::iS v.Packet.Topic::iS v.Packet.Payload :: .p (.bool v.Packet.Clean)::iI v.Packet.KeepAlive::iS v.Packet.Client :: .p (.bool v.Packet.HasUser)::iS v.Packet.User :: .p (.bool v.Packet.HasPass)::iS v.Packet.Pass :: .p (.bool v.Packet.HasWill)::iS v.Packet.Will.Topic::iS v.Packet.Will.Payload::iI v.Packet.Will.QoS :: .p (.bool v.Packet.Will.Retain) :: .p (.slice 4 (Qg Zw.cells v.Packet.Will.Props)) :: .p (.bool v.Packet.Session)::iI v.Packet.Code :: .p (.slice 1 (Qg (cI .i64) v.Packet.Codes)) :: .p (.slice 5 (Qg X4.cells v.Packet.Filters)) :: .p (.slice 4 (Qg Zw.cells v.Packet.Props))::iI v.Msg.Type' :: .p (.bool v.Msg.Flags.Dup)::iI v.Msg.Flags.QoS :: .p (.bool v.Msg.Flags.Retain) :: .p (.bool v.Msg.Flags.Will) :: .p (.bool v.Msg.Flags.Clean)::iI v.Msg.Flags.Type'::iI v.Msg.Gateway::iI v.Msg.Radius::iI v.Msg.Time :: .p (.bool v.Msg.Timed)::iI v.Msg.TopicID::iI v.Msg.MsgID::iI v.Msg.Code::iS v.Msg.Name::iS v.Msg.Data::iI v.Frame.Type'::iI v.Frame.Channel::iS v.Frame.Ext :: .p (.slice 4 (Qn.rows v.Frame.Values))::l
abbrev Qf6 (v:X1) (l:List AV):List AV:=iI v.Type' :: .p (.bool v.Flags.Dup)::iI v.Flags.QoS :: .p (.bool v.Flags.Retain) :: .p (.bool v.Flags.Will) :: .p (.bool v.Flags.Clean)::iI v.Flags.Type'::iI v.Gateway::iI v.Radius::iI v.Time :: .p (.bool v.Timed)::iI v.TopicID::iI v.MsgID::iI v.Code::iS v.Name::iS v.Data::l
abbrev Qwl (v:X1) (l:List AV):List AV := .p (.int .i64 v.Type') :: .p (.bool v.Flags.Dup) :: .p (.int .i64 v.Flags.QoS) :: .p (.bool v.Flags.Retain) :: .p (.bool v.Flags.Will) :: .p (.bool v.Flags.Clean) :: .p (.int .i64 v.Flags.Type') :: .p (.int .i64 v.Gateway) :: .p (.int .i64 v.Radius) :: .p (.int .i64 v.Time) :: .p (.bool v.Timed) :: .p (.int .i64 v.TopicID) :: .p (.int .i64 v.MsgID) :: .p (.int .i64 v.Code) :: .p (.str v.Name) :: .p (.str v.Data)::l
abbrev Q4a (v:Qp) (l:List AV):List AV := .p (.bool v.Dup)::iI v.QoS :: .p (.bool v.Retain) :: .p (.bool v.Will) :: .p (.bool v.Clean)::iI v.Type'::l
abbrev Xz (v:Q0) (k:Nat):List AV := .p .nilPtr::iI v.do'::Qf6 v.m (.slice 1 k 0 v.out.length :: .p (.bool v.bad) :: [])
theorem f1_ {K:Nat->Prop} {H:List AObj} {a:PV} {xs:List AV} {ys:List PV} (h:FrzL K H xs ys):FrzL K H (.p a::xs) (a::ys) := .cons (.p _) h
theorem f2_ {K:Nat->Prop} {H:List AObj} {a0 a1:PV} {xs:List AV} {ys:List PV} (h:FrzL K H xs ys):FrzL K H (.p a0 :: .p a1::xs) (a0::a1::ys):=f1_ (f1_ h)
theorem f4_ {K:Nat->Prop} {H:List AObj} {a0 a1 a2 a3:PV} {xs:List AV} {ys:List PV} (h:FrzL K H xs ys):FrzL K H (.p a0 :: .p a1 :: .p a2 :: .p a3::xs) (a0::a1::a2::a3::ys):=f2_ (f2_ h)
theorem f8_ {K:Nat->Prop} {H:List AObj} {a0 a1 a2 a3 a4 a5 a6 a7:PV} {xs:List AV} {ys:List PV} (h:FrzL K H xs ys):FrzL K H (.p a0 :: .p a1 :: .p a2 :: .p a3 :: .p a4 :: .p a5 :: .p a6 :: .p a7::xs) (a0::a1::a2::a3::a4::a5::a6::a7::ys):=f4_ (f4_ h)
theorem V6 {K:Nat->Prop} {H:List AObj} {a0 a1 a2 a3 a4 a5 a6 a7 a8 a9 a10 a11 a12 a13 a14 a15:PV} {xs:List AV} {ys:List PV} (h:FrzL K H xs ys):FrzL K H (.p a0 :: .p a1 :: .p a2 :: .p a3 :: .p a4 :: .p a5 :: .p a6 :: .p a7 :: .p a8 :: .p a9 :: .p a10 :: .p a11 :: .p a12 :: .p a13 :: .p a14 :: .p a15::xs) (a0::a1::a2::a3::a4::a5::a6::a7::a8::a9::a10::a11::a12::a13::a14::a15::ys):=f8_ (f8_ h)
section
variable {K:Nat->Prop} {H:List AObj}
theorem za {a0 a1 a2 a3 a4 a5 a6 a7 a8:PV}:FrzL K H [.p a0,.p a1,.p a2,.p a3,.p a4,.p a5,.p a6,.p a7,.p a8] [a0,a1,a2,a3,a4,a5,a6,a7,a8]:=(f2_ (f1_ (.cons (.p _) p5)))
theorem zb {a0 a1 a2 a3 a4 a5 a6 a7 a8 a9 a10 a11 a12 a13 a14 a15 a16 a17 a18 a19 a20 a21 a22 a23 a24:PV}:Frz K H (.agg [.p a0,.p a1,.p a2,.p a3,.p a4,.p a5,.p a6,.p a7,.p a8,.p a9,.p a10,.p a11,.p a12,.p a13,.p a14,.p a15,.p a16,.p a17,.p a18,.p a19,.p a20,.p a21,.p a22,.p a23,.p a24]) (.agg [a0,a1,a2,a3,a4,a5,a6,a7,a8,a9,a10,a11,a12,a13,a14,a15,a16,a17,a18,a19,a20,a21,a22,a23,a24]):=(Ar (V6 za))
theorem zc {a0 a1 a2 a3 a4 a5 a6 a7 a8 a9 a10 a11 a12 a13 a14 a15 a16 a17 a18 a19 a20 a21 a22 a23 a24:PV}:FrzL K H [.agg [.p a0,.p a1,.p a2,.p a3,.p a4,.p a5,.p a6,.p a7,.p a8,.p a9,.p a10,.p a11,.p a12,.p a13,.p a14,.p a15,.p a16,.p a17,.p a18,.p a19,.p a20,.p a21,.p a22,.p a23,.p a24]] [.agg [a0,a1,a2,a3,a4,a5,a6,a7,a8,a9,a10,a11,a12,a13,a14,a15,a16,a17,a18,a19,a20,a21,a22,a23,a24]]:=(.cons zb .nil)
theorem zd {u:PV} {a0 a1 a2 a3 a4 a5 a6 a7 a8 a9 a10 a11 a12 a13 a14 a15 a16 a17 a18 a19 a20 a21 a22 a23 a24:PV}:FrzL K H [.p u,.agg [.p a0,.p a1,.p a2,.p a3,.p a4,.p a5,.p a6,.p a7,.p a8,.p a9,.p a10,.p a11,.p a12,.p a13,.p a14,.p a15,.p a16,.p a17,.p a18,.p a19,.p a20,.p a21,.p a22,.p a23,.p a24]] [u,.agg [a0,a1,a2,a3,a4,a5,a6,a7,a8,a9,a10,a11,a12,a13,a14,a15,a16,a17,a18,a19,a20,a21,a22,a23,a24]]:=(.cons (.p _) zc)
end
end Go.Av
