/- Part of the proof of FrommqttOwn: for every input the law returns true; no condition. -/
import Derived.Test.YtpmcdjbdijjgkaaGreatDoorAvAbb
namespace Go.Av
noncomputable section
structure Q1 where
 ID : Int
 N' : Int
 Text : List UInt8
 Value : List UInt8
@[reducible] def Q1.cells (v : Q1) : List PV := [.int .i64 v.ID, .int .u32 v.N', .str v.Text, .str v.Value]
structure Xe where
 Topic : List UInt8
 Payload : List UInt8
 QoS : Int
 Retain : Bool
 Props : List Q1
@[reducible] def Xe.cells (v : Xe) : List PV := [.str v.Topic, .str v.Payload, .int .i64 v.QoS, .bool v.Retain, .slice 4 (Q6 Q1.cells v.Props)]
structure Q2 where
 Topic : List UInt8
 QoS : Int
 NoLocal : Bool
 AsPublished : Bool
 Handling : Int
@[reducible] def Q2.cells (v : Q2) : List PV := [.str v.Topic, .int .i64 v.QoS, .bool v.NoLocal, .bool v.AsPublished, .int .i64 v.Handling]
structure Q3 where
 Kind : Int
 Dup : Bool
 Retain : Bool
 QoS : Int
 ID : Int
 Topic : List UInt8
 Payload : List UInt8
 Clean : Bool
 KeepAlive : Int
 Client : List UInt8
 HasUser : Bool
 User : List UInt8
 HasPass : Bool
 Pass : List UInt8
 HasWill : Bool
 Will : Xe
 Session : Bool
 Code : Int
 Codes : List Int
 Filters : List Q2
 Props : List Q1
@[reducible] def Q3.cells (v : Q3) : List PV := [.int .i64 v.Kind, .bool v.Dup, .bool v.Retain, .int .i64 v.QoS, .int .i64 v.ID, .str v.Topic, .str v.Payload, .bool v.Clean, .int .i64 v.KeepAlive, .str v.Client, .bool v.HasUser, .str v.User, .bool v.HasPass, .str v.Pass, .bool v.HasWill, .str v.Will.Topic, .str v.Will.Payload, .int .i64 v.Will.QoS, .bool v.Will.Retain, .slice 4 (Q6 Q1.cells v.Will.Props), .bool v.Session, .int .i64 v.Code, .slice 1 (Q6 (cI .i64) v.Codes), .slice 5 (Q6 Q2.cells v.Filters), .slice 4 (Q6 Q1.cells v.Props)]
structure Q5 where
 Kind : Int
 N' : Int
 Text : List UInt8
 Items : List Q5
mutual
def Q5.cellsR : Q5 → List PV
 | .mk x0 x1 x2 x3 => [.int .i64 x0, .int .u64 x1, .str x2, .slice 4 (Q5.rows x3)]
def Q5.rows : List Q5 → List (List PV)
 | [] => []
 | v :: l => Q5.cellsR v :: Q5.rows l
end
@[reducible] def Q5.cells (v : Q5) : List PV := [.int .i64 v.Kind, .int .u64 v.N', .str v.Text, .slice 4 (Q5.rows v.Items)]
theorem Q5.cells_eq (v : Q5) : v.cellsR = v.cells := by cases v; simp only [Q5.cellsR, Q5.cells]
theorem Q5.rows_eq (l : List Q5) : Q5.rows l = Q6 Q5.cells l := by
 induction l with
 | nil => simp only [Q5.rows, Q6, Ca]
 | cons v l ih => simp only [Q5.rows, ih, Q6, Nm, Q5.cells_eq]
theorem Q5.frz_own {K : Nat → Prop} {H : List AObj} {a n : Nat} {l : List Q5} (ho : H[a]? = some (.cells (Y4 Q5.cells l))) (hk : K a) (hn : n = l.length) : Frz K H (.slice 4 a 0 n) (.slice 4 (Q5.rows l)) := by rw [Q5.rows_eq]; exact Av.frz_own (c := Q5.cells) (fun _ => rfl) ho hk hn
theorem Q5.xR {P : Program} {Gl : Nat → Option (List PV)} {β : Type} {l : List Q5} {i : Int} {F : Q5 → Option β} {r : β} (h : (idx l i).bind F = some r) {k : List PV → Prop} (hq : ∀ y, F y = some r → k y.cells) : Qkj (EP P Gl) (Q5.rows l) i k := by rw [Q5.rows_eq]; exact Av.xR h hq
theorem Q5.idx_rows {l : List Q5} {i : Int} {y : Q5} (h : idx l i = some y) : idx (Q5.rows l) i = some y.cells := by rw [Q5.rows_eq]; exact Av.idx_rows h
structure Q1g where
 Radius : Int
 Node : List UInt8
@[reducible] def Q1g.cells (v : Q1g) : List PV := [.int .i64 v.Radius, .str v.Node]
structure Q3p where
 Dup : Bool
 QoS : Int
 Retain : Bool
 Will : Bool
 Clean : Bool
 Type' : Int
@[reducible] def Q3p.cells (v : Q3p) : List PV := [.bool v.Dup, .int .i64 v.QoS, .bool v.Retain, .bool v.Will, .bool v.Clean, .int .i64 v.Type']
structure Qfx where
 Type' : Int
 Flags : Q3p
 Gateway : Int
 Radius : Int
 Time : Int
 Timed : Bool
 TopicID : Int
 MsgID : Int
 Code : Int
 Name : List UInt8
 Data : List UInt8
@[reducible] def Qfx.cells (v : Qfx) : List PV := [.int .i64 v.Type', .bool v.Flags.Dup, .int .i64 v.Flags.QoS, .bool v.Flags.Retain, .bool v.Flags.Will, .bool v.Flags.Clean, .int .i64 v.Flags.Type', .int .i64 v.Gateway, .int .i64 v.Radius, .int .i64 v.Time, .bool v.Timed, .int .i64 v.TopicID, .int .i64 v.MsgID, .int .i64 v.Code, .str v.Name, .str v.Data]
structure Vz where
 Type' : Int
 Channel : Int
 Ext : List UInt8
 Values : List Q5
@[reducible] def Vz.cells (v : Vz) : List PV := [.int .i64 v.Type', .int .i64 v.Channel, .str v.Ext, .slice 4 (Q5.rows v.Values)]
structure Yn where
 Proto : Int
 Kind : Int
 Topic : List UInt8
 Payload : List UInt8
 QoS : Int
 Retain : Bool
 Dup : Bool
 ID : Int
 Props : List Q1
 Type' : Int
 Hops : List Q1g
 Channel : Int
 Packet : Q3
 Msg : Qfx
 Frame : Vz
@[reducible] def Yn.cells (v : Yn) : List PV := [.int .i64 v.Proto, .int .i64 v.Kind, .str v.Topic, .str v.Payload, .int .i64 v.QoS, .bool v.Retain, .bool v.Dup, .int .i64 v.ID, .slice 4 (Q6 Q1.cells v.Props), .int .i64 v.Type', .slice 2 (Q6 Q1g.cells v.Hops), .int .i64 v.Channel, .int .i64 v.Packet.Kind, .bool v.Packet.Dup, .bool v.Packet.Retain, .int .i64 v.Packet.QoS, .int .i64 v.Packet.ID, .str v.Packet.Topic, .str v.Packet.Payload, .bool v.Packet.Clean, .int .i64 v.Packet.KeepAlive, .str v.Packet.Client, .bool v.Packet.HasUser, .str v.Packet.User, .bool v.Packet.HasPass, .str v.Packet.Pass, .bool v.Packet.HasWill, .str v.Packet.Will.Topic, .str v.Packet.Will.Payload, .int .i64 v.Packet.Will.QoS, .bool v.Packet.Will.Retain, .slice 4 (Q6 Q1.cells v.Packet.Will.Props), .bool v.Packet.Session, .int .i64 v.Packet.Code, .slice 1 (Q6 (cI .i64) v.Packet.Codes), .slice 5 (Q6 Q2.cells v.Packet.Filters), .slice 4 (Q6 Q1.cells v.Packet.Props), .int .i64 v.Msg.Type', .bool v.Msg.Flags.Dup, .int .i64 v.Msg.Flags.QoS, .bool v.Msg.Flags.Retain, .bool v.Msg.Flags.Will, .bool v.Msg.Flags.Clean, .int .i64 v.Msg.Flags.Type', .int .i64 v.Msg.Gateway, .int .i64 v.Msg.Radius, .int .i64 v.Msg.Time, .bool v.Msg.Timed, .int .i64 v.Msg.TopicID, .int .i64 v.Msg.MsgID, .int .i64 v.Msg.Code, .str v.Msg.Name, .str v.Msg.Data, .int .i64 v.Frame.Type', .int .i64 v.Frame.Channel, .str v.Frame.Ext, .slice 4 (Q5.rows v.Frame.Values)]
structure Qc where
 shape : Int
 kinds : Int
 least : Int
 most : Int
@[reducible] def Qc.cells (v : Qc) : List PV := [.int .i64 v.shape, .int .i64 v.kinds, .int .u32 v.least, .int .u32 v.most]
structure Q19 where
 kind : Int
 qos : Int
 id : Int
 alive : Int
 code : Int
 dup : Bool
 retain : Bool
 clean : Bool
 user : Bool
 pass : Bool
 will : Bool
 again : Bool
 topic : List UInt8
 payload : List UInt8
 client : List UInt8
 name : List UInt8
 word : List UInt8
@[reducible] def Q19.cells (v : Q19) : List PV := [.int .i64 v.kind, .int .i64 v.qos, .int .i64 v.id, .int .i64 v.alive, .int .i64 v.code, .bool v.dup, .bool v.retain, .bool v.clean, .bool v.user, .bool v.pass, .bool v.will, .bool v.again, .str v.topic, .str v.payload, .str v.client, .str v.name, .str v.word]
structure Qn where
 version : Int
 p : Q3
@[reducible] def Qn.cells (v : Qn) : List PV := [.int .i64 v.version, .int .i64 v.p.Kind, .bool v.p.Dup, .bool v.p.Retain, .int .i64 v.p.QoS, .int .i64 v.p.ID, .str v.p.Topic, .str v.p.Payload, .bool v.p.Clean, .int .i64 v.p.KeepAlive, .str v.p.Client, .bool v.p.HasUser, .str v.p.User, .bool v.p.HasPass, .str v.p.Pass, .bool v.p.HasWill, .str v.p.Will.Topic, .str v.p.Will.Payload, .int .i64 v.p.Will.QoS, .bool v.p.Will.Retain, .slice 4 (Q6 Q1.cells v.p.Will.Props), .bool v.p.Session, .int .i64 v.p.Code, .slice 1 (Q6 (cI .i64) v.p.Codes), .slice 5 (Q6 Q2.cells v.p.Filters), .slice 4 (Q6 Q1.cells v.p.Props)]
structure Ya where
@[reducible] def Ya.cells (v : Ya) : List PV := []
structure Gr where
 is : Bool
 bit : Int
@[reducible] def Gr.cells (v : Gr) : List PV := [.bool v.is, .int .i64 v.bit]
end
abbrev Qky (v : Yn) (l : List AV) : List AV := iI v.Proto :: iI v.Kind :: iS v.Topic :: iS v.Payload :: iI v.QoS :: .p (.bool v.Retain) :: .p (.bool v.Dup) :: iI v.ID :: .p (.slice 4 (Q6 Q1.cells v.Props)) :: iI v.Type' :: .p (.slice 2 (Q6 Q1g.cells v.Hops)) :: iI v.Channel :: iI v.Packet.Kind :: .p (.bool v.Packet.Dup) :: .p (.bool v.Packet.Retain) :: iI v.Packet.QoS :: iI v.Packet.ID :: iS v.Packet.Topic :: iS v.Packet.Payload :: .p (.bool v.Packet.Clean) :: iI v.Packet.KeepAlive :: iS v.Packet.Client :: .p (.bool v.Packet.HasUser) :: iS v.Packet.User :: .p (.bool v.Packet.HasPass) :: iS v.Packet.Pass :: .p (.bool v.Packet.HasWill) :: iS v.Packet.Will.Topic :: iS v.Packet.Will.Payload :: iI v.Packet.Will.QoS :: .p (.bool v.Packet.Will.Retain) :: .p (.slice 4 (Q6 Q1.cells v.Packet.Will.Props)) :: .p (.bool v.Packet.Session) :: iI v.Packet.Code :: .p (.slice 1 (Q6 (cI .i64) v.Packet.Codes)) :: .p (.slice 5 (Q6 Q2.cells v.Packet.Filters)) :: .p (.slice 4 (Q6 Q1.cells v.Packet.Props)) :: iI v.Msg.Type' :: .p (.bool v.Msg.Flags.Dup) :: iI v.Msg.Flags.QoS :: .p (.bool v.Msg.Flags.Retain) :: .p (.bool v.Msg.Flags.Will) :: .p (.bool v.Msg.Flags.Clean) :: iI v.Msg.Flags.Type' :: iI v.Msg.Gateway :: iI v.Msg.Radius :: iI v.Msg.Time :: .p (.bool v.Msg.Timed) :: iI v.Msg.TopicID :: iI v.Msg.MsgID :: iI v.Msg.Code :: iS v.Msg.Name :: iS v.Msg.Data :: iI v.Frame.Type' :: iI v.Frame.Channel :: iS v.Frame.Ext :: .p (.slice 4 (Q5.rows v.Frame.Values)) :: l
abbrev Vt (v : Q3) (l : List AV) : List AV := iI v.Kind :: .p (.bool v.Dup) :: .p (.bool v.Retain) :: iI v.QoS :: iI v.ID :: iS v.Topic :: iS v.Payload :: .p (.bool v.Clean) :: iI v.KeepAlive :: iS v.Client :: .p (.bool v.HasUser) :: iS v.User :: .p (.bool v.HasPass) :: iS v.Pass :: .p (.bool v.HasWill) :: iS v.Will.Topic :: iS v.Will.Payload :: iI v.Will.QoS :: .p (.bool v.Will.Retain) :: .p (.slice 4 (Q6 Q1.cells v.Will.Props)) :: .p (.bool v.Session) :: iI v.Code :: .p (.slice 1 (Q6 (cI .i64) v.Codes)) :: .p (.slice 5 (Q6 Q2.cells v.Filters)) :: .p (.slice 4 (Q6 Q1.cells v.Props)) :: l
abbrev Qor (v : Qfx) (l : List AV) : List AV := iI v.Type' :: .p (.bool v.Flags.Dup) :: iI v.Flags.QoS :: .p (.bool v.Flags.Retain) :: .p (.bool v.Flags.Will) :: .p (.bool v.Flags.Clean) :: iI v.Flags.Type' :: iI v.Gateway :: iI v.Radius :: iI v.Time :: .p (.bool v.Timed) :: iI v.TopicID :: iI v.MsgID :: iI v.Code :: iS v.Name :: iS v.Data :: l
abbrev Q7k (v : Yn) (s0 s1 s2 s3 s4 s5 s6 : AV) (l : List AV) : List AV := iI v.Proto :: iI v.Kind :: iS v.Topic :: iS v.Payload :: iI v.QoS :: .p (.bool v.Retain) :: .p (.bool v.Dup) :: iI v.ID :: s0 :: iI v.Type' :: s1 :: iI v.Channel :: iI v.Packet.Kind :: .p (.bool v.Packet.Dup) :: .p (.bool v.Packet.Retain) :: iI v.Packet.QoS :: iI v.Packet.ID :: iS v.Packet.Topic :: iS v.Packet.Payload :: .p (.bool v.Packet.Clean) :: iI v.Packet.KeepAlive :: iS v.Packet.Client :: .p (.bool v.Packet.HasUser) :: iS v.Packet.User :: .p (.bool v.Packet.HasPass) :: iS v.Packet.Pass :: .p (.bool v.Packet.HasWill) :: iS v.Packet.Will.Topic :: iS v.Packet.Will.Payload :: iI v.Packet.Will.QoS :: .p (.bool v.Packet.Will.Retain) :: s2 :: .p (.bool v.Packet.Session) :: iI v.Packet.Code :: s3 :: s4 :: s5 :: iI v.Msg.Type' :: .p (.bool v.Msg.Flags.Dup) :: iI v.Msg.Flags.QoS :: .p (.bool v.Msg.Flags.Retain) :: .p (.bool v.Msg.Flags.Will) :: .p (.bool v.Msg.Flags.Clean) :: iI v.Msg.Flags.Type' :: iI v.Msg.Gateway :: iI v.Msg.Radius :: iI v.Msg.Time :: .p (.bool v.Msg.Timed) :: iI v.Msg.TopicID :: iI v.Msg.MsgID :: iI v.Msg.Code :: iS v.Msg.Name :: iS v.Msg.Data :: iI v.Frame.Type' :: iI v.Frame.Channel :: iS v.Frame.Ext :: s6 :: l
abbrev Qga (v : Yn) (s0 s1 s2 s3 s4 s5 s6 : AV) : List AV := [.p (.int .i64 v.Proto), .p (.int .i64 v.Kind), .p (.str v.Topic), .p (.str v.Payload), .p (.int .i64 v.QoS), .p (.bool v.Retain), .p (.bool v.Dup), .p (.int .i64 v.ID), s0, .p (.int .i64 v.Type'), s1, .p (.int .i64 v.Channel), .p (.int .i64 v.Packet.Kind), .p (.bool v.Packet.Dup), .p (.bool v.Packet.Retain), .p (.int .i64 v.Packet.QoS), .p (.int .i64 v.Packet.ID), .p (.str v.Packet.Topic), .p (.str v.Packet.Payload), .p (.bool v.Packet.Clean), .p (.int .i64 v.Packet.KeepAlive), .p (.str v.Packet.Client), .p (.bool v.Packet.HasUser), .p (.str v.Packet.User), .p (.bool v.Packet.HasPass), .p (.str v.Packet.Pass), .p (.bool v.Packet.HasWill), .p (.str v.Packet.Will.Topic), .p (.str v.Packet.Will.Payload), .p (.int .i64 v.Packet.Will.QoS), .p (.bool v.Packet.Will.Retain), s2, .p (.bool v.Packet.Session), .p (.int .i64 v.Packet.Code), s3, s4, s5, .p (.int .i64 v.Msg.Type'), .p (.bool v.Msg.Flags.Dup), .p (.int .i64 v.Msg.Flags.QoS), .p (.bool v.Msg.Flags.Retain), .p (.bool v.Msg.Flags.Will), .p (.bool v.Msg.Flags.Clean), .p (.int .i64 v.Msg.Flags.Type'), .p (.int .i64 v.Msg.Gateway), .p (.int .i64 v.Msg.Radius), .p (.int .i64 v.Msg.Time), .p (.bool v.Msg.Timed), .p (.int .i64 v.Msg.TopicID), .p (.int .i64 v.Msg.MsgID), .p (.int .i64 v.Msg.Code), .p (.str v.Msg.Name), .p (.str v.Msg.Data), .p (.int .i64 v.Frame.Type'), .p (.int .i64 v.Frame.Channel), .p (.str v.Frame.Ext), s6]
abbrev Q5d (v : Yn) (s0 s1 s2 s3 s4 s5 s6 : AV) : List AV := [iI v.Proto, iI v.Kind, iS v.Topic, iS v.Payload, iI v.QoS, .p (.bool v.Retain), .p (.bool v.Dup), iI v.ID, s0, iI v.Type', s1, iI v.Channel, iI v.Packet.Kind, .p (.bool v.Packet.Dup), .p (.bool v.Packet.Retain), iI v.Packet.QoS, iI v.Packet.ID, iS v.Packet.Topic, iS v.Packet.Payload, .p (.bool v.Packet.Clean), iI v.Packet.KeepAlive, iS v.Packet.Client, .p (.bool v.Packet.HasUser), iS v.Packet.User, .p (.bool v.Packet.HasPass), iS v.Packet.Pass, .p (.bool v.Packet.HasWill), iS v.Packet.Will.Topic, iS v.Packet.Will.Payload, iI v.Packet.Will.QoS, .p (.bool v.Packet.Will.Retain), s2, .p (.bool v.Packet.Session), iI v.Packet.Code, s3, s4, s5, iI v.Msg.Type', .p (.bool v.Msg.Flags.Dup), iI v.Msg.Flags.QoS, .p (.bool v.Msg.Flags.Retain), .p (.bool v.Msg.Flags.Will), .p (.bool v.Msg.Flags.Clean), iI v.Msg.Flags.Type', iI v.Msg.Gateway, iI v.Msg.Radius, iI v.Msg.Time, .p (.bool v.Msg.Timed), iI v.Msg.TopicID, iI v.Msg.MsgID, iI v.Msg.Code, iS v.Msg.Name, iS v.Msg.Data, iI v.Frame.Type', iI v.Frame.Channel, iS v.Frame.Ext, s6]
abbrev Qj5 (v : Q3) (s0 s1 s2 s3 : AV) (l : List AV) : List AV := iI v.Kind :: .p (.bool v.Dup) :: .p (.bool v.Retain) :: iI v.QoS :: iI v.ID :: iS v.Topic :: iS v.Payload :: .p (.bool v.Clean) :: iI v.KeepAlive :: iS v.Client :: .p (.bool v.HasUser) :: iS v.User :: .p (.bool v.HasPass) :: iS v.Pass :: .p (.bool v.HasWill) :: iS v.Will.Topic :: iS v.Will.Payload :: iI v.Will.QoS :: .p (.bool v.Will.Retain) :: s0 :: .p (.bool v.Session) :: iI v.Code :: s1 :: s2 :: s3 :: l
abbrev Qis (v : Q3) (s0 s1 s2 s3 : AV) : List AV := [.p (.int .i64 v.Kind), .p (.bool v.Dup), .p (.bool v.Retain), .p (.int .i64 v.QoS), .p (.int .i64 v.ID), .p (.str v.Topic), .p (.str v.Payload), .p (.bool v.Clean), .p (.int .i64 v.KeepAlive), .p (.str v.Client), .p (.bool v.HasUser), .p (.str v.User), .p (.bool v.HasPass), .p (.str v.Pass), .p (.bool v.HasWill), .p (.str v.Will.Topic), .p (.str v.Will.Payload), .p (.int .i64 v.Will.QoS), .p (.bool v.Will.Retain), s0, .p (.bool v.Session), .p (.int .i64 v.Code), s1, s2, s3]
abbrev Qiq (v : Q3) (s0 s1 s2 s3 : AV) : List AV := [iI v.Kind, .p (.bool v.Dup), .p (.bool v.Retain), iI v.QoS, iI v.ID, iS v.Topic, iS v.Payload, .p (.bool v.Clean), iI v.KeepAlive, iS v.Client, .p (.bool v.HasUser), iS v.User, .p (.bool v.HasPass), iS v.Pass, .p (.bool v.HasWill), iS v.Will.Topic, iS v.Will.Payload, iI v.Will.QoS, .p (.bool v.Will.Retain), s0, .p (.bool v.Session), iI v.Code, s1, s2, s3]
theorem f1_ {K : Nat → Prop} {H : List AObj} {a : PV} {xs : List AV} {ys : List PV} (h : FrzL K H xs ys) : FrzL K H (.p a :: xs) (a :: ys) := .cons (.p _) h
theorem f2_ {K : Nat → Prop} {H : List AObj} {a0 a1 : PV} {xs : List AV} {ys : List PV} (h : FrzL K H xs ys) : FrzL K H (.p a0 :: .p a1 :: xs) (a0 :: a1 :: ys) := f1_ (f1_ h)
theorem f4_ {K : Nat → Prop} {H : List AObj} {a0 a1 a2 a3 : PV} {xs : List AV} {ys : List PV} (h : FrzL K H xs ys) : FrzL K H (.p a0 :: .p a1 :: .p a2 :: .p a3 :: xs) (a0 :: a1 :: a2 :: a3 :: ys) := f2_ (f2_ h)
theorem f8_ {K : Nat → Prop} {H : List AObj} {a0 a1 a2 a3 a4 a5 a6 a7 : PV} {xs : List AV} {ys : List PV} (h : FrzL K H xs ys) : FrzL K H (.p a0 :: .p a1 :: .p a2 :: .p a3 :: .p a4 :: .p a5 :: .p a6 :: .p a7 :: xs) (a0 :: a1 :: a2 :: a3 :: a4 :: a5 :: a6 :: a7 :: ys) := f4_ (f4_ h)
theorem Y5 {K : Nat → Prop} {H : List AObj} {a0 a1 a2 a3 a4 a5 a6 a7 a8 a9 a10 a11 a12 a13 a14 a15 : PV} {xs : List AV} {ys : List PV} (h : FrzL K H xs ys) : FrzL K H (.p a0 :: .p a1 :: .p a2 :: .p a3 :: .p a4 :: .p a5 :: .p a6 :: .p a7 :: .p a8 :: .p a9 :: .p a10 :: .p a11 :: .p a12 :: .p a13 :: .p a14 :: .p a15 :: xs) (a0 :: a1 :: a2 :: a3 :: a4 :: a5 :: a6 :: a7 :: a8 :: a9 :: a10 :: a11 :: a12 :: a13 :: a14 :: a15 :: ys) := f8_ (f8_ h)
end Go.Av
