/- The law. Part of a proof of a given statement: for every input the law returns true and the arguments read as before; no condition beyond the given row. -/
import Derived.Test.YtmiobindnojbaaaGreatDoorAvAbb
namespace Go.Av
noncomputable section
structure Qw where
 ID : Int
 N' : Int
 Text : List UInt8
 Value : List UInt8
@[reducible] def Qw.cells (v : Qw) : List PV := [.int .i64 v.ID, .int .u32 v.N', .str v.Text, .str v.Value]
structure W3 where
 Radius : Int
 Node : List UInt8
@[reducible] def W3.cells (v : W3) : List PV := [.int .i64 v.Radius, .str v.Node]
structure Q4z where
 Topic : List UInt8
 Payload : List UInt8
 QoS : Int
 Retain : Bool
 Props : List Qw
@[reducible] def Q4z.cells (v : Q4z) : List PV := [.str v.Topic, .str v.Payload, .int .i64 v.QoS, .bool v.Retain, .slice 4 (Q7 Qw.cells v.Props)]
structure Z2 where
 Topic : List UInt8
 QoS : Int
 NoLocal : Bool
 AsPublished : Bool
 Handling : Int
@[reducible] def Z2.cells (v : Z2) : List PV := [.str v.Topic, .int .i64 v.QoS, .bool v.NoLocal, .bool v.AsPublished, .int .i64 v.Handling]
structure Wl where
 Kind : Int
 Dup : Bool
 Retain : Bool
 QoS : Int
 ID : Int
 Topic : List UInt8
 Payload : List UInt8
 Clean : Bool
 KeepAlive : Int
 Client : List UInt8
 HasUser : Bool
 User : List UInt8
 HasPass : Bool
 Pass : List UInt8
 HasWill : Bool
 Will : Q4z
 Session : Bool
 Code : Int
 Codes : List Int
 Filters : List Z2
 Props : List Qw
@[reducible] def Wl.cells (v : Wl) : List PV := [.int .i64 v.Kind, .bool v.Dup, .bool v.Retain, .int .i64 v.QoS, .int .i64 v.ID, .str v.Topic, .str v.Payload, .bool v.Clean, .int .i64 v.KeepAlive, .str v.Client, .bool v.HasUser, .str v.User, .bool v.HasPass, .str v.Pass, .bool v.HasWill, .str v.Will.Topic, .str v.Will.Payload, .int .i64 v.Will.QoS, .bool v.Will.Retain, .slice 4 (Q7 Qw.cells v.Will.Props), .bool v.Session, .int .i64 v.Code, .slice 1 (Q7 (cI .i64) v.Codes), .slice 5 (Q7 Z2.cells v.Filters), .slice 4 (Q7 Qw.cells v.Props)]
structure Q8c where
 Dup : Bool
 QoS : Int
 Retain : Bool
 Will : Bool
 Clean : Bool
 Type' : Int
@[reducible] def Q8c.cells (v : Q8c) : List PV := [.bool v.Dup, .int .i64 v.QoS, .bool v.Retain, .bool v.Will, .bool v.Clean, .int .i64 v.Type']
structure Qgo where
 Type' : Int
 Flags : Q8c
 Gateway : Int
 Radius : Int
 Time : Int
 Timed : Bool
 TopicID : Int
 MsgID : Int
 Code : Int
 Name : List UInt8
 Data : List UInt8
@[reducible] def Qgo.cells (v : Qgo) : List PV := [.int .i64 v.Type', .bool v.Flags.Dup, .int .i64 v.Flags.QoS, .bool v.Flags.Retain, .bool v.Flags.Will, .bool v.Flags.Clean, .int .i64 v.Flags.Type', .int .i64 v.Gateway, .int .i64 v.Radius, .int .i64 v.Time, .bool v.Timed, .int .i64 v.TopicID, .int .i64 v.MsgID, .int .i64 v.Code, .str v.Name, .str v.Data]
structure Q8 where
 Kind : Int
 N' : Int
 Text : List UInt8
 Items : List Q8
mutual
def Q8.cellsR : Q8 → List PV
 | .mk x0 x1 x2 x3 => [.int .i64 x0, .int .u64 x1, .str x2, .slice 4 (Q8.rows x3)]
def Q8.rows : List Q8 → List (List PV)
 | [] => []
 | v :: l => Q8.cellsR v :: Q8.rows l
end
@[reducible] def Q8.cells (v : Q8) : List PV := [.int .i64 v.Kind, .int .u64 v.N', .str v.Text, .slice 4 (Q8.rows v.Items)]
theorem Q8.cells_eq (v : Q8) : v.cellsR = v.cells := by cases v; simp only [Q8.cellsR, Q8.cells]
theorem Q8.rows_eq (l : List Q8) : Q8.rows l = Q7 Q8.cells l := by
 induction l with
 | nil => simp only [Q8.rows, Q7, List.map_nil]
 | cons v l ih => simp only [Q8.rows, ih, Q7, List.map_cons, Q8.cells_eq]
theorem Q8.xR {P : Program} {Gl : Nat → Option (List PV)} {β : Type} {l : List Q8} {i : Int} {F : Q8 → Option β} {r : β} (h : (idx l i).bind F = some r) {k : List PV → Prop} (hq : ∀ y, F y = some r → k y.cells) : Qgj (EP P Gl) (Q8.rows l) i k := by rw [Q8.rows_eq]; exact Av.xR h hq
theorem Q8.idx_rows {l : List Q8} {i : Int} {y : Q8} (h : idx l i = some y) : idx (Q8.rows l) i = some y.cells := by rw [Q8.rows_eq]; exact Av.idx_rows h
structure Vv where
 Type' : Int
 Channel : Int
 Ext : List UInt8
 Values : List Q8
@[reducible] def Vv.cells (v : Vv) : List PV := [.int .i64 v.Type', .int .i64 v.Channel, .str v.Ext, .slice 4 (Q8.rows v.Values)]
structure Yb where
 Proto : Int
 Kind : Int
 Topic : List UInt8
 Payload : List UInt8
 QoS : Int
 Retain : Bool
 Dup : Bool
 ID : Int
 Props : List Qw
 Type' : Int
 Hops : List W3
 Channel : Int
 Packet : Wl
 Msg : Qgo
 Frame : Vv
@[reducible] def Yb.cells (v : Yb) : List PV := [.int .i64 v.Proto, .int .i64 v.Kind, .str v.Topic, .str v.Payload, .int .i64 v.QoS, .bool v.Retain, .bool v.Dup, .int .i64 v.ID, .slice 4 (Q7 Qw.cells v.Props), .int .i64 v.Type', .slice 2 (Q7 W3.cells v.Hops), .int .i64 v.Channel, .int .i64 v.Packet.Kind, .bool v.Packet.Dup, .bool v.Packet.Retain, .int .i64 v.Packet.QoS, .int .i64 v.Packet.ID, .str v.Packet.Topic, .str v.Packet.Payload, .bool v.Packet.Clean, .int .i64 v.Packet.KeepAlive, .str v.Packet.Client, .bool v.Packet.HasUser, .str v.Packet.User, .bool v.Packet.HasPass, .str v.Packet.Pass, .bool v.Packet.HasWill, .str v.Packet.Will.Topic, .str v.Packet.Will.Payload, .int .i64 v.Packet.Will.QoS, .bool v.Packet.Will.Retain, .slice 4 (Q7 Qw.cells v.Packet.Will.Props), .bool v.Packet.Session, .int .i64 v.Packet.Code, .slice 1 (Q7 (cI .i64) v.Packet.Codes), .slice 5 (Q7 Z2.cells v.Packet.Filters), .slice 4 (Q7 Qw.cells v.Packet.Props), .int .i64 v.Msg.Type', .bool v.Msg.Flags.Dup, .int .i64 v.Msg.Flags.QoS, .bool v.Msg.Flags.Retain, .bool v.Msg.Flags.Will, .bool v.Msg.Flags.Clean, .int .i64 v.Msg.Flags.Type', .int .i64 v.Msg.Gateway, .int .i64 v.Msg.Radius, .int .i64 v.Msg.Time, .bool v.Msg.Timed, .int .i64 v.Msg.TopicID, .int .i64 v.Msg.MsgID, .int .i64 v.Msg.Code, .str v.Msg.Name, .str v.Msg.Data, .int .i64 v.Frame.Type', .int .i64 v.Frame.Channel, .str v.Frame.Ext, .slice 4 (Q8.rows v.Frame.Values)]
structure Xt where
 text : List UInt8
@[reducible] def Xt.cells (v : Xt) : List PV := [.str v.text]
structure Uo where
 Hops : List W3
 Msg : Qgo
@[reducible] def Uo.cells (v : Uo) : List PV := [.slice 2 (Q7 W3.cells v.Hops), .int .i64 v.Msg.Type', .bool v.Msg.Flags.Dup, .int .i64 v.Msg.Flags.QoS, .bool v.Msg.Flags.Retain, .bool v.Msg.Flags.Will, .bool v.Msg.Flags.Clean, .int .i64 v.Msg.Flags.Type', .int .i64 v.Msg.Gateway, .int .i64 v.Msg.Radius, .int .i64 v.Msg.Time, .bool v.Msg.Timed, .int .i64 v.Msg.TopicID, .int .i64 v.Msg.MsgID, .int .i64 v.Msg.Code, .str v.Msg.Name, .str v.Msg.Data]
structure V9 where
 MaxPacket : Int
 MaxDepth : Int
@[reducible] def V9.cells (v : V9) : List PV := [.int .i64 v.MaxPacket, .int .i64 v.MaxDepth]
structure Q1w where
 text : List UInt8
 at' : Int
 err : Int
@[reducible] def Q1w.cells (v : Q1w) : List PV := [.str v.text, .int .i64 v.at', .int .i64 v.err]
structure Jl where
 kind : Int
 qos : Int
 id : Int
 alive : Int
 code : Int
 dup : Bool
 retain : Bool
 clean : Bool
 user : Bool
 pass : Bool
 will : Bool
 again : Bool
 topic : List UInt8
 payload : List UInt8
 client : List UInt8
 name : List UInt8
 word : List UInt8
@[reducible] def Jl.cells (v : Jl) : List PV := [.int .i64 v.kind, .int .i64 v.qos, .int .i64 v.id, .int .i64 v.alive, .int .i64 v.code, .bool v.dup, .bool v.retain, .bool v.clean, .bool v.user, .bool v.pass, .bool v.will, .bool v.again, .str v.topic, .str v.payload, .str v.client, .str v.name, .str v.word]
structure Qg where
 shape : Int
 kinds : Int
 least : Int
 most : Int
@[reducible] def Qg.cells (v : Qg) : List PV := [.int .i64 v.shape, .int .i64 v.kinds, .int .u32 v.least, .int .u32 v.most]
end
end Go.Av
