/- The law. Part of a proof of a given statement: for every input the law returns true and the arguments read as before; no condition beyond the given row. -/
import Derived.Test.YtmofajpflckpmaaGreatDoorAvAbb
namespace Go.Av
noncomputable section
structure X3 where
 text : List UInt8
@[reducible] def X3.cells (v : X3) : List PV := [.str v.text]
structure Z9 where
 ID : Int
 N' : Int
 Text : List UInt8
 Value : List UInt8
@[reducible] def Z9.cells (v : Z9) : List PV := [.int .i64 v.ID, .int .u32 v.N', .str v.Text, .str v.Value]
structure W1 where
 Radius : Int
 Node : List UInt8
@[reducible] def W1.cells (v : W1) : List PV := [.int .i64 v.Radius, .str v.Node]
structure Q33 where
 Topic : List UInt8
 Payload : List UInt8
 QoS : Int
 Retain : Bool
 Props : List Z9
@[reducible] def Q33.cells (v : Q33) : List PV := [.str v.Topic, .str v.Payload, .int .i64 v.QoS, .bool v.Retain, .slice 4 (Qe Z9.cells v.Props)]
structure Zo where
 Topic : List UInt8
 QoS : Int
 NoLocal : Bool
 AsPublished : Bool
 Handling : Int
@[reducible] def Zo.cells (v : Zo) : List PV := [.str v.Topic, .int .i64 v.QoS, .bool v.NoLocal, .bool v.AsPublished, .int .i64 v.Handling]
structure Wg where
 Kind : Int
 Dup : Bool
 Retain : Bool
 QoS : Int
 ID : Int
 Topic : List UInt8
 Payload : List UInt8
 Clean : Bool
 KeepAlive : Int
 Client : List UInt8
 HasUser : Bool
 User : List UInt8
 HasPass : Bool
 Pass : List UInt8
 HasWill : Bool
 Will : Q33
 Session : Bool
 Code : Int
 Codes : List Int
 Filters : List Zo
 Props : List Z9
@[reducible] def Wg.cells (v : Wg) : List PV := [.int .i64 v.Kind, .bool v.Dup, .bool v.Retain, .int .i64 v.QoS, .int .i64 v.ID, .str v.Topic, .str v.Payload, .bool v.Clean, .int .i64 v.KeepAlive, .str v.Client, .bool v.HasUser, .str v.User, .bool v.HasPass, .str v.Pass, .bool v.HasWill, .str v.Will.Topic, .str v.Will.Payload, .int .i64 v.Will.QoS, .bool v.Will.Retain, .slice 4 (Qe Z9.cells v.Will.Props), .bool v.Session, .int .i64 v.Code, .slice 1 (Qe (cI .i64) v.Codes), .slice 5 (Qe Zo.cells v.Filters), .slice 4 (Qe Z9.cells v.Props)]
structure Q4m where
 Dup : Bool
 QoS : Int
 Retain : Bool
 Will : Bool
 Clean : Bool
 Type' : Int
@[reducible] def Q4m.cells (v : Q4m) : List PV := [.bool v.Dup, .int .i64 v.QoS, .bool v.Retain, .bool v.Will, .bool v.Clean, .int .i64 v.Type']
structure Qg5 where
 Type' : Int
 Flags : Q4m
 Gateway : Int
 Radius : Int
 Time : Int
 Timed : Bool
 TopicID : Int
 MsgID : Int
 Code : Int
 Name : List UInt8
 Data : List UInt8
@[reducible] def Qg5.cells (v : Qg5) : List PV := [.int .i64 v.Type', .bool v.Flags.Dup, .int .i64 v.Flags.QoS, .bool v.Flags.Retain, .bool v.Flags.Will, .bool v.Flags.Clean, .int .i64 v.Flags.Type', .int .i64 v.Gateway, .int .i64 v.Radius, .int .i64 v.Time, .bool v.Timed, .int .i64 v.TopicID, .int .i64 v.MsgID, .int .i64 v.Code, .str v.Name, .str v.Data]
structure Qr where
 Kind : Int
 N' : Int
 Text : List UInt8
 Items : List Qr
mutual
def Qr.cellsR : Qr → List PV
 | .mk x0 x1 x2 x3 => [.int .i64 x0, .int .u64 x1, .str x2, .slice 4 (Qr.rows x3)]
def Qr.rows : List Qr → List (List PV)
 | [] => []
 | v :: l => Qr.cellsR v :: Qr.rows l
end
@[reducible] def Qr.cells (v : Qr) : List PV := [.int .i64 v.Kind, .int .u64 v.N', .str v.Text, .slice 4 (Qr.rows v.Items)]
theorem Qr.cells_eq (v : Qr) : v.cellsR = v.cells := by cases v; simp only [Qr.cellsR, Qr.cells]
theorem Qr.rows_eq (l : List Qr) : Qr.rows l = Qe Qr.cells l := by
 induction l with
 | nil => simp only [Qr.rows, Qe, List.map_nil]
 | cons v l ih => simp only [Qr.rows, ih, Qe, List.map_cons, Qr.cells_eq]
theorem Qr.xR {P : Program} {Gl : Nat → Option (List PV)} {β : Type} {l : List Qr} {i : Int} {F : Qr → Option β} {r : β} (h : (idx l i).bind F = some r) {k : List PV → Prop} (hq : ∀ y, F y = some r → k y.cells) : Qdm (EP P Gl) (Qr.rows l) i k := by rw [Qr.rows_eq]; exact Av.xR h hq
theorem Qr.idx_rows {l : List Qr} {i : Int} {y : Qr} (h : idx l i = some y) : idx (Qr.rows l) i = some y.cells := by rw [Qr.rows_eq]; exact Av.idx_rows h
structure Ut where
 Type' : Int
 Channel : Int
 Ext : List UInt8
 Values : List Qr
@[reducible] def Ut.cells (v : Ut) : List PV := [.int .i64 v.Type', .int .i64 v.Channel, .str v.Ext, .slice 4 (Qr.rows v.Values)]
structure Wq where
 Proto : Int
 Kind : Int
 Topic : List UInt8
 Payload : List UInt8
 QoS : Int
 Retain : Bool
 Dup : Bool
 ID : Int
 Props : List Z9
 Type' : Int
 Hops : List W1
 Channel : Int
 Packet : Wg
 Msg : Qg5
 Frame : Ut
@[reducible] def Wq.cells (v : Wq) : List PV := [.int .i64 v.Proto, .int .i64 v.Kind, .str v.Topic, .str v.Payload, .int .i64 v.QoS, .bool v.Retain, .bool v.Dup, .int .i64 v.ID, .slice 4 (Qe Z9.cells v.Props), .int .i64 v.Type', .slice 2 (Qe W1.cells v.Hops), .int .i64 v.Channel, .int .i64 v.Packet.Kind, .bool v.Packet.Dup, .bool v.Packet.Retain, .int .i64 v.Packet.QoS, .int .i64 v.Packet.ID, .str v.Packet.Topic, .str v.Packet.Payload, .bool v.Packet.Clean, .int .i64 v.Packet.KeepAlive, .str v.Packet.Client, .bool v.Packet.HasUser, .str v.Packet.User, .bool v.Packet.HasPass, .str v.Packet.Pass, .bool v.Packet.HasWill, .str v.Packet.Will.Topic, .str v.Packet.Will.Payload, .int .i64 v.Packet.Will.QoS, .bool v.Packet.Will.Retain, .slice 4 (Qe Z9.cells v.Packet.Will.Props), .bool v.Packet.Session, .int .i64 v.Packet.Code, .slice 1 (Qe (cI .i64) v.Packet.Codes), .slice 5 (Qe Zo.cells v.Packet.Filters), .slice 4 (Qe Z9.cells v.Packet.Props), .int .i64 v.Msg.Type', .bool v.Msg.Flags.Dup, .int .i64 v.Msg.Flags.QoS, .bool v.Msg.Flags.Retain, .bool v.Msg.Flags.Will, .bool v.Msg.Flags.Clean, .int .i64 v.Msg.Flags.Type', .int .i64 v.Msg.Gateway, .int .i64 v.Msg.Radius, .int .i64 v.Msg.Time, .bool v.Msg.Timed, .int .i64 v.Msg.TopicID, .int .i64 v.Msg.MsgID, .int .i64 v.Msg.Code, .str v.Msg.Name, .str v.Msg.Data, .int .i64 v.Frame.Type', .int .i64 v.Frame.Channel, .str v.Frame.Ext, .slice 4 (Qr.rows v.Frame.Values)]
structure Xi where
 MaxPacket : Int
 MaxDepth : Int
@[reducible] def Xi.cells (v : Xi) : List PV := [.int .i64 v.MaxPacket, .int .i64 v.MaxDepth]
structure Q0i where
 text : List UInt8
 at' : Int
 err : Int
@[reducible] def Q0i.cells (v : Q0i) : List PV := [.str v.text, .int .i64 v.at', .int .i64 v.err]
structure Q7b where
 Hops : List W1
 Msg : Qg5
@[reducible] def Q7b.cells (v : Q7b) : List PV := [.slice 2 (Qe W1.cells v.Hops), .int .i64 v.Msg.Type', .bool v.Msg.Flags.Dup, .int .i64 v.Msg.Flags.QoS, .bool v.Msg.Flags.Retain, .bool v.Msg.Flags.Will, .bool v.Msg.Flags.Clean, .int .i64 v.Msg.Flags.Type', .int .i64 v.Msg.Gateway, .int .i64 v.Msg.Radius, .int .i64 v.Msg.Time, .bool v.Msg.Timed, .int .i64 v.Msg.TopicID, .int .i64 v.Msg.MsgID, .int .i64 v.Msg.Code, .str v.Msg.Name, .str v.Msg.Data]
structure Un where
 kind : Int
 qos : Int
 id : Int
 alive : Int
 code : Int
 dup : Bool
 retain : Bool
 clean : Bool
 user : Bool
 pass : Bool
 will : Bool
 again : Bool
 topic : List UInt8
 payload : List UInt8
 client : List UInt8
 name : List UInt8
 word : List UInt8
@[reducible] def Un.cells (v : Un) : List PV := [.int .i64 v.kind, .int .i64 v.qos, .int .i64 v.id, .int .i64 v.alive, .int .i64 v.code, .bool v.dup, .bool v.retain, .bool v.clean, .bool v.user, .bool v.pass, .bool v.will, .bool v.again, .str v.topic, .str v.payload, .str v.client, .str v.name, .str v.word]
structure Qj where
 shape : Int
 kinds : Int
 least : Int
 most : Int
@[reducible] def Qj.cells (v : Qj) : List PV := [.int .i64 v.shape, .int .i64 v.kinds, .int .u32 v.least, .int .u32 v.most]
structure Gv where
@[reducible] def Gv.cells (v : Gv) : List PV := []
structure Gu where
 n' : Int
 size : Int
 done : Bool
 bad : Bool
@[reducible] def Gu.cells (v : Gu) : List PV := [.int .i64 v.n', .int .i64 v.size, .bool v.done, .bool v.bad]
structure Qgp where
 Kind : Int
 Flags : Int
 Length : Int
@[reducible] def Qgp.cells (v : Qgp) : List PV := [.int .i64 v.Kind, .int .i64 v.Flags, .int .i64 v.Length]
structure Q4w where
 version : Int
 h' : Qgp
 body : List UInt8
@[reducible] def Q4w.cells (v : Q4w) : List PV := [.int .i64 v.version, .int .i64 v.h'.Kind, .int .i64 v.h'.Flags, .int .i64 v.h'.Length, .str v.body]
structure Q3e where
 version : Int
 p : Wg
@[reducible] def Q3e.cells (v : Q3e) : List PV := [.int .i64 v.version, .int .i64 v.p.Kind, .bool v.p.Dup, .bool v.p.Retain, .int .i64 v.p.QoS, .int .i64 v.p.ID, .str v.p.Topic, .str v.p.Payload, .bool v.p.Clean, .int .i64 v.p.KeepAlive, .str v.p.Client, .bool v.p.HasUser, .str v.p.User, .bool v.p.HasPass, .str v.p.Pass, .bool v.p.HasWill, .str v.p.Will.Topic, .str v.p.Will.Payload, .int .i64 v.p.Will.QoS, .bool v.p.Will.Retain, .slice 4 (Qe Z9.cells v.p.Will.Props), .bool v.p.Session, .int .i64 v.p.Code, .slice 1 (Qe (cI .i64) v.p.Codes), .slice 5 (Qe Zo.cells v.p.Filters), .slice 4 (Qe Z9.cells v.p.Props)]
structure Q9p where
 is : Bool
 bit : Int
@[reducible] def Q9p.cells (v : Q9p) : List PV := [.bool v.is, .int .i64 v.bit]
structure Qi7 where
 Code : Int
 Kind : Int
 Width : Int
 Sized : Bool
 Items : Bool
@[reducible] def Qi7.cells (v : Qi7) : List PV := [.int .i64 v.Code, .int .i64 v.Kind, .int .i64 v.Width, .bool v.Sized, .bool v.Items]
structure Qd where
 v : Qr
 kids : List Qd
 element : Int
 inner : Int
mutual
def Qd.cellsR : Qd → List PV
 | .mk x0 x1 x2 x3 => [.int .i64 x0.Kind, .int .u64 x0.N', .str x0.Text, .slice 4 (Qr.rows x0.Items), .slice 7 (Qd.rows x1), .int .i64 x2, .int .i64 x3]
def Qd.rows : List Qd → List (List PV)
 | [] => []
 | v :: l => Qd.cellsR v :: Qd.rows l
end
@[reducible] def Qd.cells (v : Qd) : List PV := [.int .i64 v.v.Kind, .int .u64 v.v.N', .str v.v.Text, .slice 4 (Qr.rows v.v.Items), .slice 7 (Qd.rows v.kids), .int .i64 v.element, .int .i64 v.inner]
theorem Qd.cells_eq (v : Qd) : v.cellsR = v.cells := by cases v; simp only [Qd.cellsR, Qd.cells]
theorem Qd.rows_eq (l : List Qd) : Qd.rows l = Qe Qd.cells l := by
 induction l with
 | nil => simp only [Qd.rows, Qe, List.map_nil]
 | cons v l ih => simp only [Qd.rows, ih, Qe, List.map_cons, Qd.cells_eq]
theorem Qd.xR {P : Program} {Gl : Nat → Option (List PV)} {β : Type} {l : List Qd} {i : Int} {F : Qd → Option β} {r : β} (h : (idx l i).bind F = some r) {k : List PV → Prop} (hq : ∀ y, F y = some r → k y.cells) : Qdm (EP P Gl) (Qd.rows l) i k := by rw [Qd.rows_eq]; exact Av.xR h hq
theorem Qd.idx_rows {l : List Qd} {i : Int} {y : Qd} (h : idx l i = some y) : idx (Qd.rows l) i = some y.cells := by rw [Qd.rows_eq]; exact Av.idx_rows h
end
end Go.Av
