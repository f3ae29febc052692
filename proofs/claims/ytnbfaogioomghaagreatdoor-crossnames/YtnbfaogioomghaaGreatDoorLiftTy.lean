/- Part of the proof of CrossNames: for every input the law returns true; no condition. -/
import Derived.Test.YtnbfaogioomghaaGreatDoorAvAbb
namespace Go.Av
noncomputable section
structure Q1a where
 text : List UInt8
@[reducible] def Q1a.cells (v : Q1a) : List PV := [.str v.text]
structure Yq where
 MaxPacket : Int
 MaxDepth : Int
@[reducible] def Yq.cells (v : Yq) : List PV := [.int .i64 v.MaxPacket, .int .i64 v.MaxDepth]
structure Qgu where
 Radius : Int
 Node : List UInt8
@[reducible] def Qgu.cells (v : Qgu) : List PV := [.int .i64 v.Radius, .str v.Node]
structure Qbd where
 Dup : Bool
 QoS : Int
 Retain : Bool
 Will : Bool
 Clean : Bool
 Type' : Int
@[reducible] def Qbd.cells (v : Qbd) : List PV := [.bool v.Dup, .int .i64 v.QoS, .bool v.Retain, .bool v.Will, .bool v.Clean, .int .i64 v.Type']
structure Q04 where
 text : List UInt8
 at' : Int
 err : Int
@[reducible] def Q04.cells (v : Q04) : List PV := [.str v.text, .int .i64 v.at', .int .i64 v.err]
structure Qgw where
 Type' : Int
 Flags : Qbd
 Gateway : Int
 Radius : Int
 Time : Int
 Timed : Bool
 TopicID : Int
 MsgID : Int
 Code : Int
 Name : List UInt8
 Data : List UInt8
@[reducible] def Qgw.cells (v : Qgw) : List PV := [.int .i64 v.Type', .bool v.Flags.Dup, .int .i64 v.Flags.QoS, .bool v.Flags.Retain, .bool v.Flags.Will, .bool v.Flags.Clean, .int .i64 v.Flags.Type', .int .i64 v.Gateway, .int .i64 v.Radius, .int .i64 v.Time, .bool v.Timed, .int .i64 v.TopicID, .int .i64 v.MsgID, .int .i64 v.Code, .str v.Name, .str v.Data]
structure Q60 where
 Hops : List Qgu
 Msg : Qgw
@[reducible] def Q60.cells (v : Q60) : List PV := [.slice 2 (Zc Qgu.cells v.Hops), .int .i64 v.Msg.Type', .bool v.Msg.Flags.Dup, .int .i64 v.Msg.Flags.QoS, .bool v.Msg.Flags.Retain, .bool v.Msg.Flags.Will, .bool v.Msg.Flags.Clean, .int .i64 v.Msg.Flags.Type', .int .i64 v.Msg.Gateway, .int .i64 v.Msg.Radius, .int .i64 v.Msg.Time, .bool v.Msg.Timed, .int .i64 v.Msg.TopicID, .int .i64 v.Msg.MsgID, .int .i64 v.Msg.Code, .str v.Msg.Name, .str v.Msg.Data]
structure Q0m where
 ID : Int
 N' : Int
 Text : List UInt8
 Value : List UInt8
@[reducible] def Q0m.cells (v : Q0m) : List PV := [.int .i64 v.ID, .int .u32 v.N', .str v.Text, .str v.Value]
structure Qfa where
 Topic : List UInt8
 Payload : List UInt8
 QoS : Int
 Retain : Bool
 Props : List Q0m
@[reducible] def Qfa.cells (v : Qfa) : List PV := [.str v.Topic, .str v.Payload, .int .i64 v.QoS, .bool v.Retain, .slice 4 (Zc Q0m.cells v.Props)]
structure Q0j where
 Topic : List UInt8
 QoS : Int
 NoLocal : Bool
 AsPublished : Bool
 Handling : Int
@[reducible] def Q0j.cells (v : Q0j) : List PV := [.str v.Topic, .int .i64 v.QoS, .bool v.NoLocal, .bool v.AsPublished, .int .i64 v.Handling]
structure Q4o where
 Kind : Int
 Dup : Bool
 Retain : Bool
 QoS : Int
 ID : Int
 Topic : List UInt8
 Payload : List UInt8
 Clean : Bool
 KeepAlive : Int
 Client : List UInt8
 HasUser : Bool
 User : List UInt8
 HasPass : Bool
 Pass : List UInt8
 HasWill : Bool
 Will : Qfa
 Session : Bool
 Code : Int
 Codes : List Int
 Filters : List Q0j
 Props : List Q0m
@[reducible] def Q4o.cells (v : Q4o) : List PV := [.int .i64 v.Kind, .bool v.Dup, .bool v.Retain, .int .i64 v.QoS, .int .i64 v.ID, .str v.Topic, .str v.Payload, .bool v.Clean, .int .i64 v.KeepAlive, .str v.Client, .bool v.HasUser, .str v.User, .bool v.HasPass, .str v.Pass, .bool v.HasWill, .str v.Will.Topic, .str v.Will.Payload, .int .i64 v.Will.QoS, .bool v.Will.Retain, .slice 4 (Zc Q0m.cells v.Will.Props), .bool v.Session, .int .i64 v.Code, .slice 1 (Zc (cI .i64) v.Codes), .slice 5 (Zc Q0j.cells v.Filters), .slice 4 (Zc Q0m.cells v.Props)]
structure Q2 where
 Kind : Int
 N' : Int
 Text : List UInt8
 Items : List Q2
mutual
def Q2.cellsR : Q2 → List PV
 | .mk x0 x1 x2 x3 => [.int .i64 x0, .int .u64 x1, .str x2, .slice 4 (Q2.rows x3)]
def Q2.rows : List Q2 → List (List PV)
 | [] => []
 | v :: l => Q2.cellsR v :: Q2.rows l
end
@[reducible] def Q2.cells (v : Q2) : List PV := [.int .i64 v.Kind, .int .u64 v.N', .str v.Text, .slice 4 (Q2.rows v.Items)]
theorem Q2.cells_eq (v : Q2) : v.cellsR = v.cells := by cases v; simp only [Q2.cellsR, Q2.cells]
theorem Q2.rows_eq (l : List Q2) : Q2.rows l = Zc Q2.cells l := by
 induction l with
 | nil => simp only [Q2.rows, Zc, Bh]
 | cons v l ih => simp only [Q2.rows, ih, Zc, Nf, Q2.cells_eq]
theorem Q2.frz_own {K : Nat → Prop} {H : List AObj} {a n : Nat} {l : List Q2} (ho : H[a]? = some (.cells (Wg Q2.cells l))) (hk : K a) (hn : n = l.length) : Frz K H (.slice 4 a 0 n) (.slice 4 (Q2.rows l)) := by rw [Q2.rows_eq]; exact Av.frz_own (c := Q2.cells) (fun _ => rfl) ho hk hn
theorem Q2.xR {P : Program} {Gl : Nat → Option (List PV)} {β : Type} {l : List Q2} {i : Int} {F : Q2 → Option β} {r : β} (h : (idx l i).bind F = some r) {k : List PV → Prop} (hq : ∀ y, F y = some r → k y.cells) : Qd3 (EP P Gl) (Q2.rows l) i k := by rw [Q2.rows_eq]; exact Av.xR h hq
theorem Q2.idx_rows {l : List Q2} {i : Int} {y : Q2} (h : idx l i = some y) : idx (Q2.rows l) i = some y.cells := by rw [Q2.rows_eq]; exact Av.idx_rows h
structure Yd where
 Type' : Int
 Channel : Int
 Ext : List UInt8
 Values : List Q2
@[reducible] def Yd.cells (v : Yd) : List PV := [.int .i64 v.Type', .int .i64 v.Channel, .str v.Ext, .slice 4 (Q2.rows v.Values)]
structure Z3 where
 Proto : Int
 Kind : Int
 Topic : List UInt8
 Payload : List UInt8
 QoS : Int
 Retain : Bool
 Dup : Bool
 ID : Int
 Props : List Q0m
 Type' : Int
 Hops : List Qgu
 Channel : Int
 Packet : Q4o
 Msg : Qgw
 Frame : Yd
@[reducible] def Z3.cells (v : Z3) : List PV := [.int .i64 v.Proto, .int .i64 v.Kind, .str v.Topic, .str v.Payload, .int .i64 v.QoS, .bool v.Retain, .bool v.Dup, .int .i64 v.ID, .slice 4 (Zc Q0m.cells v.Props), .int .i64 v.Type', .slice 2 (Zc Qgu.cells v.Hops), .int .i64 v.Channel, .int .i64 v.Packet.Kind, .bool v.Packet.Dup, .bool v.Packet.Retain, .int .i64 v.Packet.QoS, .int .i64 v.Packet.ID, .str v.Packet.Topic, .str v.Packet.Payload, .bool v.Packet.Clean, .int .i64 v.Packet.KeepAlive, .str v.Packet.Client, .bool v.Packet.HasUser, .str v.Packet.User, .bool v.Packet.HasPass, .str v.Packet.Pass, .bool v.Packet.HasWill, .str v.Packet.Will.Topic, .str v.Packet.Will.Payload, .int .i64 v.Packet.Will.QoS, .bool v.Packet.Will.Retain, .slice 4 (Zc Q0m.cells v.Packet.Will.Props), .bool v.Packet.Session, .int .i64 v.Packet.Code, .slice 1 (Zc (cI .i64) v.Packet.Codes), .slice 5 (Zc Q0j.cells v.Packet.Filters), .slice 4 (Zc Q0m.cells v.Packet.Props), .int .i64 v.Msg.Type', .bool v.Msg.Flags.Dup, .int .i64 v.Msg.Flags.QoS, .bool v.Msg.Flags.Retain, .bool v.Msg.Flags.Will, .bool v.Msg.Flags.Clean, .int .i64 v.Msg.Flags.Type', .int .i64 v.Msg.Gateway, .int .i64 v.Msg.Radius, .int .i64 v.Msg.Time, .bool v.Msg.Timed, .int .i64 v.Msg.TopicID, .int .i64 v.Msg.MsgID, .int .i64 v.Msg.Code, .str v.Msg.Name, .str v.Msg.Data, .int .i64 v.Frame.Type', .int .i64 v.Frame.Channel, .str v.Frame.Ext, .slice 4 (Q2.rows v.Frame.Values)]
structure Q3w where
 kind : Int
 qos : Int
 id : Int
 alive : Int
 code : Int
 dup : Bool
 retain : Bool
 clean : Bool
 user : Bool
 pass : Bool
 will : Bool
 again : Bool
 topic : List UInt8
 payload : List UInt8
 client : List UInt8
 name : List UInt8
 word : List UInt8
@[reducible] def Q3w.cells (v : Q3w) : List PV := [.int .i64 v.kind, .int .i64 v.qos, .int .i64 v.id, .int .i64 v.alive, .int .i64 v.code, .bool v.dup, .bool v.retain, .bool v.clean, .bool v.user, .bool v.pass, .bool v.will, .bool v.again, .str v.topic, .str v.payload, .str v.client, .str v.name, .str v.word]
structure Q3z where
 shape : Int
 kinds : Int
 least : Int
 most : Int
@[reducible] def Q3z.cells (v : Q3z) : List PV := [.int .i64 v.shape, .int .i64 v.kinds, .int .u32 v.least, .int .u32 v.most]
structure Gn where
@[reducible] def Gn.cells (v : Gn) : List PV := []
structure Q94 where
 is : Bool
 bit : Int
@[reducible] def Q94.cells (v : Q94) : List PV := [.bool v.is, .int .i64 v.bit]
structure Q1z where
 version : Int
 p : Q4o
@[reducible] def Q1z.cells (v : Q1z) : List PV := [.int .i64 v.version, .int .i64 v.p.Kind, .bool v.p.Dup, .bool v.p.Retain, .int .i64 v.p.QoS, .int .i64 v.p.ID, .str v.p.Topic, .str v.p.Payload, .bool v.p.Clean, .int .i64 v.p.KeepAlive, .str v.p.Client, .bool v.p.HasUser, .str v.p.User, .bool v.p.HasPass, .str v.p.Pass, .bool v.p.HasWill, .str v.p.Will.Topic, .str v.p.Will.Payload, .int .i64 v.p.Will.QoS, .bool v.p.Will.Retain, .slice 4 (Zc Q0m.cells v.p.Will.Props), .bool v.p.Session, .int .i64 v.p.Code, .slice 1 (Zc (cI .i64) v.p.Codes), .slice 5 (Zc Q0j.cells v.p.Filters), .slice 4 (Zc Q0m.cells v.p.Props)]
structure Jv where
@[reducible] def Jv.cells (v : Jv) : List PV := []
structure Q6n where
 Code : Int
 Kind : Int
 Width : Int
 Sized : Bool
 Items : Bool
@[reducible] def Q6n.cells (v : Q6n) : List PV := [.int .i64 v.Code, .int .i64 v.Kind, .int .i64 v.Width, .bool v.Sized, .bool v.Items]
structure Q0 where
 v : Q2
 kids : List Q0
 element : Int
 inner : Int
mutual
def Q0.cellsR : Q0 → List PV
 | .mk x0 x1 x2 x3 => [.int .i64 x0.Kind, .int .u64 x0.N', .str x0.Text, .slice 4 (Q2.rows x0.Items), .slice 7 (Q0.rows x1), .int .i64 x2, .int .i64 x3]
def Q0.rows : List Q0 → List (List PV)
 | [] => []
 | v :: l => Q0.cellsR v :: Q0.rows l
end
@[reducible] def Q0.cells (v : Q0) : List PV := [.int .i64 v.v.Kind, .int .u64 v.v.N', .str v.v.Text, .slice 4 (Q2.rows v.v.Items), .slice 7 (Q0.rows v.kids), .int .i64 v.element, .int .i64 v.inner]
theorem Q0.cells_eq (v : Q0) : v.cellsR = v.cells := by cases v; simp only [Q0.cellsR, Q0.cells]
theorem Q0.rows_eq (l : List Q0) : Q0.rows l = Zc Q0.cells l := by
 induction l with
 | nil => simp only [Q0.rows, Zc, Bh]
 | cons v l ih => simp only [Q0.rows, ih, Zc, Nf, Q0.cells_eq]
theorem Q0.frz_own {K : Nat → Prop} {H : List AObj} {a n : Nat} {l : List Q0} (ho : H[a]? = some (.cells (Wg Q0.cells l))) (hk : K a) (hn : n = l.length) : Frz K H (.slice 7 a 0 n) (.slice 7 (Q0.rows l)) := by rw [Q0.rows_eq]; exact Av.frz_own (c := Q0.cells) (fun _ => rfl) ho hk hn
theorem Q0.xR {P : Program} {Gl : Nat → Option (List PV)} {β : Type} {l : List Q0} {i : Int} {F : Q0 → Option β} {r : β} (h : (idx l i).bind F = some r) {k : List PV → Prop} (hq : ∀ y, F y = some r → k y.cells) : Qd3 (EP P Gl) (Q0.rows l) i k := by rw [Q0.rows_eq]; exact Av.xR h hq
theorem Q0.idx_rows {l : List Q0} {i : Int} {y : Q0} (h : idx l i = some y) : idx (Q0.rows l) i = some y.cells := by rw [Q0.rows_eq]; exact Av.idx_rows h
structure Qf4 where
 do' : Int
 m : Qgw
 out : List Int
 bad : Bool
end
theorem f1_ {K : Nat → Prop} {H : List AObj} {a : PV} {xs : List AV} {ys : List PV} (h : FrzL K H xs ys) : FrzL K H (.p a :: xs) (a :: ys) := .cons (.p _) h
theorem f2_ {K : Nat → Prop} {H : List AObj} {a0 a1 : PV} {xs : List AV} {ys : List PV} (h : FrzL K H xs ys) : FrzL K H (.p a0 :: .p a1 :: xs) (a0 :: a1 :: ys) := f1_ (f1_ h)
theorem f4_ {K : Nat → Prop} {H : List AObj} {a0 a1 a2 a3 : PV} {xs : List AV} {ys : List PV} (h : FrzL K H xs ys) : FrzL K H (.p a0 :: .p a1 :: .p a2 :: .p a3 :: xs) (a0 :: a1 :: a2 :: a3 :: ys) := f2_ (f2_ h)
theorem f8_ {K : Nat → Prop} {H : List AObj} {a0 a1 a2 a3 a4 a5 a6 a7 : PV} {xs : List AV} {ys : List PV} (h : FrzL K H xs ys) : FrzL K H (.p a0 :: .p a1 :: .p a2 :: .p a3 :: .p a4 :: .p a5 :: .p a6 :: .p a7 :: xs) (a0 :: a1 :: a2 :: a3 :: a4 :: a5 :: a6 :: a7 :: ys) := f4_ (f4_ h)
theorem Qzr {K : Nat → Prop} {H : List AObj} {a0 a1 a2 a3 a4 a5 a6 a7 a8 a9 a10 a11 a12 a13 a14 a15 : PV} {xs : List AV} {ys : List PV} (h : FrzL K H xs ys) : FrzL K H (.p a0 :: .p a1 :: .p a2 :: .p a3 :: .p a4 :: .p a5 :: .p a6 :: .p a7 :: .p a8 :: .p a9 :: .p a10 :: .p a11 :: .p a12 :: .p a13 :: .p a14 :: .p a15 :: xs) (a0 :: a1 :: a2 :: a3 :: a4 :: a5 :: a6 :: a7 :: a8 :: a9 :: a10 :: a11 :: a12 :: a13 :: a14 :: a15 :: ys) := f8_ (f8_ h)
end Go.Av
