/- Part of the proof of FromsnApart: for every input the law returns true; no condition. -/
import Derived.Test.YtjhombimklaciaaGreatDoorAvAbb
namespace Go.Av
noncomputable section
structure Q0 where
 Client : List UInt8
 Name : List UInt8
 ID : Int
@[reducible] def Q0.cells (v : Q0) : List PV := [.str v.Client, .str v.Name, .int .i64 v.ID]
structure Yp where
 Dup : Bool
 QoS : Int
 Retain : Bool
 Will : Bool
 Clean : Bool
 Type' : Int
@[reducible] def Yp.cells (v : Yp) : List PV := [.bool v.Dup, .int .i64 v.QoS, .bool v.Retain, .bool v.Will, .bool v.Clean, .int .i64 v.Type']
structure Um where
 Type' : Int
 Flags : Yp
 Gateway : Int
 Radius : Int
 Time : Int
 Timed : Bool
 TopicID : Int
 MsgID : Int
 Code : Int
 Name : List UInt8
 Data : List UInt8
@[reducible] def Um.cells (v : Um) : List PV := [.int .i64 v.Type', .bool v.Flags.Dup, .int .i64 v.Flags.QoS, .bool v.Flags.Retain, .bool v.Flags.Will, .bool v.Flags.Clean, .int .i64 v.Flags.Type', .int .i64 v.Gateway, .int .i64 v.Radius, .int .i64 v.Time, .bool v.Timed, .int .i64 v.TopicID, .int .i64 v.MsgID, .int .i64 v.Code, .str v.Name, .str v.Data]
structure Uh where
 Radius : Int
 Node : List UInt8
@[reducible] def Uh.cells (v : Uh) : List PV := [.int .i64 v.Radius, .str v.Node]
structure Z9 where
 Hops : List Uh
 Msg : Um
@[reducible] def Z9.cells (v : Z9) : List PV := [.slice 2 (Qd Uh.cells v.Hops), .int .i64 v.Msg.Type', .bool v.Msg.Flags.Dup, .int .i64 v.Msg.Flags.QoS, .bool v.Msg.Flags.Retain, .bool v.Msg.Flags.Will, .bool v.Msg.Flags.Clean, .int .i64 v.Msg.Flags.Type', .int .i64 v.Msg.Gateway, .int .i64 v.Msg.Radius, .int .i64 v.Msg.Time, .bool v.Msg.Timed, .int .i64 v.Msg.TopicID, .int .i64 v.Msg.MsgID, .int .i64 v.Msg.Code, .str v.Msg.Name, .str v.Msg.Data]
structure Z4 where
 ID : Int
 Name : List UInt8
 Fixed : Bool
@[reducible] def Z4.cells (v : Z4) : List PV := [.int .i64 v.ID, .str v.Name, .bool v.Fixed]
structure Q1 where
 client : List UInt8
 l : List Z4
@[reducible] def Q1.cells (v : Q1) : List PV := [.str v.client, .slice 3 (Qd Z4.cells v.l)]
structure Q2 where
 L : List Q1
@[reducible] def Q2.cells (v : Q2) : List PV := [.slice 2 (Qd Q1.cells v.L)]
structure Us where
 MaxPacket : Int
 MaxDepth : Int
@[reducible] def Us.cells (v : Us) : List PV := [.int .i64 v.MaxPacket, .int .i64 v.MaxDepth]
structure Q62 where
 text : List UInt8
 at' : Int
 err : Int
@[reducible] def Q62.cells (v : Q62) : List PV := [.str v.text, .int .i64 v.at', .int .i64 v.err]
structure Jp where
@[reducible] def Jp.cells (v : Jp) : List PV := []
structure G0 where
 ID : Int
 N' : Int
 Text : List UInt8
 Value : List UInt8
@[reducible] def G0.cells (v : G0) : List PV := [.int .i64 v.ID, .int .u32 v.N', .str v.Text, .str v.Value]
structure Q5z where
 Topic : List UInt8
 Payload : List UInt8
 QoS : Int
 Retain : Bool
 Props : List G0
@[reducible] def Q5z.cells (v : Q5z) : List PV := [.str v.Topic, .str v.Payload, .int .i64 v.QoS, .bool v.Retain, .slice 4 (Qd G0.cells v.Props)]
structure Vc where
 Topic : List UInt8
 QoS : Int
 NoLocal : Bool
 AsPublished : Bool
 Handling : Int
@[reducible] def Vc.cells (v : Vc) : List PV := [.str v.Topic, .int .i64 v.QoS, .bool v.NoLocal, .bool v.AsPublished, .int .i64 v.Handling]
structure Xr where
 Kind : Int
 Dup : Bool
 Retain : Bool
 QoS : Int
 ID : Int
 Topic : List UInt8
 Payload : List UInt8
 Clean : Bool
 KeepAlive : Int
 Client : List UInt8
 HasUser : Bool
 User : List UInt8
 HasPass : Bool
 Pass : List UInt8
 HasWill : Bool
 Will : Q5z
 Session : Bool
 Code : Int
 Codes : List Int
 Filters : List Vc
 Props : List G0
@[reducible] def Xr.cells (v : Xr) : List PV := [.int .i64 v.Kind, .bool v.Dup, .bool v.Retain, .int .i64 v.QoS, .int .i64 v.ID, .str v.Topic, .str v.Payload, .bool v.Clean, .int .i64 v.KeepAlive, .str v.Client, .bool v.HasUser, .str v.User, .bool v.HasPass, .str v.Pass, .bool v.HasWill, .str v.Will.Topic, .str v.Will.Payload, .int .i64 v.Will.QoS, .bool v.Will.Retain, .slice 4 (Qd G0.cells v.Will.Props), .bool v.Session, .int .i64 v.Code, .slice 1 (Qd (cI .i64) v.Codes), .slice 5 (Qd Vc.cells v.Filters), .slice 4 (Qd G0.cells v.Props)]
structure Qa where
 Kind : Int
 N' : Int
 Text : List UInt8
 Items : List Qa
mutual
def Qa.cellsR : Qa → List PV
 | .mk x0 x1 x2 x3 => [.int .i64 x0, .int .u64 x1, .str x2, .slice 4 (Qa.rows x3)]
def Qa.rows : List Qa → List (List PV)
 | [] => []
 | v :: l => Qa.cellsR v :: Qa.rows l
end
@[reducible] def Qa.cells (v : Qa) : List PV := [.int .i64 v.Kind, .int .u64 v.N', .str v.Text, .slice 4 (Qa.rows v.Items)]
theorem Qa.cells_eq (v : Qa) : v.cellsR = v.cells := by cases v; simp only [Qa.cellsR, Qa.cells]
theorem Qa.rows_eq (l : List Qa) : Qa.rows l = Qd Qa.cells l := by
 induction l with
 | nil => simp only [Qa.rows, Qd, Cy]
 | cons v l ih => simp only [Qa.rows, ih, Qd, Nf, Qa.cells_eq]
theorem Qa.frz_own {K : Nat → Prop} {H : List AObj} {a n : Nat} {l : List Qa} (ho : H[a]? = some (.cells (Zz Qa.cells l))) (hk : K a) (hn : n = l.length) : Frz K H (.slice 4 a 0 n) (.slice 4 (Qa.rows l)) := by rw [Qa.rows_eq]; exact Av.frz_own (c := Qa.cells) (fun _ => rfl) ho hk hn
theorem Qa.xR {P : Program} {Gl : Nat → Option (List PV)} {β : Type} {l : List Qa} {i : Int} {F : Qa → Option β} {r : β} (h : (idx l i).bind F = some r) {k : List PV → Prop} (hq : ∀ y, F y = some r → k y.cells) : Qn5 (EP P Gl) (Qa.rows l) i k := by rw [Qa.rows_eq]; exact Av.xR h hq
theorem Qa.idx_rows {l : List Qa} {i : Int} {y : Qa} (h : idx l i = some y) : idx (Qa.rows l) i = some y.cells := by rw [Qa.rows_eq]; exact Av.idx_rows h
structure V4 where
 Type' : Int
 Channel : Int
 Ext : List UInt8
 Values : List Qa
@[reducible] def V4.cells (v : V4) : List PV := [.int .i64 v.Type', .int .i64 v.Channel, .str v.Ext, .slice 4 (Qa.rows v.Values)]
structure Wa where
 Proto : Int
 Kind : Int
 Topic : List UInt8
 Payload : List UInt8
 QoS : Int
 Retain : Bool
 Dup : Bool
 ID : Int
 Props : List G0
 Type' : Int
 Hops : List Uh
 Channel : Int
 Packet : Xr
 Msg : Um
 Frame : V4
@[reducible] def Wa.cells (v : Wa) : List PV := [.int .i64 v.Proto, .int .i64 v.Kind, .str v.Topic, .str v.Payload, .int .i64 v.QoS, .bool v.Retain, .bool v.Dup, .int .i64 v.ID, .slice 4 (Qd G0.cells v.Props), .int .i64 v.Type', .slice 2 (Qd Uh.cells v.Hops), .int .i64 v.Channel, .int .i64 v.Packet.Kind, .bool v.Packet.Dup, .bool v.Packet.Retain, .int .i64 v.Packet.QoS, .int .i64 v.Packet.ID, .str v.Packet.Topic, .str v.Packet.Payload, .bool v.Packet.Clean, .int .i64 v.Packet.KeepAlive, .str v.Packet.Client, .bool v.Packet.HasUser, .str v.Packet.User, .bool v.Packet.HasPass, .str v.Packet.Pass, .bool v.Packet.HasWill, .str v.Packet.Will.Topic, .str v.Packet.Will.Payload, .int .i64 v.Packet.Will.QoS, .bool v.Packet.Will.Retain, .slice 4 (Qd G0.cells v.Packet.Will.Props), .bool v.Packet.Session, .int .i64 v.Packet.Code, .slice 1 (Qd (cI .i64) v.Packet.Codes), .slice 5 (Qd Vc.cells v.Packet.Filters), .slice 4 (Qd G0.cells v.Packet.Props), .int .i64 v.Msg.Type', .bool v.Msg.Flags.Dup, .int .i64 v.Msg.Flags.QoS, .bool v.Msg.Flags.Retain, .bool v.Msg.Flags.Will, .bool v.Msg.Flags.Clean, .int .i64 v.Msg.Flags.Type', .int .i64 v.Msg.Gateway, .int .i64 v.Msg.Radius, .int .i64 v.Msg.Time, .bool v.Msg.Timed, .int .i64 v.Msg.TopicID, .int .i64 v.Msg.MsgID, .int .i64 v.Msg.Code, .str v.Msg.Name, .str v.Msg.Data, .int .i64 v.Frame.Type', .int .i64 v.Frame.Channel, .str v.Frame.Ext, .slice 4 (Qa.rows v.Frame.Values)]
structure Q3 where
 do' : Int
 m : Um
 out : List Int
 bad : Bool
end
abbrev Q4y (v : Z9) (l : List AV) : List AV := .p (.slice 2 (Qd Uh.cells v.Hops)) :: iI v.Msg.Type' :: .p (.bool v.Msg.Flags.Dup) :: iI v.Msg.Flags.QoS :: .p (.bool v.Msg.Flags.Retain) :: .p (.bool v.Msg.Flags.Will) :: .p (.bool v.Msg.Flags.Clean) :: iI v.Msg.Flags.Type' :: iI v.Msg.Gateway :: iI v.Msg.Radius :: iI v.Msg.Time :: .p (.bool v.Msg.Timed) :: iI v.Msg.TopicID :: iI v.Msg.MsgID :: iI v.Msg.Code :: iS v.Msg.Name :: iS v.Msg.Data :: l
abbrev Qcu (v : Um) (l : List AV) : List AV := iI v.Type' :: .p (.bool v.Flags.Dup) :: iI v.Flags.QoS :: .p (.bool v.Flags.Retain) :: .p (.bool v.Flags.Will) :: .p (.bool v.Flags.Clean) :: iI v.Flags.Type' :: iI v.Gateway :: iI v.Radius :: iI v.Time :: .p (.bool v.Timed) :: iI v.TopicID :: iI v.MsgID :: iI v.Code :: iS v.Name :: iS v.Data :: l
abbrev Qva (v : Um) (l : List AV) : List AV := .p (.int .i64 v.Type') :: .p (.bool v.Flags.Dup) :: .p (.int .i64 v.Flags.QoS) :: .p (.bool v.Flags.Retain) :: .p (.bool v.Flags.Will) :: .p (.bool v.Flags.Clean) :: .p (.int .i64 v.Flags.Type') :: .p (.int .i64 v.Gateway) :: .p (.int .i64 v.Radius) :: .p (.int .i64 v.Time) :: .p (.bool v.Timed) :: .p (.int .i64 v.TopicID) :: .p (.int .i64 v.MsgID) :: .p (.int .i64 v.Code) :: .p (.str v.Name) :: .p (.str v.Data) :: l
abbrev Q3t (v : Yp) (l : List AV) : List AV := .p (.bool v.Dup) :: iI v.QoS :: .p (.bool v.Retain) :: .p (.bool v.Will) :: .p (.bool v.Clean) :: iI v.Type' :: l
abbrev V5 (v : Q3) (k : Nat) : List AV := .p .nilPtr :: iI v.do' :: Qcu v.m (.slice 1 k 0 v.out.length :: .p (.bool v.bad) :: [])
theorem f1_ {K : Nat → Prop} {H : List AObj} {a : PV} {xs : List AV} {ys : List PV} (h : FrzL K H xs ys) : FrzL K H (.p a :: xs) (a :: ys) := .cons (.p _) h
theorem f2_ {K : Nat → Prop} {H : List AObj} {a0 a1 : PV} {xs : List AV} {ys : List PV} (h : FrzL K H xs ys) : FrzL K H (.p a0 :: .p a1 :: xs) (a0 :: a1 :: ys) := f1_ (f1_ h)
theorem f4_ {K : Nat → Prop} {H : List AObj} {a0 a1 a2 a3 : PV} {xs : List AV} {ys : List PV} (h : FrzL K H xs ys) : FrzL K H (.p a0 :: .p a1 :: .p a2 :: .p a3 :: xs) (a0 :: a1 :: a2 :: a3 :: ys) := f2_ (f2_ h)
theorem f8_ {K : Nat → Prop} {H : List AObj} {a0 a1 a2 a3 a4 a5 a6 a7 : PV} {xs : List AV} {ys : List PV} (h : FrzL K H xs ys) : FrzL K H (.p a0 :: .p a1 :: .p a2 :: .p a3 :: .p a4 :: .p a5 :: .p a6 :: .p a7 :: xs) (a0 :: a1 :: a2 :: a3 :: a4 :: a5 :: a6 :: a7 :: ys) := f4_ (f4_ h)
theorem Q40 {K : Nat → Prop} {H : List AObj} {a0 a1 a2 a3 a4 a5 a6 a7 a8 a9 a10 a11 a12 a13 a14 a15 : PV} {xs : List AV} {ys : List PV} (h : FrzL K H xs ys) : FrzL K H (.p a0 :: .p a1 :: .p a2 :: .p a3 :: .p a4 :: .p a5 :: .p a6 :: .p a7 :: .p a8 :: .p a9 :: .p a10 :: .p a11 :: .p a12 :: .p a13 :: .p a14 :: .p a15 :: xs) (a0 :: a1 :: a2 :: a3 :: a4 :: a5 :: a6 :: a7 :: a8 :: a9 :: a10 :: a11 :: a12 :: a13 :: a14 :: a15 :: ys) := f8_ (f8_ h)
end Go.Av
