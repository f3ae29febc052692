/- Part of FrommqttCalls: the law returns true; no condition. -/
import Derived.Test.YtbcddiagcaddbaaGreatDoorLiftF3
set_option linter.all false
open Go.IntKind (wrap)
namespace Go.Av
noncomputable section
open Go.Proofs
set_option maxRecDepth 100000
set_option maxHeartbeats 4000000
attribute [local irreducible] Q06 Ue Qdu Qjw Qxl Qy1 Qj3
section
def W2 (_N:Nat) (p:Q1):Option (Q1):=
 cond (Nat.beq (Q7 (cI .i64) p.Codes).length 0)
 (cond (Nat.beq (Q7 Qa.cells p.Filters).length 0)
 (cond (Nat.beq (Q7 Q6.cells p.Props).length 0)
 (cond (Nat.beq (Q7 Q6.cells p.Will.Props).length 0)
 (some (⟨p.Kind,p.Dup,p.Retain,p.QoS,p.ID,p.Topic,p.Payload,p.Clean,p.KeepAlive,p.Client,p.HasUser,p.User,p.HasPass,p.Pass,p.HasWill,(⟨p.Will.Topic,p.Will.Payload,p.Will.QoS,p.Will.Retain,[]⟩:Y5),p.Session,p.Code,[],[],[]⟩:Q1))
 (cond (Nat.ble ((0+(Q7 Q6.cells p.Will.Props).length+4096) * 48) 17592186044416) (some (⟨p.Kind,p.Dup,p.Retain,p.QoS,p.ID,p.Topic,p.Payload,p.Clean,p.KeepAlive,p.Client,p.HasUser,p.User,p.HasPass,p.Pass,p.HasWill,(⟨p.Will.Topic,p.Will.Payload,p.Will.QoS,p.Will.Retain,(([]:List Q6)++p.Will.Props)⟩:Y5),p.Session,p.Code,[],[],[]⟩:Q1)) none))
 (cond (Nat.ble ((0+(Q7 Q6.cells p.Props).length+4096) * 48) 17592186044416) (cond (Nat.beq (Q7 Q6.cells p.Will.Props).length 0)
 (some (⟨p.Kind,p.Dup,p.Retain,p.QoS,p.ID,p.Topic,p.Payload,p.Clean,p.KeepAlive,p.Client,p.HasUser,p.User,p.HasPass,p.Pass,p.HasWill,(⟨p.Will.Topic,p.Will.Payload,p.Will.QoS,p.Will.Retain,[]⟩:Y5),p.Session,p.Code,[],[],(([]:List Q6)++p.Props)⟩:Q1))
 (cond (Nat.ble ((0+(Q7 Q6.cells p.Will.Props).length+4096) * 48) 17592186044416) (some (⟨p.Kind,p.Dup,p.Retain,p.QoS,p.ID,p.Topic,p.Payload,p.Clean,p.KeepAlive,p.Client,p.HasUser,p.User,p.HasPass,p.Pass,p.HasWill,(⟨p.Will.Topic,p.Will.Payload,p.Will.QoS,p.Will.Retain,(([]:List Q6)++p.Will.Props)⟩:Y5),p.Session,p.Code,[],[],(([]:List Q6)++p.Props)⟩:Q1)) none)) none))
 (cond (Nat.ble ((0+(Q7 Qa.cells p.Filters).length+4096) * 40) 17592186044416) (cond (Nat.beq (Q7 Q6.cells p.Props).length 0)
 (cond (Nat.beq (Q7 Q6.cells p.Will.Props).length 0)
 (some (⟨p.Kind,p.Dup,p.Retain,p.QoS,p.ID,p.Topic,p.Payload,p.Clean,p.KeepAlive,p.Client,p.HasUser,p.User,p.HasPass,p.Pass,p.HasWill,(⟨p.Will.Topic,p.Will.Payload,p.Will.QoS,p.Will.Retain,[]⟩:Y5),p.Session,p.Code,[],(([]:List Qa)++p.Filters),[]⟩:Q1))
 (cond (Nat.ble ((0+(Q7 Q6.cells p.Will.Props).length+4096) * 48) 17592186044416) (some (⟨p.Kind,p.Dup,p.Retain,p.QoS,p.ID,p.Topic,p.Payload,p.Clean,p.KeepAlive,p.Client,p.HasUser,p.User,p.HasPass,p.Pass,p.HasWill,(⟨p.Will.Topic,p.Will.Payload,p.Will.QoS,p.Will.Retain,(([]:List Q6)++p.Will.Props)⟩:Y5),p.Session,p.Code,[],(([]:List Qa)++p.Filters),[]⟩:Q1)) none))
 (cond (Nat.ble ((0+(Q7 Q6.cells p.Props).length+4096) * 48) 17592186044416) (cond (Nat.beq (Q7 Q6.cells p.Will.Props).length 0)
 (some (⟨p.Kind,p.Dup,p.Retain,p.QoS,p.ID,p.Topic,p.Payload,p.Clean,p.KeepAlive,p.Client,p.HasUser,p.User,p.HasPass,p.Pass,p.HasWill,(⟨p.Will.Topic,p.Will.Payload,p.Will.QoS,p.Will.Retain,[]⟩:Y5),p.Session,p.Code,[],(([]:List Qa)++p.Filters),(([]:List Q6)++p.Props)⟩:Q1))
 (cond (Nat.ble ((0+(Q7 Q6.cells p.Will.Props).length+4096) * 48) 17592186044416) (some (⟨p.Kind,p.Dup,p.Retain,p.QoS,p.ID,p.Topic,p.Payload,p.Clean,p.KeepAlive,p.Client,p.HasUser,p.User,p.HasPass,p.Pass,p.HasWill,(⟨p.Will.Topic,p.Will.Payload,p.Will.QoS,p.Will.Retain,(([]:List Q6)++p.Will.Props)⟩:Y5),p.Session,p.Code,[],(([]:List Qa)++p.Filters),(([]:List Q6)++p.Props)⟩:Q1)) none)) none)) none))
 (cond (Nat.ble ((0+(Q7 (cI .i64) p.Codes).length+4096) * 8) 17592186044416) (cond (Nat.beq (Q7 Qa.cells p.Filters).length 0)
 (cond (Nat.beq (Q7 Q6.cells p.Props).length 0)
 (cond (Nat.beq (Q7 Q6.cells p.Will.Props).length 0)
 (some (⟨p.Kind,p.Dup,p.Retain,p.QoS,p.ID,p.Topic,p.Payload,p.Clean,p.KeepAlive,p.Client,p.HasUser,p.User,p.HasPass,p.Pass,p.HasWill,(⟨p.Will.Topic,p.Will.Payload,p.Will.QoS,p.Will.Retain,[]⟩:Y5),p.Session,p.Code,(([]:List Int)++p.Codes),[],[]⟩:Q1))
 (cond (Nat.ble ((0+(Q7 Q6.cells p.Will.Props).length+4096) * 48) 17592186044416) (some (⟨p.Kind,p.Dup,p.Retain,p.QoS,p.ID,p.Topic,p.Payload,p.Clean,p.KeepAlive,p.Client,p.HasUser,p.User,p.HasPass,p.Pass,p.HasWill,(⟨p.Will.Topic,p.Will.Payload,p.Will.QoS,p.Will.Retain,(([]:List Q6)++p.Will.Props)⟩:Y5),p.Session,p.Code,(([]:List Int)++p.Codes),[],[]⟩:Q1)) none))
 (cond (Nat.ble ((0+(Q7 Q6.cells p.Props).length+4096) * 48) 17592186044416) (cond (Nat.beq (Q7 Q6.cells p.Will.Props).length 0)
 (some (⟨p.Kind,p.Dup,p.Retain,p.QoS,p.ID,p.Topic,p.Payload,p.Clean,p.KeepAlive,p.Client,p.HasUser,p.User,p.HasPass,p.Pass,p.HasWill,(⟨p.Will.Topic,p.Will.Payload,p.Will.QoS,p.Will.Retain,[]⟩:Y5),p.Session,p.Code,(([]:List Int)++p.Codes),[],(([]:List Q6)++p.Props)⟩:Q1))
 (cond (Nat.ble ((0+(Q7 Q6.cells p.Will.Props).length+4096) * 48) 17592186044416) (some (⟨p.Kind,p.Dup,p.Retain,p.QoS,p.ID,p.Topic,p.Payload,p.Clean,p.KeepAlive,p.Client,p.HasUser,p.User,p.HasPass,p.Pass,p.HasWill,(⟨p.Will.Topic,p.Will.Payload,p.Will.QoS,p.Will.Retain,(([]:List Q6)++p.Will.Props)⟩:Y5),p.Session,p.Code,(([]:List Int)++p.Codes),[],(([]:List Q6)++p.Props)⟩:Q1)) none)) none))
 (cond (Nat.ble ((0+(Q7 Qa.cells p.Filters).length+4096) * 40) 17592186044416) (cond (Nat.beq (Q7 Q6.cells p.Props).length 0)
 (cond (Nat.beq (Q7 Q6.cells p.Will.Props).length 0)
 (some (⟨p.Kind,p.Dup,p.Retain,p.QoS,p.ID,p.Topic,p.Payload,p.Clean,p.KeepAlive,p.Client,p.HasUser,p.User,p.HasPass,p.Pass,p.HasWill,(⟨p.Will.Topic,p.Will.Payload,p.Will.QoS,p.Will.Retain,[]⟩:Y5),p.Session,p.Code,(([]:List Int)++p.Codes),(([]:List Qa)++p.Filters),[]⟩:Q1))
 (cond (Nat.ble ((0+(Q7 Q6.cells p.Will.Props).length+4096) * 48) 17592186044416) (some (⟨p.Kind,p.Dup,p.Retain,p.QoS,p.ID,p.Topic,p.Payload,p.Clean,p.KeepAlive,p.Client,p.HasUser,p.User,p.HasPass,p.Pass,p.HasWill,(⟨p.Will.Topic,p.Will.Payload,p.Will.QoS,p.Will.Retain,(([]:List Q6)++p.Will.Props)⟩:Y5),p.Session,p.Code,(([]:List Int)++p.Codes),(([]:List Qa)++p.Filters),[]⟩:Q1)) none))
 (cond (Nat.ble ((0+(Q7 Q6.cells p.Props).length+4096) * 48) 17592186044416) (cond (Nat.beq (Q7 Q6.cells p.Will.Props).length 0)
 (some (⟨p.Kind,p.Dup,p.Retain,p.QoS,p.ID,p.Topic,p.Payload,p.Clean,p.KeepAlive,p.Client,p.HasUser,p.User,p.HasPass,p.Pass,p.HasWill,(⟨p.Will.Topic,p.Will.Payload,p.Will.QoS,p.Will.Retain,[]⟩:Y5),p.Session,p.Code,(([]:List Int)++p.Codes),(([]:List Qa)++p.Filters),(([]:List Q6)++p.Props)⟩:Q1))
 (cond (Nat.ble ((0+(Q7 Q6.cells p.Will.Props).length+4096) * 48) 17592186044416) (some (⟨p.Kind,p.Dup,p.Retain,p.QoS,p.ID,p.Topic,p.Payload,p.Clean,p.KeepAlive,p.Client,p.HasUser,p.User,p.HasPass,p.Pass,p.HasWill,(⟨p.Will.Topic,p.Will.Payload,p.Will.QoS,p.Will.Retain,(([]:List Q6)++p.Will.Props)⟩:Y5),p.Session,p.Code,(([]:List Int)++p.Codes),(([]:List Qa)++p.Filters),(([]:List Q6)++p.Props)⟩:Q1)) none)) none)) none)) none)
theorem Q01 {N} {p} {r} (h:W2 N p=some r):pU 53 [.agg (Q1.cells p)] (.agg (Q1.cells r)):=by
 refine Q0 k53 ?_;unfold W2 at h;refine Q0t (c:=(cI .i64)) (vs:=p.Codes) rfl ?_;apply iU h<;>intro h
 ·refine Q0t (c:=Qa.cells) (vs:=p.Filters) rfl ?_;apply iU h<;>intro h
  ·refine Q0t (c:=Q6.cells) (vs:=p.Props) rfl ?_;apply iU h<;>intro h
   ·refine Q0t (c:=Q6.cells) (vs:=p.Will.Props) rfl ?_;apply iU h<;>intro h
    ·obtain rfl:=Qi h;exact (Ap (Qo (f2_ (f1_ (.cons (frz_own (c:=Q6.cells) (l:=([]:List Q6)) (fun _=>rfl) rfl trivial sd) (f2_ (.cons (frz_own (c:=(cI .i64)) (l:=([]:List Int)) (fun _=>rfl) rfl trivial sd) (.cons (frz_own (c:=Qa.cells) (l:=([]:List Qa)) (fun _=>rfl) rfl trivial sd) (.cons (frz_own (c:=Q6.cells) (l:=([]:List Q6)) (fun _=>rfl) rfl trivial sd) .nil)))))))))
    obtain ⟨hk7,h⟩:=Q48 h;refine Q0r (Zl (c:=Q6.cells) (e:=4) (l:=([]:List Q6)) (fun _=>rfl) sd hk7) ?_;obtain rfl:=Qi h;exact (Ap (Qo (f2_ (f1_ (.cons (frz_own (c:=Q6.cells) (l:=((([]:List Q6)++p.Will.Props):List Q6)) (fun _=>rfl) rfl trivial sd) (f2_ (.cons (frz_own (c:=(cI .i64)) (l:=([]:List Int)) (fun _=>rfl) rfl trivial sd) (.cons (frz_own (c:=Qa.cells) (l:=([]:List Qa)) (fun _=>rfl) rfl trivial sd) (.cons (frz_own (c:=Q6.cells) (l:=([]:List Q6)) (fun _=>rfl) rfl trivial sd) .nil)))))))))
   obtain ⟨hk5,h⟩:=Q48 h;refine Q0r (Zl (c:=Q6.cells) (e:=4) (l:=([]:List Q6)) (fun _=>rfl) sd hk5) ?_;refine Q0t (c:=Q6.cells) (vs:=p.Will.Props) rfl ?_;apply iU h<;>intro h
   ·obtain rfl:=Qi h;exact (Ap (Qo (f2_ (f1_ (.cons (frz_own (c:=Q6.cells) (l:=([]:List Q6)) (fun _=>rfl) rfl trivial sd) (f2_ (.cons (frz_own (c:=(cI .i64)) (l:=([]:List Int)) (fun _=>rfl) rfl trivial sd) (.cons (frz_own (c:=Qa.cells) (l:=([]:List Qa)) (fun _=>rfl) rfl trivial sd) (.cons (frz_own (c:=Q6.cells) (l:=((([]:List Q6)++p.Props):List Q6)) (fun _=>rfl) rfl trivial sd) .nil)))))))))
   obtain ⟨hk9,h⟩:=Q48 h;refine Q0r (Zl (c:=Q6.cells) (e:=4) (l:=([]:List Q6)) (fun _=>rfl) sd hk9) ?_;obtain rfl:=Qi h;exact (Ap (Qo (f2_ (f1_ (.cons (frz_own (c:=Q6.cells) (l:=((([]:List Q6)++p.Will.Props):List Q6)) (fun _=>rfl) rfl trivial sd) (f2_ (.cons (frz_own (c:=(cI .i64)) (l:=([]:List Int)) (fun _=>rfl) rfl trivial sd) (.cons (frz_own (c:=Qa.cells) (l:=([]:List Qa)) (fun _=>rfl) rfl trivial sd) (.cons (frz_own (c:=Q6.cells) (l:=((([]:List Q6)++p.Props):List Q6)) (fun _=>rfl) rfl trivial sd) .nil)))))))))
  obtain ⟨hk3,h⟩:=Q48 h;refine Q0r (Zl (c:=Qa.cells) (e:=5) (l:=([]:List Qa)) (fun _=>rfl) sd hk3) ?_;refine Q0t (c:=Q6.cells) (vs:=p.Props) rfl ?_;apply iU h<;>intro h
  ·refine Q0t (c:=Q6.cells) (vs:=p.Will.Props) rfl ?_;apply iU h<;>intro h
   ·obtain rfl:=Qi h;exact (Ap (Qo (f2_ (f1_ (.cons (frz_own (c:=Q6.cells) (l:=([]:List Q6)) (fun _=>rfl) rfl trivial sd) (f2_ (.cons (frz_own (c:=(cI .i64)) (l:=([]:List Int)) (fun _=>rfl) rfl trivial sd) (.cons (frz_own (c:=Qa.cells) (l:=((([]:List Qa)++p.Filters):List Qa)) (fun _=>rfl) rfl trivial sd) (.cons (frz_own (c:=Q6.cells) (l:=([]:List Q6)) (fun _=>rfl) rfl trivial sd) .nil)))))))))
   obtain ⟨hk13,h⟩:=Q48 h;refine Q0r (Zl (c:=Q6.cells) (e:=4) (l:=([]:List Q6)) (fun _=>rfl) sd hk13) ?_;obtain rfl:=Qi h;exact (Ap (Qo (f2_ (f1_ (.cons (frz_own (c:=Q6.cells) (l:=((([]:List Q6)++p.Will.Props):List Q6)) (fun _=>rfl) rfl trivial sd) (f2_ (.cons (frz_own (c:=(cI .i64)) (l:=([]:List Int)) (fun _=>rfl) rfl trivial sd) (.cons (frz_own (c:=Qa.cells) (l:=((([]:List Qa)++p.Filters):List Qa)) (fun _=>rfl) rfl trivial sd) (.cons (frz_own (c:=Q6.cells) (l:=([]:List Q6)) (fun _=>rfl) rfl trivial sd) .nil)))))))))
  obtain ⟨hk11,h⟩:=Q48 h;refine Q0r (Zl (c:=Q6.cells) (e:=4) (l:=([]:List Q6)) (fun _=>rfl) sd hk11) ?_;refine Q0t (c:=Q6.cells) (vs:=p.Will.Props) rfl ?_;apply iU h<;>intro h
  ·obtain rfl:=Qi h;exact (Ap (Qo (f2_ (f1_ (.cons (frz_own (c:=Q6.cells) (l:=([]:List Q6)) (fun _=>rfl) rfl trivial sd) (f2_ (.cons (frz_own (c:=(cI .i64)) (l:=([]:List Int)) (fun _=>rfl) rfl trivial sd) (.cons (frz_own (c:=Qa.cells) (l:=((([]:List Qa)++p.Filters):List Qa)) (fun _=>rfl) rfl trivial sd) (.cons (frz_own (c:=Q6.cells) (l:=((([]:List Q6)++p.Props):List Q6)) (fun _=>rfl) rfl trivial sd) .nil)))))))))
  obtain ⟨hk15,h⟩:=Q48 h;refine Q0r (Zl (c:=Q6.cells) (e:=4) (l:=([]:List Q6)) (fun _=>rfl) sd hk15) ?_;obtain rfl:=Qi h;exact (Ap (Qo (f2_ (f1_ (.cons (frz_own (c:=Q6.cells) (l:=((([]:List Q6)++p.Will.Props):List Q6)) (fun _=>rfl) rfl trivial sd) (f2_ (.cons (frz_own (c:=(cI .i64)) (l:=([]:List Int)) (fun _=>rfl) rfl trivial sd) (.cons (frz_own (c:=Qa.cells) (l:=((([]:List Qa)++p.Filters):List Qa)) (fun _=>rfl) rfl trivial sd) (.cons (frz_own (c:=Q6.cells) (l:=((([]:List Q6)++p.Props):List Q6)) (fun _=>rfl) rfl trivial sd) .nil)))))))))
 obtain ⟨hk1,h⟩:=Q48 h;refine Q0r (Zl (c:=(cI .i64)) (e:=1) (l:=([]:List Int)) (fun _=>rfl) sd hk1) ?_;refine Q0t (c:=Qa.cells) (vs:=p.Filters) rfl ?_;apply iU h<;>intro h
 ·refine Q0t (c:=Q6.cells) (vs:=p.Props) rfl ?_;apply iU h<;>intro h
  ·refine Q0t (c:=Q6.cells) (vs:=p.Will.Props) rfl ?_;apply iU h<;>intro h
   ·obtain rfl:=Qi h;exact (Ap (Qo (f2_ (f1_ (.cons (frz_own (c:=Q6.cells) (l:=([]:List Q6)) (fun _=>rfl) rfl trivial sd) (f2_ (.cons (frz_own (c:=(cI .i64)) (l:=((([]:List Int)++p.Codes):List Int)) (fun _=>rfl) rfl trivial sd) (.cons (frz_own (c:=Qa.cells) (l:=([]:List Qa)) (fun _=>rfl) rfl trivial sd) (.cons (frz_own (c:=Q6.cells) (l:=([]:List Q6)) (fun _=>rfl) rfl trivial sd) .nil)))))))))
   obtain ⟨hk21,h⟩:=Q48 h;refine Q0r (Zl (c:=Q6.cells) (e:=4) (l:=([]:List Q6)) (fun _=>rfl) sd hk21) ?_;obtain rfl:=Qi h;exact (Ap (Qo (f2_ (f1_ (.cons (frz_own (c:=Q6.cells) (l:=((([]:List Q6)++p.Will.Props):List Q6)) (fun _=>rfl) rfl trivial sd) (f2_ (.cons (frz_own (c:=(cI .i64)) (l:=((([]:List Int)++p.Codes):List Int)) (fun _=>rfl) rfl trivial sd) (.cons (frz_own (c:=Qa.cells) (l:=([]:List Qa)) (fun _=>rfl) rfl trivial sd) (.cons (frz_own (c:=Q6.cells) (l:=([]:List Q6)) (fun _=>rfl) rfl trivial sd) .nil)))))))))
  obtain ⟨hk19,h⟩:=Q48 h;refine Q0r (Zl (c:=Q6.cells) (e:=4) (l:=([]:List Q6)) (fun _=>rfl) sd hk19) ?_;refine Q0t (c:=Q6.cells) (vs:=p.Will.Props) rfl ?_;apply iU h<;>intro h
  ·obtain rfl:=Qi h;exact (Ap (Qo (f2_ (f1_ (.cons (frz_own (c:=Q6.cells) (l:=([]:List Q6)) (fun _=>rfl) rfl trivial sd) (f2_ (.cons (frz_own (c:=(cI .i64)) (l:=((([]:List Int)++p.Codes):List Int)) (fun _=>rfl) rfl trivial sd) (.cons (frz_own (c:=Qa.cells) (l:=([]:List Qa)) (fun _=>rfl) rfl trivial sd) (.cons (frz_own (c:=Q6.cells) (l:=((([]:List Q6)++p.Props):List Q6)) (fun _=>rfl) rfl trivial sd) .nil)))))))))
  obtain ⟨hk23,h⟩:=Q48 h;refine Q0r (Zl (c:=Q6.cells) (e:=4) (l:=([]:List Q6)) (fun _=>rfl) sd hk23) ?_;obtain rfl:=Qi h;exact (Ap (Qo (f2_ (f1_ (.cons (frz_own (c:=Q6.cells) (l:=((([]:List Q6)++p.Will.Props):List Q6)) (fun _=>rfl) rfl trivial sd) (f2_ (.cons (frz_own (c:=(cI .i64)) (l:=((([]:List Int)++p.Codes):List Int)) (fun _=>rfl) rfl trivial sd) (.cons (frz_own (c:=Qa.cells) (l:=([]:List Qa)) (fun _=>rfl) rfl trivial sd) (.cons (frz_own (c:=Q6.cells) (l:=((([]:List Q6)++p.Props):List Q6)) (fun _=>rfl) rfl trivial sd) .nil)))))))))
 obtain ⟨hk17,h⟩:=Q48 h;refine Q0r (Zl (c:=Qa.cells) (e:=5) (l:=([]:List Qa)) (fun _=>rfl) sd hk17) ?_;refine Q0t (c:=Q6.cells) (vs:=p.Props) rfl ?_;apply iU h<;>intro h
 ·refine Q0t (c:=Q6.cells) (vs:=p.Will.Props) rfl ?_;apply iU h<;>intro h
  ·obtain rfl:=Qi h;exact (Ap (Qo (f2_ (f1_ (.cons (frz_own (c:=Q6.cells) (l:=([]:List Q6)) (fun _=>rfl) rfl trivial sd) (f2_ (.cons (frz_own (c:=(cI .i64)) (l:=((([]:List Int)++p.Codes):List Int)) (fun _=>rfl) rfl trivial sd) (.cons (frz_own (c:=Qa.cells) (l:=((([]:List Qa)++p.Filters):List Qa)) (fun _=>rfl) rfl trivial sd) (.cons (frz_own (c:=Q6.cells) (l:=([]:List Q6)) (fun _=>rfl) rfl trivial sd) .nil)))))))))
  obtain ⟨hk27,h⟩:=Q48 h;refine Q0r (Zl (c:=Q6.cells) (e:=4) (l:=([]:List Q6)) (fun _=>rfl) sd hk27) ?_;obtain rfl:=Qi h;exact (Ap (Qo (f2_ (f1_ (.cons (frz_own (c:=Q6.cells) (l:=((([]:List Q6)++p.Will.Props):List Q6)) (fun _=>rfl) rfl trivial sd) (f2_ (.cons (frz_own (c:=(cI .i64)) (l:=((([]:List Int)++p.Codes):List Int)) (fun _=>rfl) rfl trivial sd) (.cons (frz_own (c:=Qa.cells) (l:=((([]:List Qa)++p.Filters):List Qa)) (fun _=>rfl) rfl trivial sd) (.cons (frz_own (c:=Q6.cells) (l:=([]:List Q6)) (fun _=>rfl) rfl trivial sd) .nil)))))))))
 obtain ⟨hk25,h⟩:=Q48 h;refine Q0r (Zl (c:=Q6.cells) (e:=4) (l:=([]:List Q6)) (fun _=>rfl) sd hk25) ?_;refine Q0t (c:=Q6.cells) (vs:=p.Will.Props) rfl ?_;apply iU h<;>intro h
 ·obtain rfl:=Qi h;exact (Ap (Qo (f2_ (f1_ (.cons (frz_own (c:=Q6.cells) (l:=([]:List Q6)) (fun _=>rfl) rfl trivial sd) (f2_ (.cons (frz_own (c:=(cI .i64)) (l:=((([]:List Int)++p.Codes):List Int)) (fun _=>rfl) rfl trivial sd) (.cons (frz_own (c:=Qa.cells) (l:=((([]:List Qa)++p.Filters):List Qa)) (fun _=>rfl) rfl trivial sd) (.cons (frz_own (c:=Q6.cells) (l:=((([]:List Q6)++p.Props):List Q6)) (fun _=>rfl) rfl trivial sd) .nil)))))))))
 obtain ⟨hk29,h⟩:=Q48 h;refine Q0r (Zl (c:=Q6.cells) (e:=4) (l:=([]:List Q6)) (fun _=>rfl) sd hk29) ?_;obtain rfl:=Qi h;exact (Ap (Qo (f2_ (f1_ (.cons (frz_own (c:=Q6.cells) (l:=((([]:List Q6)++p.Will.Props):List Q6)) (fun _=>rfl) rfl trivial sd) (f2_ (.cons (frz_own (c:=(cI .i64)) (l:=((([]:List Int)++p.Codes):List Int)) (fun _=>rfl) rfl trivial sd) (.cons (frz_own (c:=Qa.cells) (l:=((([]:List Qa)++p.Filters):List Qa)) (fun _=>rfl) rfl trivial sd) (.cons (frz_own (c:=Q6.cells) (l:=((([]:List Q6)++p.Props):List Q6)) (fun _=>rfl) rfl trivial sd) .nil)))))))))
def Uj (rv:Q2->Option Q2) (N:Nat) (v:Q2):Nat->Int->(List Q2)->Option Q2
 | 0,_,_=>none
 | n+1,i14,l15=>
  cond (Q4 .lss i14 ((Q2.rows v.Items).length:Int))
  ((idx v.Items i14).bind fun y17=>
  (rv y17).bind fun v19=>
  cond (Nat.ble ((l15.length+1+4096) * 56) 17592186044416) (Uj rv N v n (wrap .i64 (i14+1)) (l15 ++ [v19])) none)
  (some (⟨v.Kind,v.N',v.Text,l15⟩:Q2))
def Q3z (rv:Q2->Option Q2) (N:Nat) (v:Q2):Option Q2:=
 Uj rv N v N 0 []
theorem Qae {rv:Q2->Option Q2} (hx1:∀ {v} {r},rv v=some r->pU 54 [.agg (Q2.cells v)] (.agg (Q2.cells r))) {N} {v} {r} (h:Q3z rv N v=some r):pU 54 [.agg (Q2.cells v)] (.agg (Q2.cells r)):=by
 refine Q0 k54 ?_;unfold Q3z at h;refine lpA (τ:=Int×(List Q2)) (fun ⟨i14,_⟩=>(.any :: .ptr 0 0 :: .ptr 1 0 :: .ptr 2 0::iI i14::a16 (a8 (a2 ([]))):List AV)) (fun ⟨_,l15⟩=>(.cells (iI v.Kind::iW v.N'::iS v.Text :: .p (.slice 4 (Q2.rows v.Items)) :: []) :: .cells (iI 0::iW 0::iS [] :: .p .nilSlice :: []) :: .cells (iI v.Kind::iW v.N'::iS v.Text :: .slice 4 3 0 l15.length :: []) :: .cells (Q0g Q2.cells l15) :: []:List AObj)) (fun n0 ⟨i14,l15⟩=>Uj rv N v n0 i14 l15) (0,[]) h fun n0 ⟨i14,l15⟩ h=>?_
 first | rw [Uj] at h | simp only [Uj] at h
 rw [cX] at h;apply iU h<;>intro h
 ·refine Ql ?_;refine Q2.xR h fun y17 h=>?_;refine cD h hx1 (.cons q4 .nil) fun v19 h=>?_;obtain ⟨hk21,h⟩:=Q48 h;refine Q0r (Zl (c:=Q2.cells) (e:=4) (fun _=>rfl) sd hk21) ?_;refine Jv (c:=Q2.cells) [v19] rfl ?_;show Exists _;exact ⟨(n0,(wrap .i64 (i14+1)),(l15 ++ [v19])),h,Le _,(rho [0,1,2,5]),Yf⟩
 obtain rfl:=Qi h;exact (Ap (f2_ (f1_ (.cons (Q2.frz_own (l:=l15) rfl trivial sd) .nil))))
def Wz:Nat->Q2->Option Q2
 | 0=>fun _=>none
 | N+1=>Q3z (Wz N) N
theorem Gy {N} {v} {r} (h:Wz N v=some r):pU 54 [.agg (Q2.cells v)] (.agg (Q2.cells r)):=by
 induction N generalizing v r with
 | zero=>simp [Wz] at h
 | succ N ih=>exact Qae (fun h=>ih h) h
def Ui (N:Nat) (e:Qd) (v5:Q1):Nat->Int->(List Q2)->Option Qd
 | 0,_,_=>none
 | n+1,i20,l21=>
  cond (Q4 .lss i20 ((Q2.rows e.Frame.Values).length:Int))
  ((idx e.Frame.Values i20).bind fun y23=>
  (Wz N y23).bind fun v25=>
  cond (Nat.ble ((l21.length+1+4096) * 56) 17592186044416) (Ui N e v5 n (wrap .i64 (i20+1)) (l21 ++ [v25])) none)
  (some (⟨e.Proto,e.Kind,e.Topic,e.Payload,e.QoS,e.Retain,e.Dup,e.ID,[],e.Type',[],e.Channel,v5,e.Msg,(⟨e.Frame.Type',e.Frame.Channel,e.Frame.Ext,l21⟩:Y2)⟩:Qd))
def U9 (N:Nat) (e:Qd) (v28:Q1):Nat->Int->(List Q2)->Option Qd
 | 0,_,_=>none
 | n+1,i43,l44=>
  cond (Q4 .lss i43 ((Q2.rows e.Frame.Values).length:Int))
  ((idx e.Frame.Values i43).bind fun y46=>
  (Wz N y46).bind fun v48=>
  cond (Nat.ble ((l44.length+1+4096) * 56) 17592186044416) (U9 N e v28 n (wrap .i64 (i43+1)) (l44 ++ [v48])) none)
  (some (⟨e.Proto,e.Kind,e.Topic,e.Payload,e.QoS,e.Retain,e.Dup,e.ID,[],e.Type',(([]:List Q09)++e.Hops),e.Channel,v28,e.Msg,(⟨e.Frame.Type',e.Frame.Channel,e.Frame.Ext,l44⟩:Y2)⟩:Qd))
def Ub (N:Nat) (e:Qd) (v53:Q1):Nat->Int->(List Q2)->Option Qd
 | 0,_,_=>none
 | n+1,i68,l69=>
  cond (Q4 .lss i68 ((Q2.rows e.Frame.Values).length:Int))
  ((idx e.Frame.Values i68).bind fun y71=>
  (Wz N y71).bind fun v73=>
  cond (Nat.ble ((l69.length+1+4096) * 56) 17592186044416) (Ub N e v53 n (wrap .i64 (i68+1)) (l69 ++ [v73])) none)
  (some (⟨e.Proto,e.Kind,e.Topic,e.Payload,e.QoS,e.Retain,e.Dup,e.ID,(([]:List Q6)++e.Props),e.Type',[],e.Channel,v53,e.Msg,(⟨e.Frame.Type',e.Frame.Channel,e.Frame.Ext,l69⟩:Y2)⟩:Qd))
def Uc (N:Nat) (e:Qd) (v76:Q1):Nat->Int->(List Q2)->Option Qd
 | 0,_,_=>none
 | n+1,i91,l92=>
  cond (Q4 .lss i91 ((Q2.rows e.Frame.Values).length:Int))
  ((idx e.Frame.Values i91).bind fun y94=>
  (Wz N y94).bind fun v96=>
  cond (Nat.ble ((l92.length+1+4096) * 56) 17592186044416) (Uc N e v76 n (wrap .i64 (i91+1)) (l92 ++ [v96])) none)
  (some (⟨e.Proto,e.Kind,e.Topic,e.Payload,e.QoS,e.Retain,e.Dup,e.ID,(([]:List Q6)++e.Props),e.Type',(([]:List Q09)++e.Hops),e.Channel,v76,e.Msg,(⟨e.Frame.Type',e.Frame.Channel,e.Frame.Ext,l92⟩:Y2)⟩:Qd))
def W3 (N:Nat) (e:Qd):Option Qd:=
 cond (Nat.beq (Q7 Q6.cells e.Props).length 0)
 (cond (Nat.beq (Q7 Q09.cells e.Hops).length 0)
 ((W2 N e.Packet).bind fun v5=>
 Ui N e v5 N 0 [])
 (cond (Nat.ble ((0+(Q7 Q09.cells e.Hops).length+4096) * 24) 17592186044416) ((W2 N e.Packet).bind fun v28=>
 U9 N e v28 N 0 []) none))
 (cond (Nat.ble ((0+(Q7 Q6.cells e.Props).length+4096) * 48) 17592186044416) (cond (Nat.beq (Q7 Q09.cells e.Hops).length 0)
 ((W2 N e.Packet).bind fun v53=>
 Ub N e v53 N 0 [])
 (cond (Nat.ble ((0+(Q7 Q09.cells e.Hops).length+4096) * 24) 17592186044416) ((W2 N e.Packet).bind fun v76=>
 Uc N e v76 N 0 []) none)) none)
theorem Q2b {N} {e} {r} (h:W3 N e=some r):pU 28 [.agg (Qd.cells e)] (.agg (Qd.cells r)):=by
 refine Q0 k28 ?_;unfold W3 at h;refine Q0t (c:=Q6.cells) (vs:=e.Props) rfl ?_;apply iU h<;>intro h
 ·refine Q0t (c:=Q09.cells) (vs:=e.Hops) rfl ?_;apply iU h<;>intro h
  ·refine cP h Q01 zc fun v5 h=>?_;refine lpA (τ:=Int×(List Q2)) (fun ⟨i20,l21⟩=>(.any :: .ptr 0 0 :: .ptr 1 0 :: .slice 4 4 0 l21.length::iI i20::a16 (a16 (a4 ([]))):List AV)) (fun ⟨_,l21⟩=>(.cells (iI e.Proto::iI e.Kind::iS e.Topic::iS e.Payload::iI e.QoS :: .p (.bool e.Retain) :: .p (.bool e.Dup)::iI e.ID :: .slice 4 2 0 0::iI e.Type' :: .slice 2 3 0 0::iI e.Channel::Q2l v5 (Qo0 e.Msg (Qi4 e.Frame ([])))) :: .cells (iI 0::iI 0::iS []::iS []::iI 0 :: .p (.bool false) :: .p (.bool false)::iI 0 :: .p .nilSlice::iI 0 :: .p .nilSlice::iI 0::iI 0 :: .p (.bool false) :: .p (.bool false)::iI 0::iI 0::iS []::iS [] :: .p (.bool false)::iI 0::iS [] :: .p (.bool false)::iS [] :: .p (.bool false)::iS [] :: .p (.bool false)::iS []::iS []::iI 0 :: .p (.bool false) :: .p .nilSlice :: .p (.bool false)::iI 0 :: .p .nilSlice :: .p .nilSlice :: .p .nilSlice::iI 0 :: .p (.bool false)::iI 0 :: .p (.bool false) :: .p (.bool false) :: .p (.bool false)::iI 0::iI 0::iI 0::iI 0 :: .p (.bool false)::iI 0::iI 0::iI 0::iS []::iS []::iI 0::iI 0::iS [] :: .p .nilSlice :: []) :: .cells ([]) :: .cells ([]) :: .cells (Q0g Q2.cells l21) :: []:List AObj)) (fun n0 ⟨i20,l21⟩=>Ui N e v5 n0 i20 l21) (0,[]) h fun n0 ⟨i20,l21⟩ h=>?_
   first | rw [Ui] at h | simp only [Ui] at h
   rw [cX] at h;apply iU h<;>intro h
   ·refine Q2.xR h fun y23 h=>?_;refine cP h Gy (.cons q4 .nil) fun v25 h=>?_;obtain ⟨hk27,h⟩:=Q48 h;refine Q0r (Zl (c:=Q2.cells) (e:=4) (fun _=>rfl) sd hk27) ?_;refine Jv (c:=Q2.cells) [v25] rfl ?_;show Exists _;exact ⟨(n0,(wrap .i64 (i20+1)),(l21 ++ [v25])),h,Le _,(rho [0,1,2,3,6]),Yf⟩
   obtain rfl:=Qi h;exact (Ap (f8_ (.cons (frz_own (c:=Q6.cells) (l:=([]:List Q6)) (fun _=>rfl) rfl trivial sd) (.cons (.p _) (.cons (frz_own (c:=Q09.cells) (l:=([]:List Q09)) (fun _=>rfl) rfl trivial sd) (Qo (Qo (f8_ (f4_ (f1_ (.cons (Q2.frz_own (l:=l21) rfl trivial sd) .nil)))))))))))
  obtain ⟨hk3,h⟩:=Q48 h;refine Q0r (Zl (c:=Q09.cells) (e:=2) (l:=([]:List Q09)) (fun _=>rfl) sd hk3) ?_;refine cP h Q01 zc fun v28 h=>?_;refine lpA (τ:=Int×(List Q2)) (fun ⟨i43,l44⟩=>(.any :: .ptr 0 0 :: .ptr 1 0 :: .slice 4 5 0 l44.length::iI i43::a16 (a16 (a4 ([]))):List AV)) (fun ⟨_,l44⟩=>(.cells (iI e.Proto::iI e.Kind::iS e.Topic::iS e.Payload::iI e.QoS :: .p (.bool e.Retain) :: .p (.bool e.Dup)::iI e.ID :: .slice 4 2 0 0::iI e.Type' :: .slice 2 4 0 (0+(Q7 Q09.cells e.Hops).length)::iI e.Channel::Q2l v28 (Qo0 e.Msg (Qi4 e.Frame ([])))) :: .cells (iI 0::iI 0::iS []::iS []::iI 0 :: .p (.bool false) :: .p (.bool false)::iI 0 :: .p .nilSlice::iI 0 :: .p .nilSlice::iI 0::iI 0 :: .p (.bool false) :: .p (.bool false)::iI 0::iI 0::iS []::iS [] :: .p (.bool false)::iI 0::iS [] :: .p (.bool false)::iS [] :: .p (.bool false)::iS [] :: .p (.bool false)::iS []::iS []::iI 0 :: .p (.bool false) :: .p .nilSlice :: .p (.bool false)::iI 0 :: .p .nilSlice :: .p .nilSlice :: .p .nilSlice::iI 0 :: .p (.bool false)::iI 0 :: .p (.bool false) :: .p (.bool false) :: .p (.bool false)::iI 0::iI 0::iI 0::iI 0 :: .p (.bool false)::iI 0::iI 0::iI 0::iS []::iS []::iI 0::iI 0::iS [] :: .p .nilSlice :: []) :: .cells ([]) :: .dead :: .cells (Q0g Q09.cells (([]:List Q09)++e.Hops)) :: .cells (Q0g Q2.cells l44) :: []:List AObj)) (fun n1 ⟨i43,l44⟩=>U9 N e v28 n1 i43 l44) (0,[]) h fun n1 ⟨i43,l44⟩ h=>?_
  first | rw [U9] at h | simp only [U9] at h
  rw [cX] at h;apply iU h<;>intro h
  ·refine Q2.xR h fun y46 h=>?_;refine cP h Gy (.cons q4 .nil) fun v48 h=>?_;obtain ⟨hk50,h⟩:=Q48 h;refine Q0r (Zl (c:=Q2.cells) (e:=4) (fun _=>rfl) sd hk50) ?_;refine Jv (c:=Q2.cells) [v48] rfl ?_;show Exists _;exact ⟨(n1,(wrap .i64 (i43+1)),(l44 ++ [v48])),h,Le _,(rho [0,1,2,3,4,7]),Yf⟩
  obtain rfl:=Qi h;exact (Ap (f8_ (.cons (frz_own (c:=Q6.cells) (l:=([]:List Q6)) (fun _=>rfl) rfl trivial sd) (.cons (.p _) (.cons (frz_own (c:=Q09.cells) (l:=((([]:List Q09)++e.Hops):List Q09)) (fun _=>rfl) rfl trivial sd) (Qo (Qo (f8_ (f4_ (f1_ (.cons (Q2.frz_own (l:=l44) rfl trivial sd) .nil)))))))))))
 obtain ⟨hk1,h⟩:=Q48 h;refine Q0r (Zl (c:=Q6.cells) (e:=4) (l:=([]:List Q6)) (fun _=>rfl) sd hk1) ?_;refine Q0t (c:=Q09.cells) (vs:=e.Hops) rfl ?_;apply iU h<;>intro h
 ·refine cP h Q01 zc fun v53 h=>?_;refine lpA (τ:=Int×(List Q2)) (fun ⟨i68,l69⟩=>(.any :: .ptr 0 0 :: .ptr 1 0 :: .slice 4 5 0 l69.length::iI i68::a16 (a16 (a4 ([]))):List AV)) (fun ⟨_,l69⟩=>(.cells (iI e.Proto::iI e.Kind::iS e.Topic::iS e.Payload::iI e.QoS :: .p (.bool e.Retain) :: .p (.bool e.Dup)::iI e.ID :: .slice 4 3 0 (0+(Q7 Q6.cells e.Props).length)::iI e.Type' :: .slice 2 4 0 0::iI e.Channel::Q2l v53 (Qo0 e.Msg (Qi4 e.Frame ([])))) :: .cells (iI 0::iI 0::iS []::iS []::iI 0 :: .p (.bool false) :: .p (.bool false)::iI 0 :: .p .nilSlice::iI 0 :: .p .nilSlice::iI 0::iI 0 :: .p (.bool false) :: .p (.bool false)::iI 0::iI 0::iS []::iS [] :: .p (.bool false)::iI 0::iS [] :: .p (.bool false)::iS [] :: .p (.bool false)::iS [] :: .p (.bool false)::iS []::iS []::iI 0 :: .p (.bool false) :: .p .nilSlice :: .p (.bool false)::iI 0 :: .p .nilSlice :: .p .nilSlice :: .p .nilSlice::iI 0 :: .p (.bool false)::iI 0 :: .p (.bool false) :: .p (.bool false) :: .p (.bool false)::iI 0::iI 0::iI 0::iI 0 :: .p (.bool false)::iI 0::iI 0::iI 0::iS []::iS []::iI 0::iI 0::iS [] :: .p .nilSlice :: []) :: .dead :: .cells (Q0g Q6.cells (([]:List Q6)++e.Props)) :: .cells ([]) :: .cells (Q0g Q2.cells l69) :: []:List AObj)) (fun n2 ⟨i68,l69⟩=>Ub N e v53 n2 i68 l69) (0,[]) h fun n2 ⟨i68,l69⟩ h=>?_
  first | rw [Ub] at h | simp only [Ub] at h
  rw [cX] at h;apply iU h<;>intro h
  ·refine Q2.xR h fun y71 h=>?_;refine cP h Gy (.cons q4 .nil) fun v73 h=>?_;obtain ⟨hk75,h⟩:=Q48 h;refine Q0r (Zl (c:=Q2.cells) (e:=4) (fun _=>rfl) sd hk75) ?_;refine Jv (c:=Q2.cells) [v73] rfl ?_;show Exists _;exact ⟨(n2,(wrap .i64 (i68+1)),(l69 ++ [v73])),h,Le _,(rho [0,1,2,3,4,7]),Yf⟩
  obtain rfl:=Qi h;exact (Ap (f8_ (.cons (frz_own (c:=Q6.cells) (l:=((([]:List Q6)++e.Props):List Q6)) (fun _=>rfl) rfl trivial sd) (.cons (.p _) (.cons (frz_own (c:=Q09.cells) (l:=([]:List Q09)) (fun _=>rfl) rfl trivial sd) (Qo (Qo (f8_ (f4_ (f1_ (.cons (Q2.frz_own (l:=l69) rfl trivial sd) .nil)))))))))))
 obtain ⟨hk51,h⟩:=Q48 h;refine Q0r (Zl (c:=Q09.cells) (e:=2) (l:=([]:List Q09)) (fun _=>rfl) sd hk51) ?_;refine cP h Q01 zc fun v76 h=>?_;refine lpA (τ:=Int×(List Q2)) (fun ⟨i91,l92⟩=>(.any :: .ptr 0 0 :: .ptr 1 0 :: .slice 4 6 0 l92.length::iI i91::a16 (a16 (a4 ([]))):List AV)) (fun ⟨_,l92⟩=>(.cells (iI e.Proto::iI e.Kind::iS e.Topic::iS e.Payload::iI e.QoS :: .p (.bool e.Retain) :: .p (.bool e.Dup)::iI e.ID :: .slice 4 3 0 (0+(Q7 Q6.cells e.Props).length)::iI e.Type' :: .slice 2 5 0 (0+(Q7 Q09.cells e.Hops).length)::iI e.Channel::Q2l v76 (Qo0 e.Msg (Qi4 e.Frame ([])))) :: .cells (iI 0::iI 0::iS []::iS []::iI 0 :: .p (.bool false) :: .p (.bool false)::iI 0 :: .p .nilSlice::iI 0 :: .p .nilSlice::iI 0::iI 0 :: .p (.bool false) :: .p (.bool false)::iI 0::iI 0::iS []::iS [] :: .p (.bool false)::iI 0::iS [] :: .p (.bool false)::iS [] :: .p (.bool false)::iS [] :: .p (.bool false)::iS []::iS []::iI 0 :: .p (.bool false) :: .p .nilSlice :: .p (.bool false)::iI 0 :: .p .nilSlice :: .p .nilSlice :: .p .nilSlice::iI 0 :: .p (.bool false)::iI 0 :: .p (.bool false) :: .p (.bool false) :: .p (.bool false)::iI 0::iI 0::iI 0::iI 0 :: .p (.bool false)::iI 0::iI 0::iI 0::iS []::iS []::iI 0::iI 0::iS [] :: .p .nilSlice :: []) :: .dead :: .cells (Q0g Q6.cells (([]:List Q6)++e.Props)) :: .dead :: .cells (Q0g Q09.cells (([]:List Q09)++e.Hops)) :: .cells (Q0g Q2.cells l92) :: []:List AObj)) (fun n3 ⟨i91,l92⟩=>Uc N e v76 n3 i91 l92) (0,[]) h fun n3 ⟨i91,l92⟩ h=>?_
 first | rw [Uc] at h | simp only [Uc] at h
 rw [cX] at h;apply iU h<;>intro h
 ·refine Q2.xR h fun y94 h=>?_;refine cP h Gy (.cons q4 .nil) fun v96 h=>?_;obtain ⟨hk98,h⟩:=Q48 h;refine Q0r (Zl (c:=Q2.cells) (e:=4) (fun _=>rfl) sd hk98) ?_;refine Jv (c:=Q2.cells) [v96] rfl ?_;show Exists _;exact ⟨(n3,(wrap .i64 (i91+1)),(l92 ++ [v96])),h,Le _,(rho [0,1,2,3,4,5,8]),Yf⟩
 obtain rfl:=Qi h;exact (Ap (f8_ (.cons (frz_own (c:=Q6.cells) (l:=((([]:List Q6)++e.Props):List Q6)) (fun _=>rfl) rfl trivial sd) (.cons (.p _) (.cons (frz_own (c:=Q09.cells) (l:=((([]:List Q09)++e.Hops):List Q09)) (fun _=>rfl) rfl trivial sd) (Qo (Qo (f8_ (f4_ (f1_ (.cons (Q2.frz_own (l:=l92) rfl trivial sd) .nil)))))))))))
def Q12 (N:Nat) (version:Int) (p:Q1):Option (Qd×Int):=
 (Wj N version).bind fun v1=>
 cond (!v1.2)
 (some ((⟨0,0,[],[],0,false,false,0,[],0,[],0,(⟨0,false,false,0,0,[],[],false,0,[],false,[],false,[],false,(⟨[],[],0,false,[]⟩:Y5),false,0,[],[],[]⟩:Q1),(⟨0,(⟨false,0,false,false,false,0⟩:Q26),0,0,0,false,0,0,0,[],[]⟩:Qbr),(⟨0,0,[],[]⟩:Y2)⟩:Qd),2))
 ((U2 N version p).bind fun v4=>
 cond (Q4 .neq v4 0)
 (some ((⟨0,0,[],[],0,false,false,0,[],0,[],0,(⟨0,false,false,0,0,[],[],false,0,[],false,[],false,[],false,(⟨[],[],0,false,[]⟩:Y5),false,0,[],[],[]⟩:Q1),(⟨0,(⟨false,0,false,false,false,0⟩:Q26),0,0,0,false,0,0,0,[],[]⟩:Qbr),(⟨0,0,[],[]⟩:Y2)⟩:Qd),v4))
 (cond (Q4 .neq p.Kind 3)
 ((W3 N (⟨v1.1,2,[],[],0,false,false,0,[],0,[],0,p,(⟨0,(⟨false,0,false,false,false,0⟩:Q26),0,0,0,false,0,0,0,[],[]⟩:Qbr),(⟨0,0,[],[]⟩:Y2)⟩:Qd)).bind fun v8=>
 some (v8,0))
 (cond (Q1l .eql p.Topic [])
 (some ((⟨0,0,[],[],0,false,false,0,[],0,[],0,(⟨0,false,false,0,0,[],[],false,0,[],false,[],false,[],false,(⟨[],[],0,false,[]⟩:Y5),false,0,[],[],[]⟩:Q1),(⟨0,(⟨false,0,false,false,false,0⟩:Q26),0,0,0,false,0,0,0,[],[]⟩:Qbr),(⟨0,0,[],[]⟩:Y2)⟩:Qd),11))
 ((W3 N (⟨v1.1,1,p.Topic,p.Payload,p.QoS,p.Retain,p.Dup,p.ID,p.Props,0,[],0,(⟨0,false,false,0,0,[],[],false,0,[],false,[],false,[],false,(⟨[],[],0,false,[]⟩:Y5),false,0,[],[],[]⟩:Q1),(⟨0,(⟨false,0,false,false,false,0⟩:Q26),0,0,0,false,0,0,0,[],[]⟩:Qbr),(⟨0,0,[],[]⟩:Y2)⟩:Qd)).bind fun v11=>
 some (v11,0)))))
theorem Qbz {N} {version} {p} {r} (h:Q12 N version p=some r):pU 8 [.int .i64 version,.agg (Q1.cells p)] (.tuple [.agg (Qd.cells r.1),.int .i64 r.2]):=by
 refine Q0 k8 ?_;unfold Q12 at h;rw [cX,cY] at h;refine cP h Q4m p1 fun v1 h=>?_;apply iU h<;>intro h
 ·obtain rfl:=Qi h;exact (Aq (.cons (Ap (f8_ (.cons (.nil _) (.cons (.p _) (.cons (.nil _) (Qo (f4_ (.cons (.nil _) (f2_ (.cons (.nil _) (.cons (.nil _) (.cons (.nil _) (Qo (f2_ (f1_ (.cons (.nil _) .nil)))))))))))))))) p1))
 refine cP h Q4w zd fun v4 h=>?_;apply iU h<;>intro h
 ·obtain rfl:=Qi h;exact (Aq (.cons (Ap (f8_ (.cons (.nil _) (.cons (.p _) (.cons (.nil _) (Qo (f4_ (.cons (.nil _) (f2_ (.cons (.nil _) (.cons (.nil _) (.cons (.nil _) (Qo (f2_ (f1_ (.cons (.nil _) .nil)))))))))))))))) p1))
 apply iU h<;>intro h
 ·refine cP h Q2b (.cons (Ap (f8_ (.cons (.nil _) (.cons (.p _) (.cons (.nil _) (Qo (Qo (f8_ (f4_ (f1_ (.cons (.nil _) .nil))))))))))) .nil) fun v8 h=>?_;obtain rfl:=Qi h;exact (Aq (.cons (Ap (Qo (Qo (Qo za)))) p1))
 apply iU h<;>intro h
 ·obtain rfl:=Qi h;exact (Aq (.cons (Ap (f8_ (.cons (.nil _) (.cons (.p _) (.cons (.nil _) (Qo (f4_ (.cons (.nil _) (f2_ (.cons (.nil _) (.cons (.nil _) (.cons (.nil _) (Qo (f2_ (f1_ (.cons (.nil _) .nil)))))))))))))))) p1))
 refine cP h Q2b (.cons (Ap (f8_ (f2_ (.cons (.nil _) (Qo (f4_ (.cons (.nil _) (f2_ (.cons (.nil _) (.cons (.nil _) (.cons (.nil _) (Qo (f2_ (f1_ (.cons (.nil _) .nil))))))))))))))) .nil) fun v11 h=>?_;obtain rfl:=Qi h;exact (Aq (.cons (Ap (Qo (Qo (Qo za)))) p1))
def Q20 (_N:Nat) (e:Qd):Option (Q1):=
 some (⟨3,e.Dup,e.Retain,e.QoS,e.ID,e.Topic,e.Payload,false,0,[],false,[],false,[],false,(⟨[],[],0,false,[]⟩:Y5),false,0,[],[],e.Props⟩:Q1)
theorem Q7i {N} {e} {r} (h:Q20 N e=some r):pU 32 [.agg (Qd.cells e)] (.agg (Q1.cells r)):=by
 refine Q0 k32 ?_;unfold Q20 at h;obtain rfl:=Qi h;exact (Ap (Qo (f2_ (f1_ (.cons (.nil _) (f2_ (.cons (.nil _) (.cons (.nil _) p1))))))))
def U6 (_N:Nat) (proto:Int):Option (Int×Bool):=
 cond (Q4 .eql proto 1)
 (some (4,true))
 (cond (Q4 .eql proto 2)
 (some (5,true))
 (some (0,false)))
theorem Q6q {N} {proto} {r} (h:U6 N proto=some r):pU 13 [.int .i64 proto] (.tuple [.int .i64 r.1,.bool r.2]):=by
 refine Q0 k13 ?_;unfold U6 at h;rw [cX] at h;refine iL2 h fun h=>?_;exact iB2 h
def Q33:List (Int×Q24) := [(1,(⟨[109,113,116,116,51]⟩:Q24)),(2,(⟨[109,113,116,116,53]⟩:Q24)),(3,(⟨[115,110]⟩:Q24)),(4,(⟨[97,109,113,112]⟩:Q24))]
theorem Qgj:pU 131 [] (.pmap (Z6l (fun v => .agg (Q24.cells v)) Q33)):=Uu Qbb (N:=2000) (d:=60) (by kernel_rfl)
def Q61 (_N:Nat) (proto:Int):Option Bool:=
 optC (Q5h Q33 proto) (fun m1=>
 some true)
 (some false)
theorem Qht {N} {proto} {r} (h:Q61 N proto=some r):pU 73 [.int .i64 proto] (.bool r):=by
 refine Q0 k73 ?_;unfold Q61 at h;refine Q6r Qgj .nil ?_;refine Z0x h (fun m1 hm2 h=>?_) (fun hm2 h=>?_)
 ·cases h;exact (.p _)
 cases h;exact (.p _)
def Q1j (_N:Nat) (n_0:Int) (low:Int) (high:Int):Option Bool:=
 cond (Q4 .geq n_0 low)
 (some (Q4 .leq n_0 high))
 (some false)
theorem Q69 {N} {n_0} {low} {high} {r} (h:Q1j N n_0 low high=some r):pU 77 [.int .i64 n_0,.int .i64 low,.int .i64 high] (.bool r):=by
 refine Q0 k77 ?_;unfold Q1j at h;rw [cX] at h;exact iB h
def Ug (rz:Q2->Q2->Option Bool) (N:Nat) (a:Q2) (b:Q2):Nat->Int->Option Bool
 | 0,_=>none
 | n+1,s22=>
  cond (Q4 .lss s22 ((Q2.rows a.Items).length:Int))
  ((idx a.Items s22).bind fun y24=>
  (idx b.Items s22).bind fun y26=>
  (rz y24 y26).bind fun v28=>
  cond (!v28)
  (some false)
  (Ug rz N a b n (wrap .i64 (s22+1))))
  (some true)
def Q5b (rz:Q2->Q2->Option Bool) (N:Nat) (a:Q2) (b:Q2):Option Bool:=
 cond (Q4 .neq a.Kind b.Kind)
 (some false)
 (cond (Q4 .neq a.N' b.N')
 (some false)
 (cond (Q1l .neq a.Text b.Text)
 (some false)
 (cond (Q4 .neq ((Q2.rows a.Items).length:Int) ((Q2.rows b.Items).length:Int))
 (some false)
 (Ug rz N a b N 0))))
theorem Qet {rz:Q2->Q2->Option Bool} (hy1:∀ {a} {b} {r},rz a b=some r->pU 141 [.agg (Q2.cells a),.agg (Q2.cells b)] (.bool r)) {N} {a} {b} {r} (h:Q5b rz N a b=some r):pU 141 [.agg (Q2.cells a),.agg (Q2.cells b)] (.bool r):=by
 refine Q0 Zof ?_;unfold Q5b at h;rw [cX,cY] at h;refine iL h fun h=>?_;refine iL h fun h=>?_;refine iL h fun h=>?_;refine iL h fun h=>?_;refine lpH (τ:=Int) (fun s22=>(.any :: .any :: .ptr 0 0 :: .ptr 1 0::a16 (a16 (iI ((Q2.rows a.Items).length:Int)::iI s22::a8 (a4 (a2 (.any :: []))))):List AV)) (fun n0 s22=>Ug rz N a b n0 s22) (0) h fun n0 s22 h=>?_
 first | rw [Ug] at h | simp only [Ug] at h
 rw [cX] at h;refine iR h fun h=>?_;refine Ql ?_;refine Q2.xR h fun y24 h=>?_;refine Q2.xR h fun y26 h=>?_;refine cD h hy1 (.cons q4 (.cons q4 .nil)) fun v28 h=>?_;refine iL h fun h=>?_;show Exists _;exact ⟨(n0,(wrap .i64 (s22+1))),h,Le _,(fun i=>i),Yf⟩
def Q0e:Nat->Q2->Q2->Option Bool
 | 0=>fun _ _=>none
 | N+1=>Q5b (Q0e N) N
theorem Qem {N} {a} {b} {r} (h:Q0e N a b=some r):pU 141 [.agg (Q2.cells a),.agg (Q2.cells b)] (.bool r):=by
 induction N generalizing a b r with
 | zero=>simp [Q0e] at h
 | succ N ih=>exact Qet (fun h=>ih h) h
def Wd (N:Nat) (a:Y2) (b:Y2):Nat->Int->Option Bool
 | 0,_=>none
 | n+1,s22=>
  cond (Q4 .lss s22 ((Q2.rows a.Values).length:Int))
  ((idx a.Values s22).bind fun y24=>
  (idx b.Values s22).bind fun y26=>
  (Q0e N y24 y26).bind fun v28=>
  cond (!v28)
  (some false)
  (Wd N a b n (wrap .i64 (s22+1))))
  (some true)
def Q0f (N:Nat) (a:Y2) (b:Y2):Option Bool:=
 cond (Q4 .neq a.Type' b.Type')
 (some false)
 (cond (Q4 .neq a.Channel b.Channel)
 (some false)
 (cond (Q1l .neq a.Ext b.Ext)
 (some false)
 (cond (Q4 .neq ((Q2.rows a.Values).length:Int) ((Q2.rows b.Values).length:Int))
 (some false)
 (Wd N a b N 0))))
theorem Q8s {N} {a} {b} {r} (h:Q0f N a b=some r):pU 91 [.agg (Y2.cells a),.agg (Y2.cells b)] (.bool r):=by
 refine Q0 k91 ?_;unfold Q0f at h;rw [cX,cY] at h;refine iL h fun h=>?_;refine iL h fun h=>?_;refine iL h fun h=>?_;refine iL h fun h=>?_;refine lpH (τ:=Int) (fun s22=>(a2 (.any :: .ptr 1 0::a16 (a16 (.p (.slice 4 (Q2.rows a.Values))::iI ((Q2.rows a.Values).length:Int)::iI s22::a8 (a4 (.any :: []))))):List AV)) (fun n0 s22=>Wd N a b n0 s22) (0) h fun n0 s22 h=>?_
 first | rw [Wd] at h | simp only [Wd] at h
 rw [cX] at h;refine iR h fun h=>?_;refine Q2.xR h fun y24 h=>?_;refine Ql ?_;refine Q2.xR h fun y26 h=>?_;refine cD h Qem (.cons q4 (.cons q4 .nil)) fun v28 h=>?_;refine iL h fun h=>?_;show Exists _;exact ⟨(n0,(wrap .i64 (s22+1))),h,Le _,(fun i=>i),Yf⟩
def Q6t (N:Nat) (e:Qd):Option Bool:=
 (Z5 N e.Packet (⟨0,false,false,0,0,[],[],false,0,[],false,[],false,[],false,(⟨[],[],0,false,[]⟩:Y5),false,0,[],[],[]⟩:Q1)).bind fun v1=>
 cond v1
 (cond (((e.Msg.Type':Int) == 0)&&(((e.Msg.Flags.Dup:Bool) == false)&&(((e.Msg.Flags.QoS:Int) == 0)&&(((e.Msg.Flags.Retain:Bool) == false)&&(((e.Msg.Flags.Will:Bool) == false)&&(((e.Msg.Flags.Clean:Bool) == false)&&(((e.Msg.Flags.Type':Int) == 0)&&(((e.Msg.Gateway:Int) == 0)&&(((e.Msg.Radius:Int) == 0)&&(((e.Msg.Time:Int) == 0)&&(((e.Msg.Timed:Bool) == false)&&(((e.Msg.TopicID:Int) == 0)&&(((e.Msg.MsgID:Int) == 0)&&(((e.Msg.Code:Int) == 0)&&(((e.Msg.Name:List UInt8) == [])&&(((e.Msg.Data:List UInt8) == [])&&true))))))))))))))))
 ((Q0f N e.Frame (⟨0,0,[],[]⟩:Y2)).bind fun v5=>
 some v5)
 (some false))
 (some false)
theorem Qih {N} {e} {r} (h:Q6t N e=some r):pU 86 [.agg (Qd.cells e)] (.bool r):=by
 refine Q0 k86 ?_;unfold Q6t at h;refine cP h Za (.cons zb (.cons (Ap (Qo (f2_ (f1_ (.cons (.nil _) (f2_ (.cons (.nil _) (.cons (.nil _) (.cons (.nil _) .nil))))))))) .nil)) fun v1 h=>?_;refine iR h fun h=>?_;refine Qo8 (ks := [0,2,0,2,2,2,0,0,0,0,2,0,0,0,1,1]) (xs := [iI e.Msg.Type',.p (.bool e.Msg.Flags.Dup),iI e.Msg.Flags.QoS,.p (.bool e.Msg.Flags.Retain),.p (.bool e.Msg.Flags.Will),.p (.bool e.Msg.Flags.Clean),iI e.Msg.Flags.Type',iI e.Msg.Gateway,iI e.Msg.Radius,iI e.Msg.Time,.p (.bool e.Msg.Timed),iI e.Msg.TopicID,iI e.Msg.MsgID,iI e.Msg.Code,iS e.Msg.Name,iS e.Msg.Data]) (ys := [iI 0,.p (.bool false),iI 0,.p (.bool false),.p (.bool false),.p (.bool false),iI 0,iI 0,iI 0,iI 0,.p (.bool false),iI 0,iI 0,iI 0,iS [],iS []]) (b:=(((e.Msg.Type':Int) == 0)&&(((e.Msg.Flags.Dup:Bool) == false)&&(((e.Msg.Flags.QoS:Int) == 0)&&(((e.Msg.Flags.Retain:Bool) == false)&&(((e.Msg.Flags.Will:Bool) == false)&&(((e.Msg.Flags.Clean:Bool) == false)&&(((e.Msg.Flags.Type':Int) == 0)&&(((e.Msg.Gateway:Int) == 0)&&(((e.Msg.Radius:Int) == 0)&&(((e.Msg.Time:Int) == 0)&&(((e.Msg.Timed:Bool) == false)&&(((e.Msg.TopicID:Int) == 0)&&(((e.Msg.MsgID:Int) == 0)&&(((e.Msg.Code:Int) == 0)&&(((e.Msg.Name:List UInt8) == [])&&(((e.Msg.Data:List UInt8) == [])&&true))))))))))))))))) rfl ?_;refine iR h fun h=>?_;refine cP h Q8s (.cons q4 (.cons q4n .nil)) fun v5 h=>?_;cases h;exact (.p _)
def G7 (N:Nat) (e:Qd):Option Int:=
 (Q6t N e).bind fun v65=>
 cond (!v65)
 (some 2)
 ((X6 N 3 e.Props).bind fun v71=>
 cond (Q4 .neq v71 0)
 (some 9)
 (some 0))
def Gb (N:Nat) (e:Qd):Option Int:=
 cond (Q4 .eql e.Proto 3)
 (none)
 (cond (Q4 .neq e.Type' 0)
 (some 2)
 (cond (Q4 .gtr ((Q7 Q09.cells e.Hops).length:Int) 0)
 (some 2)
 ((Q1j N e.Channel 0 65535).bind fun v55=>
 cond (!v55)
 (some 2)
 (cond (Q4 .neq e.Channel 0)
 (cond (Q4 .neq e.Proto 4)
 (some 2)
 (G7 N e))
 (G7 N e)))))
def U5 (N:Nat) (e:Qd):Option Int:=
 cond (Q4 .gtr ((Q7 Q6.cells e.Props).length:Int) 0)
 (cond (Q4 .neq e.Proto 2)
 (some 2)
 (Gb N e))
 (Gb N e)
def G5 (N:Nat) (e:Qd) (c2:Bool):Option Int:=
 (Q1j N e.ID 0 65535).bind fun v32=>
 cond (!v32)
 (some 2)
 (cond (!(c2 == (Q4 .neq e.ID 0)))
 (some 2)
 (cond e.Dup
 (cond (!c2)
 (cond (!(Q4 .eql e.Proto 3))
 (some 2)
 (U5 N e))
 (U5 N e))
 (U5 N e)))
def G9 (N:Nat) (e:Qd) (c2:Bool):Option Int:=
 (Q61 N e.Proto).bind fun v8=>
 cond (!v8)
 (some 2)
 (cond (Q4 .neq e.Kind 1)
 (some 2)
 ((Jx N e.Topic).bind fun v15=>
 cond (!v15)
 (some 10)
 ((Q1j N e.QoS 0 2).bind fun v23=>
 cond (!v23)
 (cond (Q4 .eql e.Proto 3)
 (cond (!(Q4 .eql e.QoS (-1)))
 (some 2)
 (G5 N e c2))
 (some 2))
 (G5 N e c2))))
def Q1y (N:Nat) (e:Qd):Option Int:=
 cond (Q4 .eql e.QoS 1)
 (G9 N e true)
 (G9 N e (Q4 .eql e.QoS 2))
theorem Qfk {N} {e} {r} (h:Q1y N e=some r):pU 56 [.agg (Qd.cells e)] (.int .i64 r):=by
 refine Q0 k56 ?_;unfold Q1y at h;rw [cX] at h;refine jrA (r:=r) (σ:=Bool) (fun _=>(.any :: .ptr 0 0 :: .any :: .ptr 1 0 :: .ptr 2 0::a16 (a16 (a16 (.any :: []))):List AV)) (fun c2=>(.cells (Q6j e ([])) :: .cells (.p (.bool (Qmr .eql e.Proto 3)) :: []) :: .cells (.p (.bool c2) :: []) :: []:List AObj)) (fun c2=>G9 N e c2) ?_ ?_
 ·apply iU h<;>intro h
  ·show Exists _;exact ⟨(true),h,(fun i=>i),Yf⟩
  show Exists _;exact ⟨((Qmr .eql e.QoS 2)),h,(fun i=>i),Yf⟩
 rintro c2 h
 unfold G9 at h;rw [cX] at h;refine rdI 13 ?_;refine rdP ?_;refine dT ?_;refine Zx k72 ?_;refine cP h Qht p1 fun v8 h=>?_;refine iL h fun h=>?_;refine iL h fun h=>?_;refine rdP ?_;refine dT ?_;refine Zx k74 ?_;refine cP h Q0h p1 fun v15 h=>?_;refine iL h fun h=>?_;refine rdJ (r:=r) (x:=G5 N e c2) (a16 (a16 (a8 (a2 (.slice 2 3 0 11::iI 11::iI 3::a8 (.any :: [])))))) ?_ ?_
 ·refine dT ?_;refine Zx k76 ?_;refine cP h Q69 p3 fun v23 h=>?_;apply iU h<;>intro h
  ·refine iR h fun h=>?_;refine iL h fun h=>?_;show Exists _;exact ⟨(),h,(fun i=>i),Yf⟩
  show Exists _;exact ⟨(),h,(fun i=>i),Yf⟩
 intro h;unfold G5 at h;rw [cX] at h;refine rdP ?_;refine dT ?_;refine Zx k78 ?_;refine cP h Q69 p3 fun v32 h=>?_;refine iL h fun h=>?_;refine iL h fun h=>?_;refine rdJ (r:=r) (x:=U5 N e) (a16 (a16 (a8 (a2 (.slice 2 3 0 11::iI 11::iI 5::a8 (.any :: [])))))) ?_ ?_
 ·refine dT ?_;refine Zx k79 ?_;apply iU h<;>intro h
  ·apply iU h<;>intro h
   ·refine iL h fun h=>?_;show Exists _;exact ⟨(),h,(fun i=>i),Yf⟩
   show Exists _;exact ⟨(),h,(fun i=>i),Yf⟩
  show Exists _;exact ⟨(),h,(fun i=>i),Yf⟩
 intro h;unfold U5 at h;rw [cX] at h;refine rdJ (r:=r) (x:=Gb N e) (a16 (a16 (a8 (a2 (.slice 2 3 0 11::iI 11::iI 6::a8 (.any :: [])))))) ?_ ?_
 ·refine dT ?_;refine Zx k80 ?_;apply iU h<;>intro h
  ·refine iL h fun h=>?_;show Exists _;exact ⟨(),h,(fun i=>i),Yf⟩
  show Exists _;exact ⟨(),h,(fun i=>i),Yf⟩
 intro h;unfold Gb at h;rw [cX] at h;refine rdP ?_;refine dT ?_;refine Zx k81 ?_;refine ifO h (fun hc49 h=>?_) (fun hc49 h=>?_)
 ·first | (cases h;done) | (simp [Qcn] at h;done)
 refine ifT (Z33 hc49) ?_;refine iL h fun h=>?_;refine iL h fun h=>?_;refine rdP ?_;refine dT ?_;refine Zx k83 ?_;refine cP h Q69 p3 fun v55 h=>?_;refine iL h fun h=>?_;refine rdJ (r:=r) (x:=G7 N e) (a16 (a16 (a8 (a2 (.slice 2 3 0 11::iI 11::iI 9::a8 (.any :: [])))))) ?_ ?_
 ·refine dT ?_;refine Zx k84 ?_;apply iU h<;>intro h
  ·refine iL h fun h=>?_;show Exists _;exact ⟨(),h,(fun i=>i),Yf⟩
  show Exists _;exact ⟨(),h,(fun i=>i),Yf⟩
 intro h;unfold G7 at h;rw [cX] at h;refine rdP ?_;refine dT ?_;refine Zx k85 ?_;refine cP h Qih (.cons (Ap (Qo (Qo (Qo za)))) .nil) fun v65 h=>?_;refine iL h fun h=>?_;refine rdP ?_;refine dT ?_;refine Zx k87 ?_;refine cP h Xw p2 fun v71 h=>?_;refine iL h fun h=>?_;refine rdP ?_;refine dF ?_;cases h;exact (.p _)
def Q2r (N:Nat) (a:List Q6) (b:List Q6):Nat->Int->Option Bool
 | 0,_=>none
 | n+1,s15=>
  cond (Q4 .lss s15 ((Q7 Q6.cells a).length:Int))
  ((idx a s15).bind fun y17=>
  (idx b s15).bind fun y19=>
  cond (!(((y17.ID:Int) == y19.ID)&&(((y17.N':Int) == y19.N')&&(((y17.Text:List UInt8) == y19.Text)&&(((y17.Value:List UInt8) == y19.Value)&&true)))))
  (some false)
  (Q2r N a b n (wrap .i64 (s15+1))))
  (some true)
def Q7o (N:Nat) (a:List Q6) (b:List Q6):Option Bool:=
 cond (Q4 .neq ((Q7 Q6.cells a).length:Int) ((Q7 Q6.cells b).length:Int))
 (some false)
 (Q2r N a b N 0)
theorem Qkg {N} {a} {b} {r} (h:Q7o N a b=some r):pU 138 [.slice 4 (Q7 Q6.cells a),.slice 4 (Q7 Q6.cells b)] (.bool r):=by
 refine Q0 Zkt ?_;unfold Q7o at h;rw [cX] at h;refine iL h fun h=>?_;refine lpH (τ:=Int) (fun s15=>(.p (.slice 4 (Q7 Q6.cells a)) :: .p (.slice 4 (Q7 Q6.cells b))::a8 (a2 (iI ((Q7 Q6.cells a).length:Int)::iI s15::a8 (a4 ([])))):List AV)) (fun n0 s15=>Q2r N a b n0 s15) (0) h fun n0 s15 h=>?_
 first | rw [Q2r] at h | simp only [Q2r] at h
 rw [cX] at h;refine iR h fun h=>?_;refine Ql ?_;refine xR h fun y17 h=>?_;refine xR h fun y19 h=>?_;refine iL h fun h=>?_;show Exists _;exact ⟨(n0,(wrap .i64 (s15+1))),h,Le _,(fun i=>i),Yf⟩
def Y3 (N:Nat) (s1_0:List Q09) (s2_1:List Q09):Nat->Int->Option Bool
 | 0,_=>none
 | n+1,s15=>
  cond (Q4 .lss s15 ((Q7 Q09.cells s1_0).length:Int))
  ((idx s1_0 s15).bind fun y17=>
  (idx s2_1 s15).bind fun y19=>
  cond (!(((y17.Radius:Int) == y19.Radius)&&(((y17.Node:List UInt8) == y19.Node)&&true)))
  (some false)
  (Y3 N s1_0 s2_1 n (wrap .i64 (s15+1))))
  (some true)
def Xm (N:Nat) (s1_0:List Q09) (s2_1:List Q09):Option Bool:=
 cond (Q4 .neq ((Q7 Q09.cells s1_0).length:Int) ((Q7 Q09.cells s2_1).length:Int))
 (some false)
 (Y3 N s1_0 s2_1 N 0)
theorem Q5c {N} {s1_0} {s2_1} {r} (h:Xm N s1_0 s2_1=some r):pU 139 [.slice 2 (Q7 Q09.cells s1_0),.slice 2 (Q7 Q09.cells s2_1)] (.bool r):=by
 refine Q0 Zk9 ?_;unfold Xm at h;rw [cX] at h;refine iL h fun h=>?_;refine lpH (τ:=Int) (fun s15=>(.p (.slice 2 (Q7 Q09.cells s1_0)) :: .p (.slice 2 (Q7 Q09.cells s2_1))::a8 (a2 (iI ((Q7 Q09.cells s1_0).length:Int)::iI s15::a8 (a4 ([])))):List AV)) (fun n0 s15=>Y3 N s1_0 s2_1 n0 s15) (0) h fun n0 s15 h=>?_
 first | rw [Y3] at h | simp only [Y3] at h
 rw [cX] at h;refine iR h fun h=>?_;refine Ql ?_;refine xR h fun y17 h=>?_;refine xR h fun y19 h=>?_;refine iL h fun h=>?_;show Exists _;exact ⟨(n0,(wrap .i64 (s15+1))),h,Le _,(fun i=>i),Yf⟩
def Q18 (N:Nat) (a:Qd) (b:Qd):Option Bool:=
 cond (Q4 .neq a.Proto b.Proto)
 (some false)
 (cond (Q4 .neq a.Kind b.Kind)
 (some false)
 (cond (Q1l .neq a.Topic b.Topic)
 (some false)
 (cond (Q1l .neq a.Payload b.Payload)
 (some false)
 (cond (Q4 .neq a.QoS b.QoS)
 (some false)
 (cond (!(a.Retain == b.Retain))
 (some false)
 (cond (!(a.Dup == b.Dup))
 (some false)
 (cond (Q4 .neq a.ID b.ID)
 (some false)
 (cond (Q4 .neq a.Type' b.Type')
 (some false)
 (cond (Q4 .neq a.Channel b.Channel)
 (some false)
 ((Q7o N a.Props b.Props).bind fun v11=>
 cond v11
 ((Xm N a.Hops b.Hops).bind fun v14=>
 cond v14
 ((Z5 N a.Packet b.Packet).bind fun v17=>
 cond v17
 (cond (((a.Msg.Type':Int) == b.Msg.Type')&&(((a.Msg.Flags.Dup:Bool) == b.Msg.Flags.Dup)&&(((a.Msg.Flags.QoS:Int) == b.Msg.Flags.QoS)&&(((a.Msg.Flags.Retain:Bool) == b.Msg.Flags.Retain)&&(((a.Msg.Flags.Will:Bool) == b.Msg.Flags.Will)&&(((a.Msg.Flags.Clean:Bool) == b.Msg.Flags.Clean)&&(((a.Msg.Flags.Type':Int) == b.Msg.Flags.Type')&&(((a.Msg.Gateway:Int) == b.Msg.Gateway)&&(((a.Msg.Radius:Int) == b.Msg.Radius)&&(((a.Msg.Time:Int) == b.Msg.Time)&&(((a.Msg.Timed:Bool) == b.Msg.Timed)&&(((a.Msg.TopicID:Int) == b.Msg.TopicID)&&(((a.Msg.MsgID:Int) == b.Msg.MsgID)&&(((a.Msg.Code:Int) == b.Msg.Code)&&(((a.Msg.Name:List UInt8) == b.Msg.Name)&&(((a.Msg.Data:List UInt8) == b.Msg.Data)&&true))))))))))))))))
 ((Q0f N a.Frame b.Frame).bind fun v21=>
 some v21)
 (some false))
 (some false))
 (some false))
 (some false)))))))))))
theorem Q53 {N} {a} {b} {r} (h:Q18 N a b=some r):pU 89 [.agg (Qd.cells a),.agg (Qd.cells b)] (.bool r):=by
 refine Q0 k89 ?_;unfold Q18 at h;rw [cX,cY] at h;refine iL h fun h=>?_;refine iL h fun h=>?_;refine iL h fun h=>?_;refine iL h fun h=>?_;refine iL h fun h=>?_;refine iL h fun h=>?_;refine iL h fun h=>?_;refine iL h fun h=>?_;refine iL h fun h=>?_;refine iL h fun h=>?_;refine cP h Qkg p2 fun v11 h=>?_;refine iR h fun h=>?_;refine cP h Q5c p2 fun v14 h=>?_;refine iR h fun h=>?_;refine cP h Za (.cons zb zc) fun v17 h=>?_;refine iR h fun h=>?_;refine Qo8 (ks := [0,2,0,2,2,2,0,0,0,0,2,0,0,0,1,1]) (xs := [iI a.Msg.Type',.p (.bool a.Msg.Flags.Dup),iI a.Msg.Flags.QoS,.p (.bool a.Msg.Flags.Retain),.p (.bool a.Msg.Flags.Will),.p (.bool a.Msg.Flags.Clean),iI a.Msg.Flags.Type',iI a.Msg.Gateway,iI a.Msg.Radius,iI a.Msg.Time,.p (.bool a.Msg.Timed),iI a.Msg.TopicID,iI a.Msg.MsgID,iI a.Msg.Code,iS a.Msg.Name,iS a.Msg.Data]) (ys := [iI b.Msg.Type',.p (.bool b.Msg.Flags.Dup),iI b.Msg.Flags.QoS,.p (.bool b.Msg.Flags.Retain),.p (.bool b.Msg.Flags.Will),.p (.bool b.Msg.Flags.Clean),iI b.Msg.Flags.Type',iI b.Msg.Gateway,iI b.Msg.Radius,iI b.Msg.Time,.p (.bool b.Msg.Timed),iI b.Msg.TopicID,iI b.Msg.MsgID,iI b.Msg.Code,iS b.Msg.Name,iS b.Msg.Data]) (b:=(((a.Msg.Type':Int) == b.Msg.Type')&&(((a.Msg.Flags.Dup:Bool) == b.Msg.Flags.Dup)&&(((a.Msg.Flags.QoS:Int) == b.Msg.Flags.QoS)&&(((a.Msg.Flags.Retain:Bool) == b.Msg.Flags.Retain)&&(((a.Msg.Flags.Will:Bool) == b.Msg.Flags.Will)&&(((a.Msg.Flags.Clean:Bool) == b.Msg.Flags.Clean)&&(((a.Msg.Flags.Type':Int) == b.Msg.Flags.Type')&&(((a.Msg.Gateway:Int) == b.Msg.Gateway)&&(((a.Msg.Radius:Int) == b.Msg.Radius)&&(((a.Msg.Time:Int) == b.Msg.Time)&&(((a.Msg.Timed:Bool) == b.Msg.Timed)&&(((a.Msg.TopicID:Int) == b.Msg.TopicID)&&(((a.Msg.MsgID:Int) == b.Msg.MsgID)&&(((a.Msg.Code:Int) == b.Msg.Code)&&(((a.Msg.Name:List UInt8) == b.Msg.Name)&&(((a.Msg.Data:List UInt8) == b.Msg.Data)&&true))))))))))))))))) rfl ?_;refine iR h fun h=>?_;refine cP h Q8s (.cons q4 (.cons q4 .nil)) fun v21 h=>?_;cases h;exact (.p _)
def Q5d (N:Nat) (e:Qd) (l:Yz):Option Int:=
 cond (Q4 .eql e.Proto 1)
 ((Q18 N (⟨e.Proto,e.Kind,[],[],0,false,false,0,[],0,[],0,e.Packet,(⟨0,(⟨false,0,false,false,false,0⟩:Q26),0,0,0,false,0,0,0,[],[]⟩:Qbr),(⟨0,0,[],[]⟩:Y2)⟩:Qd) e).bind fun v2=>
 cond (!v2)
 (some 2)
 (cond (Q4 .eql e.Packet.Kind 3)
 (some 2)
 ((Q23 N 4 e.Packet).bind fun v6=>
 some v6)))
 (cond (Q4 .eql e.Proto 2)
 ((Q18 N (⟨e.Proto,e.Kind,[],[],0,false,false,0,[],0,[],0,e.Packet,(⟨0,(⟨false,0,false,false,false,0⟩:Q26),0,0,0,false,0,0,0,[],[]⟩:Qbr),(⟨0,0,[],[]⟩:Y2)⟩:Qd) e).bind fun v9=>
 cond (!v9)
 (some 2)
 (cond (Q4 .eql e.Packet.Kind 3)
 (some 2)
 ((Q23 N 5 e.Packet).bind fun v13=>
 some v13)))
 (cond (Q4 .eql e.Proto 3)
 ((Q18 N (⟨e.Proto,e.Kind,[],[],0,false,false,0,[],0,e.Hops,0,(⟨0,false,false,0,0,[],[],false,0,[],false,[],false,[],false,(⟨[],[],0,false,[]⟩:Y5),false,0,[],[],[]⟩:Q1),e.Msg,(⟨0,0,[],[]⟩:Y2)⟩:Qd) e).bind fun v16=>
 cond (!v16)
 (some 2)
 (cond (Q4 .eql e.Msg.Type' 12)
 (some 2)
 (none)))
 (cond (Q4 .eql e.Proto 4)
 ((Q18 N (⟨e.Proto,e.Kind,[],[],0,false,false,0,[],0,[],0,(⟨0,false,false,0,0,[],[],false,0,[],false,[],false,[],false,(⟨[],[],0,false,[]⟩:Y5),false,0,[],[],[]⟩:Q1),(⟨0,(⟨false,0,false,false,false,0⟩:Q26),0,0,0,false,0,0,0,[],[]⟩:Qbr),e.Frame⟩:Qd) e).bind fun v21=>
 cond (!v21)
 (some 2)
 (none))
 (some 2))))
theorem Qhq {N} {e} {l} {r} (h:Q5d N e l=some r):pU 57 [.agg (Qd.cells e),.agg (Yz.cells l)] (.int .i64 r):=by
 refine Q0 k57 ?_;unfold Q5d at h;rw [cX] at h;refine ifO h (fun hc1 h=>?_) (fun hc1 h=>?_)
 ·refine ifT hc1 ?_;refine cP h Q53 (.cons (Ap (f8_ (.cons (.nil _) (.cons (.p _) (.cons (.nil _) (Qo (Qo (f8_ (f4_ (f1_ (.cons (.nil _) .nil))))))))))) (.cons (Ap (Qo (Qo (Qo za)))) .nil)) fun v2 h=>?_;refine iL h fun h=>?_;refine iL h fun h=>?_;refine ifT hc1 ?_;refine cP h Q7z zd fun v6 h=>?_;cases h;exact (.p _)
 apply iU h<;>intro h
 ·refine cP h Q53 (.cons (Ap (f8_ (.cons (.nil _) (.cons (.p _) (.cons (.nil _) (Qo (Qo (f8_ (f4_ (f1_ (.cons (.nil _) .nil))))))))))) (.cons (Ap (Qo (Qo (Qo za)))) .nil)) fun v9 h=>?_;refine iL h fun h=>?_;refine iL h fun h=>?_;refine ifF hc1 ?_;refine cP h Q7z zd fun v13 h=>?_;cases h;exact (.p _)
 apply iU h<;>intro h
 ·refine Ql ?_;refine cP h Q53 (.cons (Ap (f8_ (.cons (.nil _) (Qo (f4_ (f2_ (.cons (.nil _) (f2_ (.cons (.nil _) (.cons (.nil _) (.cons (.nil _) (Qo (f2_ (f1_ (.cons (.nil _) .nil))))))))))))))) (.cons (Ap (Qo (Qo (Qo za)))) .nil)) fun v16 h=>?_;refine iL h fun h=>?_;refine iL h fun h=>?_
  first | (cases h;done) | (simp [Qcn] at h;done)
 refine iR h fun h=>?_;refine Ql ?_;refine cD h Q53 (.cons (Ap (f8_ (.cons (.nil _) (.cons (.p _) (.cons (.nil _) (Qo (f4_ (.cons (.nil _) (f2_ (.cons (.nil _) (.cons (.nil _) (.cons (.nil _) (f8_ (f4_ (f2_ (.cons (.p _) p5)))))))))))))))) (.cons (Ap (Qo (Qo (Qo za)))) .nil)) fun v21 h=>?_;refine iL h fun h=>?_
 first | (cases h;done) | (simp [Qcn] at h;done)
def Qai (_N:Nat) (l:Yz):Option Bool:=
 cond (Q4 .geq l.MaxPacket 16)
 (cond (Q4 .leq l.MaxPacket 1048576)
 (cond (Q4 .geq l.MaxDepth 0)
 (some (Q4 .leq l.MaxDepth 32))
 (some false))
 (some false))
 (some false)
theorem Qhz {N} {l} {r} (h:Qai N l=some r):pU 55 [.agg (Yz.cells l)] (.bool r):=by
 refine Q0 k55 ?_;unfold Qai at h;rw [cX] at h;refine iR h fun h=>?_;refine iR h fun h=>?_;exact iB h
def Q54 (N:Nat) (e:Qd) (l:Yz):Option Int:=
 (Qai N l).bind fun v1=>
 cond (!v1)
 (some 2)
 (cond (Q4 .eql e.Kind 1)
 ((Q1y N e).bind fun v5=>
 cond (Q4 .neq v5 0)
 (some v5)
 (cond (Q4 .gtr (e.Payload.length:Int) l.MaxPacket)
 (some 4)
 (some 0)))
 (cond (Q4 .eql e.Kind 2)
 ((Q5d N e l).bind fun v10=>
 some v10)
 (some 2)))
theorem Qhv {N} {e} {l} {r} (h:Q54 N e l=some r):pU 29 [.agg (Qd.cells e),.agg (Yz.cells l)] (.int .i64 r):=by
 refine Q0 k29 ?_;unfold Q54 at h;rw [cX] at h;refine cP h Qhz (.cons q2 .nil) fun v1 h=>?_;refine iL h fun h=>?_;apply iU h<;>intro h
 ·refine cP h Qfk (.cons (Ap (Qo (Qo (Qo za)))) .nil) fun v5 h=>?_;refine iL h fun h=>?_;exact iB h
 refine iR h fun h=>?_;refine cP h Qhq (.cons (Ap (Qo (Qo (Qo za)))) (.cons q2 .nil)) fun v10 h=>?_;cases h;exact (.p _)
def Q4h (_N:Nat):Option (Yz):=
 some (⟨1048576,32⟩:Yz)
theorem Qbd {N} {r} (h:Q4h N=some r):pU 30 [] (.agg (Yz.cells r)):=by
 refine Q0 k30 ?_;unfold Q4h at h;obtain rfl:=Qi h;exact q2
def Q2y (_N:Nat) (e:Qd):Option (Q1):=
 some e.Packet
theorem Q95 {N} {e} {r} (h:Q2y N e=some r):pU 31 [.agg (Qd.cells e)] (.agg (Q1.cells r)):=by
 refine Q0 k31 ?_;unfold Q2y at h;obtain rfl:=Qi h;exact zb
def Q1z (N:Nat) (e:Qd):Option (Int×Q1×Int):=
 (U6 N e.Proto).bind fun v1=>
 cond (!v1.2)
 (some (0,(⟨0,false,false,0,0,[],[],false,0,[],false,[],false,[],false,(⟨[],[],0,false,[]⟩:Y5),false,0,[],[],[]⟩:Q1),2))
 ((Q4h N).bind fun v4=>
 (Q54 N e v4).bind fun v6=>
 cond (Q4 .neq v6 0)
 (some (0,(⟨0,false,false,0,0,[],[],false,0,[],false,[],false,[],false,(⟨[],[],0,false,[]⟩:Y5),false,0,[],[],[]⟩:Q1),v6))
 (cond (Q4 .eql e.Kind 1)
 ((Q15 N e).bind fun v10=>
 (Q20 N v10).bind fun v12=>
 some (v1.1,v12,0))
 ((Q15 N e).bind fun v14=>
 (Q2y N v14).bind fun v16=>
 some (v1.1,v16,0))))
theorem Q8p {N} {e} {r} (h:Q1z N e=some r):pU 9 [.agg (Qd.cells e)] (.tuple [.int .i64 r.1,.agg (Q1.cells r.2.1),.int .i64 r.2.2]):=by
 refine Q0 k9 ?_;unfold Q1z at h;rw [cX] at h;refine cP h Q6q p1 fun v1 h=>?_;apply iU h<;>intro h
 ·obtain rfl:=Qi h;exact (Aq (.cons (.p _) (.cons (Ap (Qo (f2_ (f1_ (.cons (.nil _) (f2_ (.cons (.nil _) (.cons (.nil _) (.cons (.nil _) .nil))))))))) p1)))
 refine Ql ?_;refine cD h Qbd p0 fun v4 h=>?_;refine cD h Qhv (.cons (Ap (Qo (Qo (Qo za)))) p1) fun v6 h=>?_;apply iU h<;>intro h
 ·obtain rfl:=Qi h;exact (Aq (.cons (.p _) (.cons (Ap (Qo (f2_ (f1_ (.cons (.nil _) (f2_ (.cons (.nil _) (.cons (.nil _) (.cons (.nil _) .nil))))))))) p1)))
 apply iU h<;>intro h
 ·refine cP h Q5k (.cons (Ap (Qo (Qo (Qo za)))) .nil) fun v10 h=>?_;refine cP h Q7i p1 fun v12 h=>?_;obtain rfl:=Qi h;exact (Aq (.cons (.p _) (.cons zb p1)))
 refine cP h Q5k (.cons (Ap (Qo (Qo (Qo za)))) .nil) fun v14 h=>?_;refine cP h Q95 p1 fun v16 h=>?_;obtain rfl:=Qi h;exact (Aq (.cons (.p _) (.cons zb p1)))
def Xt (rz1:Q2->Q2->Option Bool) (N:Nat) (a:Q2) (b:Q2):Nat->Int->Option Bool
 | 0,_=>none
 | n+1,i22=>
  cond (Q4 .lss i22 ((Q2.rows a.Items).length:Int))
  ((idx a.Items i22).bind fun y24=>
  (idx b.Items i22).bind fun y26=>
  (rz1 y24 y26).bind fun v28=>
  cond (!v28)
  (some false)
  (Xt rz1 N a b n (wrap .i64 (i22+1))))
  (some true)
def Q1q (rz1:Q2->Q2->Option Bool) (N:Nat) (a:Q2) (b:Q2):Option Bool:=
 cond (Q4 .neq a.Kind b.Kind)
 (some false)
 (cond (Q4 .neq a.N' b.N')
 (some false)
 (cond (Q1l .neq a.Text b.Text)
 (some false)
 (cond (Q4 .neq ((Q2.rows a.Items).length:Int) ((Q2.rows b.Items).length:Int))
 (some false)
 (Xt rz1 N a b N 0))))
theorem Qam {rz1:Q2->Q2->Option Bool} (hy2:∀ {a} {b} {r},rz1 a b=some r->pU 64 [.agg (Q2.cells a),.agg (Q2.cells b)] (.bool r)) {N} {a} {b} {r} (h:Q1q rz1 N a b=some r):pU 64 [.agg (Q2.cells a),.agg (Q2.cells b)] (.bool r):=by
 refine Q0 k64 ?_;unfold Q1q at h;rw [cX,cY] at h;refine iL h fun h=>?_;refine iL h fun h=>?_;refine iL h fun h=>?_;refine iL h fun h=>?_;refine lpH (τ:=Int) (fun i22=>(.any :: .any :: .ptr 0 0 :: .ptr 1 0 :: .any::iI i22::a16 (a16 (a8 (a4 (a2 (.any :: []))))):List AV)) (fun n0 i22=>Xt rz1 N a b n0 i22) (0) h fun n0 i22 h=>?_
 first | rw [Xt] at h | simp only [Xt] at h
 rw [cX] at h;refine iR h fun h=>?_;refine Ql ?_;refine Q2.xR h fun y24 h=>?_;refine Q2.xR h fun y26 h=>?_;refine cD h hy2 (.cons q4 (.cons q4 .nil)) fun v28 h=>?_;refine iL h fun h=>?_;show Exists _;exact ⟨(n0,(wrap .i64 (i22+1))),h,Le _,(fun i=>i),Yf⟩
def V0:Nat->Q2->Q2->Option Bool
 | 0=>fun _ _=>none
 | N+1=>Q1q (V0 N) N
theorem Qav {N} {a} {b} {r} (h:V0 N a b=some r):pU 64 [.agg (Q2.cells a),.agg (Q2.cells b)] (.bool r):=by
 induction N generalizing a b r with
 | zero=>simp [V0] at h
 | succ N ih=>exact Qam (fun h=>ih h) h
def Yd (N:Nat) (a:Y2) (b:Y2):Nat->Int->Option Bool
 | 0,_=>none
 | n+1,i22=>
  cond (Q4 .lss i22 ((Q2.rows a.Values).length:Int))
  ((idx a.Values i22).bind fun y24=>
  (idx b.Values i22).bind fun y26=>
  (V0 N y24 y26).bind fun v28=>
  cond (!v28)
  (some false)
  (Yd N a b n (wrap .i64 (i22+1))))
  (some true)
def Us (N:Nat) (a:Y2) (b:Y2):Option Bool:=
 cond (Q4 .neq a.Type' b.Type')
 (some false)
 (cond (Q4 .neq a.Channel b.Channel)
 (some false)
 (cond (Q1l .neq a.Ext b.Ext)
 (some false)
 (cond (Q4 .neq ((Q2.rows a.Values).length:Int) ((Q2.rows b.Values).length:Int))
 (some false)
 (Yd N a b N 0))))
theorem Q5w {N} {a} {b} {r} (h:Us N a b=some r):pU 42 [.agg (Y2.cells a),.agg (Y2.cells b)] (.bool r):=by
 refine Q0 k42 ?_;unfold Us at h;rw [cX,cY] at h;refine iL h fun h=>?_;refine iL h fun h=>?_;refine iL h fun h=>?_;refine iL h fun h=>?_;refine lpH (τ:=Int) (fun i22=>(.any :: .any :: .ptr 0 0 :: .ptr 1 0 :: .any::iI i22::a16 (a16 (a8 (a4 (a2 (.any :: []))))):List AV)) (fun n0 i22=>Yd N a b n0 i22) (0) h fun n0 i22 h=>?_
 first | rw [Yd] at h | simp only [Yd] at h
 rw [cX] at h;refine iR h fun h=>?_;refine Ql ?_;refine Q2.xR h fun y24 h=>?_;refine Q2.xR h fun y26 h=>?_;refine cD h Qav (.cons q4 (.cons q4 .nil)) fun v28 h=>?_;refine iL h fun h=>?_;show Exists _;exact ⟨(n0,(wrap .i64 (i22+1))),h,Le _,(fun i=>i),Yf⟩
end
end
end Go.Av
