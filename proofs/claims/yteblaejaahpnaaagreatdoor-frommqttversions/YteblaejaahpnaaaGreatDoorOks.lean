/- Part of the proof of FrommqttVersions: for every input the law returns true; no condition. -/
import Derived.Test.YteblaejaahpnaaaGreatDoorLiftTy
import Derived.Test.YteblaejaahpnaaaGreatDoorAvBridges
set_option linter.all false
namespace Go.Av
noncomputable section
set_option maxRecDepth 100000
inductive OkV:Q3→Prop
 | mk (k n:Int) (t:List UInt8) (is:List Q3) (hk:IntKind.i64.min≤k∧k≤IntKind.i64.max) (hn:0≤n∧n<18446744073709551616) (ht:t.length≤maxLen) (hl:is.length≤maxLen) (hi:∀ v∈is,OkV v):OkV ⟨k,n,t,is⟩
theorem OkV.kind {v:Q3} (h:OkV v):IntKind.i64.min≤v.Kind∧v.Kind≤IntKind.i64.max:=by cases h;assumption
theorem OkV.num {v:Q3} (h:OkV v):0≤v.N'∧v.N'<18446744073709551616:=by cases h;assumption
theorem OkV.txt {v:Q3} (h:OkV v):v.Text.length≤maxLen:=by cases h;assumption
theorem OkV.len {v:Q3} (h:OkV v):v.Items.length≤maxLen:=by cases h;assumption
theorem OkV.items {v:Q3} (h:OkV v):∀ x∈v.Items,OkV x:=by cases h;assumption
end
end Go.Av
