/- Part of FrommqttCalls: the law returns true; no condition. -/
import Derived.Test.YtbcddiagcaddbaaGreatDoorLiftTy
import Derived.Test.YtbcddiagcaddbaaGreatDoorAvBridges
set_option linter.all false
namespace Go.Av
noncomputable section
set_option maxRecDepth 100000
inductive OkV:Q2->Prop
 | mk (k n:Int) (t:List UInt8) (is:List Q2) (hk:IntKind.i64.min≤k∧k≤IntKind.i64.max) (hn:0≤n∧n<18446744073709551616) (ht:t.length≤maxLen) (hl:is.length≤maxLen) (hi:∀ v∈is,OkV v):OkV ⟨k,n,t,is⟩
theorem OkV.kind {v:Q2} (h:OkV v):IntKind.i64.min≤v.Kind∧v.Kind≤IntKind.i64.max:=by cases h;assumption
theorem OkV.num {v:Q2} (h:OkV v):0≤v.N'∧v.N'<18446744073709551616:=by cases h;assumption
theorem OkV.txt {v:Q2} (h:OkV v):v.Text.length≤maxLen:=by cases h;assumption
theorem OkV.len {v:Q2} (h:OkV v):v.Items.length≤maxLen:=by cases h;assumption
theorem OkV.items {v:Q2} (h:OkV v):∀ x∈v.Items,OkV x:=by cases h;assumption
theorem Z05 (rows:List (List PV)) (h:∀ r∈rows,∃ v:Q2,r=v.cells∧OkV v):∃ l:List Q2,rows=Q2.rows l∧∀ v∈l,OkV v:=by
 induction rows with
 | nil=>exact ⟨[],by simp [Q2.rows],fun v hv=>by cases hv⟩
 | cons r rows ih=>
  obtain ⟨v,rfl,hv⟩:=h r (.head _);obtain ⟨l,rfl,hl⟩:=ih (fun r hr=>h r (.tail _ hr));refine ⟨v::l,by simp only [Q2.rows,Q2.cells_eq],fun u hu=>?_⟩
  rcases Ml.1 hu with rfl | hu
  ·exact hv
  exact hl u hu
theorem Qp3 (l:List Q2):(Q2.rows l).length=l.length:=by rw [Q2.rows_eq,Q3]
end
end Go.Av
namespace Go.Av
noncomputable section
set_option maxRecDepth 100000
structure OkF (f:Y2):Prop where
 type:IntKind.i64.min≤f.Type'∧f.Type'≤IntKind.i64.max
 chan:IntKind.i64.min≤f.Channel∧f.Channel≤IntKind.i64.max
 ext:f.Ext.length≤maxLen
 len:f.Values.length≤maxLen
 vals:∀ v∈f.Values,OkV v
structure OkL (l:Yz):Prop where
 most:IntKind.i64.min≤l.MaxPacket∧l.MaxPacket≤IntKind.i64.max
 deep:IntKind.i64.min≤l.MaxDepth∧l.MaxDepth≤IntKind.i64.max
end
end Go.Av
