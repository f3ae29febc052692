/- Part of the proof of CrossKeeps: for every input the law returns true; no condition. -/
import Derived.Test.YtaokaobiihpkbaaGreatDoorLiftTy
import Derived.Test.YtaokaobiihpkbaaGreatDoorAvBridges
set_option linter.all false
namespace Go.Av
noncomputable section
set_option maxRecDepth 100000
inductive OkV:Q0→Prop
 | mk (k n:Int) (t:List UInt8) (is:List Q0) (hk:IntKind.i64.min≤k∧k≤IntKind.i64.max) (hn:0≤n∧n<18446744073709551616) (ht:t.length≤maxLen) (hl:is.length≤maxLen) (hi:∀ v∈is,OkV v):OkV ⟨k,n,t,is⟩
theorem OkV.kind {v:Q0} (h:OkV v):IntKind.i64.min≤v.Kind∧v.Kind≤IntKind.i64.max:=by cases h;assumption
theorem OkV.num {v:Q0} (h:OkV v):0≤v.N'∧v.N'<18446744073709551616:=by cases h;assumption
theorem OkV.txt {v:Q0} (h:OkV v):v.Text.length≤maxLen:=by cases h;assumption
theorem OkV.len {v:Q0} (h:OkV v):v.Items.length≤maxLen:=by cases h;assumption
theorem OkV.items {v:Q0} (h:OkV v):∀ x∈v.Items,OkV x:=by cases h;assumption
theorem Qu1 (rows:List (List PV)) (h:∀ r∈rows,∃ v:Q0,r=v.cells∧OkV v):∃ l:List Q0,rows=Q0.rows l∧∀ v∈l,OkV v:=by
 induction rows with
 | nil=>exact ⟨[],by simp [Q0.rows],fun v hv=>by cases hv⟩
 | cons r rows ih=>
  obtain ⟨v,rfl,hv⟩:=h r (.head _);obtain ⟨l,rfl,hl⟩:=ih (fun r hr=>h r (.tail _ hr));refine ⟨v::l,by simp only [Q0.rows,Q0.cells_eq],fun u hu=>?_⟩
  rcases Mk.1 hu with rfl | hu
  ·exact hv
  exact hl u hu
theorem Qit (l:List Q0):(Q0.rows l).length=l.length:=by rw [Q0.rows_eq,Q5]
end
end Go.Av
