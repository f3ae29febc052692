/- Part of the proof of FrommqttBack: for every input the law returns true; no condition. -/
import Derived.Test.YteblaejaahpnaaaGreatDoorLiftF4
import Derived.Test.YteblaejaahpnaaaGreatDoorLiftTy
import Derived.Test.YteblaejaahpnaaaGreatDoorAvBridges
set_option linter.all false
namespace Go.Av
noncomputable section
open Go.Proofs
set_option maxRecDepth 100000
set_option maxHeartbeats 4000000
attribute [local irreducible] Gu U7 Qdf Qij Qut Qug Qi3
section
def Wb (N:Nat) (version:Int) (p:Q1) (e:Qe):Option Bool:=
 (Q10 N).bind fun v1=>
 cond (!v1)
 (some false)
 ((Xz N p).bind fun v4=>
 cond (!v4)
 (some true)
 ((Vt N e).bind fun v7=>
 cond (!v7)
 (some true)
 ((Vu N version p).bind fun v10=>
 (Vh N version p).bind fun v12=>
 cond (Q3 .neq v10 0)
 (cond (Q3 .eql v12.2 0)
 (some false)
 ((X0 N e).bind fun v16=>
 cond (Q3 .neq v16.2.2 0)
 (some (Q3 .eql v16.1 0))
 ((Vh N v16.1 v16.2.1).bind fun v19=>
 (Zf N).bind fun v21=>
 (Wr N e v21).bind fun v23=>
 (Yd N v16.1 v16.2.1).bind fun v25=>
 cond (Q3 .eql v19.2 0)
 ((Y9 N v19.1 e).bind fun v28=>
 cond v28
 (cond (Q3 .eql v23.2 0)
 (cond (Q3 .eql v25.2 0)
 (some (Q0p .eql v23.1 v25.1))
 (some false))
 (some false))
 (some false))
 (some false))))
 (cond (Q3 .eql p.Kind 3)
 (cond (Q0p .eql p.Topic [])
 (cond (Q3 .neq v12.2 11)
 (some false)
 ((X0 N e).bind fun v36=>
 cond (Q3 .neq v36.2.2 0)
 (some (Q3 .eql v36.1 0))
 ((Vh N v36.1 v36.2.1).bind fun v39=>
 (Zf N).bind fun v41=>
 (Wr N e v41).bind fun v43=>
 (Yd N v36.1 v36.2.1).bind fun v45=>
 cond (Q3 .eql v39.2 0)
 ((Y9 N v39.1 e).bind fun v48=>
 cond v48
 (cond (Q3 .eql v43.2 0)
 (cond (Q3 .eql v45.2 0)
 (some (Q0p .eql v43.1 v45.1))
 (some false))
 (some false))
 (some false))
 (some false))))
 ((X0 N v12.1).bind fun v53=>
 cond (Q3 .neq v12.2 0)
 (some false)
 (cond (Q3 .neq v53.2.2 0)
 (some false)
 (cond (Q3 .neq v53.1 version)
 (some false)
 ((Qi N p v53.2.1).bind fun v58=>
 cond (!v58)
 (some false)
 ((Zf N).bind fun v61=>
 (Wq N v12.1 v61).bind fun v63=>
 cond (Q3 .neq v63 0)
 (some false)
 ((X0 N e).bind fun v66=>
 cond (Q3 .neq v66.2.2 0)
 (some (Q3 .eql v66.1 0))
 ((Vh N v66.1 v66.2.1).bind fun v69=>
 (Zf N).bind fun v71=>
 (Wr N e v71).bind fun v73=>
 (Yd N v66.1 v66.2.1).bind fun v75=>
 cond (Q3 .eql v69.2 0)
 ((Y9 N v69.1 e).bind fun v78=>
 cond v78
 (cond (Q3 .eql v73.2 0)
 (cond (Q3 .eql v75.2 0)
 (some (Q0p .eql v73.1 v75.1))
 (some false))
 (some false))
 (some false))
 (some false)))))))))
 ((X0 N v12.1).bind fun v83=>
 cond (Q3 .neq v12.2 0)
 (some false)
 (cond (Q3 .neq v83.2.2 0)
 (some false)
 (cond (Q3 .neq v83.1 version)
 (some false)
 ((Qi N p v83.2.1).bind fun v88=>
 cond (!v88)
 (some false)
 ((Zf N).bind fun v91=>
 (Wq N v12.1 v91).bind fun v93=>
 cond (Q3 .neq v93 0)
 (some false)
 ((X0 N e).bind fun v96=>
 cond (Q3 .neq v96.2.2 0)
 (some (Q3 .eql v96.1 0))
 ((Vh N v96.1 v96.2.1).bind fun v99=>
 (Zf N).bind fun v101=>
 (Wr N e v101).bind fun v103=>
 (Yd N v96.1 v96.2.1).bind fun v105=>
 cond (Q3 .eql v99.2 0)
 ((Y9 N v99.1 e).bind fun v108=>
 cond v108
 (cond (Q3 .eql v103.2 0)
 (cond (Q3 .eql v105.2 0)
 (some (Q0p .eql v103.1 v105.1))
 (some false))
 (some false))
 (some false))
 (some false))))))))))))
theorem Q5p {N} {version} {p} {e} {r} (h:Wb N version p e=some r):pU 3 [.int .i64 version,.agg (Q1.cells p),.agg (Qe.cells e)] (.bool r):=by
 refine Q0 k3 ?_;unfold Wb at h;rw [cX,cY] at h;refine cP h Q8n p0 fun v1 h=>?_;refine iL h fun h=>?_;refine cP h Q2k (.cons (Ap (Qo (f2_ (f1_ (.cons (.p _) p5))))) .nil) fun v4 h=>?_;refine iL h fun h=>?_;refine cP h Q7g (.cons (Ap (Qo (Qo (Qo (f2_ (f1_ (.cons (.p _) p5))))))) .nil) fun v7 h=>?_;refine iL h fun h=>?_;refine cP h Q41 (.cons (.p _) (.cons (Ap (Qo (f2_ (f1_ (.cons (.p _) p5))))) .nil)) fun v10 h=>?_;refine cP h Q0h (.cons (.p _) (.cons (Ap (Qo (f2_ (f1_ (.cons (.p _) p5))))) .nil)) fun v12 h=>?_;apply iU h<;>intro h
 ·refine iL h fun h=>?_;refine cP h Ud (.cons (Ap (Qo (Qo (Qo (f2_ (f1_ (.cons (.p _) p5))))))) .nil) fun v16 h=>?_;refine iL h fun h=>?_;refine cP h Q0h (.cons (.p _) (.cons (Ap (Qo (f2_ (f1_ (.cons (.p _) p5))))) .nil)) fun v19 h=>?_;refine Qk ?_;refine cD h Xi p0 fun v21 h=>?_;refine cD h Q20 (.cons (Ap (Qo (Qo (Qo (f2_ (f1_ (.cons (.p _) p5))))))) p1) fun v23 h=>?_;refine cP h Jv (.cons (.p _) (.cons (Ap (Qo (f2_ (f1_ (.cons (.p _) p5))))) .nil)) fun v25 h=>?_;refine iR h fun h=>?_;refine cP h Uh (.cons (Ap (Qo (Qo (Qo (f2_ (f1_ (.cons (.p _) p5))))))) (.cons (Ap (Qo (Qo (Qo (f2_ (f1_ (.cons (.p _) p5))))))) .nil)) fun v28 h=>?_;refine iR h fun h=>?_;refine iR h fun h=>?_;exact iB h
 apply iU h<;>intro h
 ·apply iU h<;>intro h
  ·refine iL h fun h=>?_;refine cP h Ud (.cons (Ap (Qo (Qo (Qo (f2_ (f1_ (.cons (.p _) p5))))))) .nil) fun v36 h=>?_;refine iL h fun h=>?_;refine cP h Q0h (.cons (.p _) (.cons (Ap (Qo (f2_ (f1_ (.cons (.p _) p5))))) .nil)) fun v39 h=>?_;refine Qk ?_;refine cD h Xi p0 fun v41 h=>?_;refine cD h Q20 (.cons (Ap (Qo (Qo (Qo (f2_ (f1_ (.cons (.p _) p5))))))) p1) fun v43 h=>?_;refine cP h Jv (.cons (.p _) (.cons (Ap (Qo (f2_ (f1_ (.cons (.p _) p5))))) .nil)) fun v45 h=>?_;refine iR h fun h=>?_;refine cP h Uh (.cons (Ap (Qo (Qo (Qo (f2_ (f1_ (.cons (.p _) p5))))))) (.cons (Ap (Qo (Qo (Qo (f2_ (f1_ (.cons (.p _) p5))))))) .nil)) fun v48 h=>?_;refine iR h fun h=>?_;refine iR h fun h=>?_;exact iB h
  refine cP h Ud (.cons (Ap (Qo (Qo (Qo (f2_ (f1_ (.cons (.p _) p5))))))) .nil) fun v53 h=>?_;refine Qk ?_;refine iL h fun h=>?_;refine iL h fun h=>?_;refine iL h fun h=>?_;refine cD h Qs (.cons (Ap (Qo (f2_ (f1_ (.cons (.p _) p5))))) (.cons (Ap (Qo (f2_ (f1_ (.cons (.p _) p5))))) .nil)) fun v58 h=>?_;refine iL h fun h=>?_;refine cD h Xi p0 fun v61 h=>?_;refine cD h Q4c (.cons (Ap (Qo (Qo (Qo (f2_ (f1_ (.cons (.p _) p5))))))) p1) fun v63 h=>?_;refine iL h fun h=>?_;refine cP h Ud (.cons (Ap (Qo (Qo (Qo (f2_ (f1_ (.cons (.p _) p5))))))) .nil) fun v66 h=>?_;refine iL h fun h=>?_;refine cP h Q0h (.cons (.p _) (.cons (Ap (Qo (f2_ (f1_ (.cons (.p _) p5))))) .nil)) fun v69 h=>?_;refine Qk ?_;refine cD h Xi p0 fun v71 h=>?_;refine cD h Q20 (.cons (Ap (Qo (Qo (Qo (f2_ (f1_ (.cons (.p _) p5))))))) p1) fun v73 h=>?_;refine cP h Jv (.cons (.p _) (.cons (Ap (Qo (f2_ (f1_ (.cons (.p _) p5))))) .nil)) fun v75 h=>?_;refine iR h fun h=>?_;refine cP h Uh (.cons (Ap (Qo (Qo (Qo (f2_ (f1_ (.cons (.p _) p5))))))) (.cons (Ap (Qo (Qo (Qo (f2_ (f1_ (.cons (.p _) p5))))))) .nil)) fun v78 h=>?_;refine iR h fun h=>?_;refine iR h fun h=>?_;exact iB h
 refine cP h Ud (.cons (Ap (Qo (Qo (Qo (f2_ (f1_ (.cons (.p _) p5))))))) .nil) fun v83 h=>?_;refine Qk ?_;refine iL h fun h=>?_;refine iL h fun h=>?_;refine iL h fun h=>?_;refine cD h Qs (.cons (Ap (Qo (f2_ (f1_ (.cons (.p _) p5))))) (.cons (Ap (Qo (f2_ (f1_ (.cons (.p _) p5))))) .nil)) fun v88 h=>?_;refine iL h fun h=>?_;refine cD h Xi p0 fun v91 h=>?_;refine cD h Q4c (.cons (Ap (Qo (Qo (Qo (f2_ (f1_ (.cons (.p _) p5))))))) p1) fun v93 h=>?_;refine iL h fun h=>?_;refine cP h Ud (.cons (Ap (Qo (Qo (Qo (f2_ (f1_ (.cons (.p _) p5))))))) .nil) fun v96 h=>?_;refine iL h fun h=>?_;refine cP h Q0h (.cons (.p _) (.cons (Ap (Qo (f2_ (f1_ (.cons (.p _) p5))))) .nil)) fun v99 h=>?_;refine Qk ?_;refine cD h Xi p0 fun v101 h=>?_;refine cD h Q20 (.cons (Ap (Qo (Qo (Qo (f2_ (f1_ (.cons (.p _) p5))))))) p1) fun v103 h=>?_;refine cP h Jv (.cons (.p _) (.cons (Ap (Qo (f2_ (f1_ (.cons (.p _) p5))))) .nil)) fun v105 h=>?_;refine iR h fun h=>?_;refine cP h Uh (.cons (Ap (Qo (Qo (Qo (f2_ (f1_ (.cons (.p _) p5))))))) (.cons (Ap (Qo (Qo (Qo (f2_ (f1_ (.cons (.p _) p5))))))) .nil)) fun v108 h=>?_;refine iR h fun h=>?_;refine iR h fun h=>?_;exact iB h
end
end
end Go.Av
namespace Go.Av
noncomputable section
set_option maxRecDepth 100000
inductive OkV:Q2→Prop
 | mk (k n:Int) (t:List UInt8) (is:List Q2) (hk:IntKind.i64.min≤k∧k≤IntKind.i64.max) (hn:0≤n∧n<18446744073709551616) (ht:t.length≤maxLen) (hl:is.length≤maxLen) (hi:∀ v∈is,OkV v):OkV ⟨k,n,t,is⟩
theorem OkV.kind {v:Q2} (h:OkV v):IntKind.i64.min≤v.Kind∧v.Kind≤IntKind.i64.max:=by cases h;assumption
theorem OkV.num {v:Q2} (h:OkV v):0≤v.N'∧v.N'<18446744073709551616:=by cases h;assumption
theorem OkV.txt {v:Q2} (h:OkV v):v.Text.length≤maxLen:=by cases h;assumption
theorem OkV.len {v:Q2} (h:OkV v):v.Items.length≤maxLen:=by cases h;assumption
theorem OkV.items {v:Q2} (h:OkV v):∀ x∈v.Items,OkV x:=by cases h;assumption
theorem Qy4 (rows:List (List PV)) (h:∀ r∈rows,∃ v:Q2,r=v.cells∧OkV v):∃ l:List Q2,rows=Q2.rows l∧∀ v∈l,OkV v:=by
 induction rows with
 | nil=>exact ⟨[],by simp [Q2.rows],fun v hv=>by cases hv⟩
 | cons r rows ih=>
  obtain ⟨v,rfl,hv⟩:=h r (.head _);obtain ⟨l,rfl,hl⟩:=ih (fun r hr=>h r (.tail _ hr));refine ⟨v::l,by simp only [Q2.rows,Q2.cells_eq],fun u hu=>?_⟩
  rcases Ml.1 hu with rfl | hu
  ·exact hv
  exact hl u hu
theorem Qon (l:List Q2):(Q2.rows l).length=l.length:=by rw [Q2.rows_eq,Q4]
end
end Go.Av
namespace Go.Av
noncomputable section
set_option maxRecDepth 100000
structure OkF (f:Yy):Prop where
 type:IntKind.i64.min≤f.Type'∧f.Type'≤IntKind.i64.max
 chan:IntKind.i64.min≤f.Channel∧f.Channel≤IntKind.i64.max
 ext:f.Ext.length≤maxLen
 len:f.Values.length≤maxLen
 vals:∀ v∈f.Values,OkV v
structure OkL (l:Ua):Prop where
 most:IntKind.i64.min≤l.MaxPacket∧l.MaxPacket≤IntKind.i64.max
 deep:IntKind.i64.min≤l.MaxDepth∧l.MaxDepth≤IntKind.i64.max
end
end Go.Av
