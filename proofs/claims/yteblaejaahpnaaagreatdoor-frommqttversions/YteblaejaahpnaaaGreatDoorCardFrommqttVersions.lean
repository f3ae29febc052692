/- The law. Part of a proof of a given statement: for every input the law returns true and the arguments read as before; no condition beyond the given row. -/
import Derived.Test.YteblaejaahpnaaaGreatDoorPlainc
import Derived.Test.YteblaejaahpnaaaGreatDoorAvBridges
import Derived.Test.YteblaejaahpnaaaGreatDoorFactsFrommqttVersions
import Derived.Test.YteblaejaahpnaaaGreatDoorShE
set_option linter.all false
namespace Go.Proofs.YteblaejaahpnaaaGreatDoor.FrommqttVersions
open Go.Av
theorem hin:∀ t∈Tryz.f4.params.toList,t∈T1∧Tryz.prog.readableRec t=true∧t<Tryz.prog.types.size:=by
 intro t ht
 have hall:(Tryz.f4.params.toList.all fun t=>T1.contains t&&Tryz.prog.readableRec t&&decide (t<Tryz.prog.types.size))=true:=by kernel_rfl
 have h:=Lx.1 hall t ht;simp only [Lb,decide_eq_true_eq,Nj] at h;exact ⟨h.1.1,h.1.2,h.2⟩
def wargs:Array Value := #[.agg #[.int .i64 0,.bool false,.bool false,.int .i64 0,.int .i64 0,.string ⟨#[]⟩,.string ⟨#[]⟩,.bool false,.int .i64 0,.string ⟨#[]⟩,.bool false,.string ⟨#[]⟩,.bool false,.string ⟨#[]⟩,.bool false,.string ⟨#[]⟩,.string ⟨#[]⟩,.int .i64 0,.bool false,.slice none 0 0,.bool false,.int .i64 0,.slice none 0 0,.slice none 0 0,.slice none 0 0]]
theorem Qm9 (os:Os):laidMet Tryz.prog Rows.frommqttVersionsRow.laid ((Q97 os).forCall (fun _ _=>0) ⟨#[],wargs,[]⟩).memory:=
 laidMet_of_run' 8 (by kernel_rfl) (by kernel_rfl)
theorem reads (os:Os) {H:Type} (enc:TypeId×Value→H):∃ places,DataW.whole enc Tryz.prog ((Q97 os).forCall (fun _ _=>0) ⟨#[],wargs,[]⟩).memory Tryz.f4.params.toList Rows.frommqttVersionsSpec.vars false wargs.toList 8=some ([.agg [.lit (.int .i64 0),.lit (.bool false),.lit (.bool false),.lit (.int .i64 0),.lit (.int .i64 0),.lit (.string []),.lit (.string []),.lit (.bool false),.lit (.int .i64 0),.lit (.string []),.lit (.bool false),.lit (.string []),.lit (.bool false),.lit (.string []),.lit (.bool false),.agg [.lit (.string []),.lit (.string []),.lit (.int .i64 0),.lit (.bool false),.nil],.lit (.bool false),.lit (.int .i64 0),.nil,.nil,.nil]],[],places):=
 ⟨[],by kernel_rfl⟩
set_option maxRecDepth 100000 in
theorem lifted (os:Os) (started:os.Started) (H:Type) (enc:TypeId×Value→H) (F:Stop.Interp) :
  ReturnsInHanded {} Tryz.checked os 4 .any ((OpenSpec.ofChange Rows.frommqttVersionsSpec).preRow enc Tryz.prog Tryz.f4 Rows.frommqttVersionsRow.domain false Rows.frommqttVersionsRow.laid) (((OpenSpec.ofChange Rows.frommqttVersionsSpec).at F).post enc Tryz.prog Tryz.f4 false true false false):=by
 obtain ⟨places,hx⟩:=reads os enc;refine returnsInHanded_of_row (C:=Tryz.checked) (s:=OpenSpec.ofChange Rows.frommqttVersionsSpec) Za7 started (by kernel_rfl) Tryz.func4
  (witness_row_at (enc:=enc) (C:=Tryz.checked) false (Q97 os) wargs rfl (by kernel_rfl) (by kernel_rfl) (by kernel_rfl)
   (OpenSpec.preRow_of_cond 8 hx (by kernel_rfl) (fun k hk=>by cases hk) (by kernel_rfl) (Qm9 os))) ?_
 intro W base args ds gs before hval hW _ _ _ hL _ _;refine Qek (T:=T1) (Gl:=G1) (tb:=4) Qmz Qsx hin (by kernel_rfl) Tryz.underlying4 rfl (fun H ds h=>?_) Qt6 (fun xs hxs=>?_) W base args ds gs before hval hW hL
 ·rw [Tryz.params4] at h
  match ds,h with
  | [_],_=>rfl
 rw [Tryz.params4] at hxs
 match xs,hxs with
 | [x1],h=>
  obtain ⟨h1,_⟩:=h;obtain ⟨a,rfl,ha⟩:=Qg2 h1;exact J3 ((Qic a ha).choose_spec)
theorem said:Rows.FrommqttVersionsSaid:=
 OpenClaim.holds_of_cond 4 Tryz.f4 rfl rfl rfl rfl rfl rfl rfl ⟨rfl,rfl,rfl,rfl,rfl⟩ rfl rfl rfl rfl rfl (by kernel_rfl) Tryz.func4 facts
  (of_decide_eq_true (by kernel_rfl)) (by unfold Func.isWrapper;first | (rw [if_pos (by decide +kernel)];kernel_rfl) | (rw [if_neg (by decide +kernel)];exact ⟨rfl,rfl⟩))
  (fun os started H enc _ F=>by rw [OpenClaim.pre_eq_preRow];exact lifted os started H enc F)
theorem plain (f:FuncId) (fn:Func) (hf:Tryz.pinned.checked.prog.funcNamed "polyglot/polyglotlaw26.FrommqttVersions" = some f) (hfn:Tryz.pinned.checked.prog.funcs[f]? = some fn) :
  Rows.frommqttVersionsCard.stood.looks=Tryz.pinned.checked.prog.looks []∧∀ (j:Nat) t,fn.params[j]? = some t→Tryz.pinned.checked.prog.wantsStandIn t=false:=by
 obtain rfl:f=4:=Option.some.inj ((show Tryz.prog.funcNamed "polyglot/polyglotlaw26.FrommqttVersions" = some 4 by kernel_rfl).symm.trans hf) |>.symm
 obtain rfl:fn=Tryz.f4:=(Option.some.inj (Tryz.func4.symm.trans hfn)).symm;refine ⟨by kernel_rfl,fun j t ht=>?_⟩
 have hall:(Tryz.f4.params.toList.all fun t=>Tryz.prog.wantsStandIn t == false)=true:=by kernel_rfl
 have h:=Lx.1 hall t (by simpa using Array.mem_of_getElem? ht)
 have h2:Tryz.prog.wantsStandIn t=false:=by simpa using h
 exact h2
theorem wfT:Rows.frommqttVersionsRow.wfByText (OpenSpec.ofChange Rows.frommqttVersionsSpec)=true:=by kernel_rfl
theorem Qs3:Tryz.pinned.checked.prog.mainIs=some (Rows.frommqttVersionsCard.stood.harness.1,Rows.frommqttVersionsCard.stood.harness.2.toList):=by kernel_rfl
theorem Zei:Tryz.prog.funcs.toList.any Func.goes=false:=by kernel_rfl
theorem Qsm {P:Program} (h:P.funcs.toList.any Func.goes=false) (f:FuncId):P.goes f=false:=by
 have h1:∀ g:FuncId,(P.funcs[g]?).any Func.goes=false:=fun g=>by
  cases hg:P.funcs[g]? with
  | none=>rfl
  | some fn=>exact (by simpa using Ck.1 h fn (Array.mem_toList_iff.2 (Array.mem_of_getElem? hg)):Func.goes fn=false)
 have h2:P.funcs.any Func.goes=false:=by rw [← Array.any_toList];exact h
 unfold Program.goes;rw [h2,Bool.and_false,Bool.or_false];simp [h1]
theorem Qsk {P:Program} (h:P.funcs.toList.any Func.goes=false) (func:String):P.goesAt .entering func=false:=by
 unfold Program.goesAt Program.goesFrom
 cases P.funcNamed func with
 | none=>rfl
 | some f=>show (P.goes f||false)=false;rw [Qsm h f];rfl
theorem Qs4:false=Rows.frommqttVersionsRow.goesBy Tryz.pinned.checked.prog:=(Qsk (P:=Tryz.prog) Zei Rows.frommqttVersionsRow.func).symm
theorem card:Rows.FrommqttVersionsCardSaid:=
 Claim7.holds_tied_plain_at .later [] _ _ _ _ said (fun _ h=>by cases h) wfT (fun _ h=>by cases h) frommqttVersions_row_tie rfl ⟨rfl,rfl⟩ Qs3 rfl plain Qs4
end Go.Proofs.YteblaejaahpnaaaGreatDoor.FrommqttVersions
