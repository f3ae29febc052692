/- The law. Part of a proof of a given statement: for every input the law returns true and the arguments read as before; no condition beyond the given row. -/
import Derived.Test.YteblaejaahpnaaaGreatDoorPlainc
import Derived.Test.YteblaejaahpnaaaGreatDoorAvBridges
import Derived.Test.YteblaejaahpnaaaGreatDoorFactsFrommqttBack
import Derived.Test.YteblaejaahpnaaaGreatDoorShE
set_option linter.all false
namespace Go.Proofs.YteblaejaahpnaaaGreatDoor.FrommqttBack
open Go.Av
theorem hin:∀ t∈Tryz.f3.params.toList,t∈T1∧Tryz.prog.readableRec t=true∧t<Tryz.prog.types.size:=by
 intro t ht
 have hall:(Tryz.f3.params.toList.all fun t=>T1.contains t&&Tryz.prog.readableRec t&&decide (t<Tryz.prog.types.size))=true:=by kernel_rfl
 have h:=Mf.1 hall t ht;simp only [La,Ag,Mu] at h;exact ⟨h.1.1,h.1.2,h.2⟩
def wargs:Array Value := #[.int .i64 0,.agg #[.int .i64 0,.bool false,.bool false,.int .i64 0,.int .i64 0,.string ⟨#[]⟩,.string ⟨#[]⟩,.bool false,.int .i64 0,.string ⟨#[]⟩,.bool false,.string ⟨#[]⟩,.bool false,.string ⟨#[]⟩,.bool false,.string ⟨#[]⟩,.string ⟨#[]⟩,.int .i64 0,.bool false,.slice none 0 0,.bool false,.int .i64 0,.slice none 0 0,.slice none 0 0,.slice none 0 0],.agg #[.int .i64 0,.int .i64 0,.string ⟨#[]⟩,.string ⟨#[]⟩,.int .i64 0,.bool false,.bool false,.int .i64 0,.slice none 0 0,.int .i64 0,.slice none 0 0,.int .i64 0,.int .i64 0,.bool false,.bool false,.int .i64 0,.int .i64 0,.string ⟨#[]⟩,.string ⟨#[]⟩,.bool false,.int .i64 0,.string ⟨#[]⟩,.bool false,.string ⟨#[]⟩,.bool false,.string ⟨#[]⟩,.bool false,.string ⟨#[]⟩,.string ⟨#[]⟩,.int .i64 0,.bool false,.slice none 0 0,.bool false,.int .i64 0,.slice none 0 0,.slice none 0 0,.slice none 0 0,.int .i64 0,.bool false,.int .i64 0,.bool false,.bool false,.bool false,.int .i64 0,.int .i64 0,.int .i64 0,.int .i64 0,.bool false,.int .i64 0,.int .i64 0,.int .i64 0,.string ⟨#[]⟩,.string ⟨#[]⟩,.int .i64 0,.int .i64 0,.string ⟨#[]⟩,.slice none 0 0]]
theorem Qyh (os:Os):laidMet Tryz.prog Rows.frommqttBackRow.laid ((Qic os).forCall (fun _ _=>0) ⟨#[],wargs,[]⟩).memory:=
 laidMet_of_run' 8 (by kernel_rfl) (by kernel_rfl)
theorem reads (os:Os) {H:Type} (enc:TypeId×Value→H):∃ places,DataW.whole enc Tryz.prog ((Qic os).forCall (fun _ _=>0) ⟨#[],wargs,[]⟩).memory Tryz.f3.params.toList Rows.frommqttBackSpec.vars false wargs.toList 8=some ([.lit (.int .i64 0),.agg [.lit (.int .i64 0),.lit (.bool false),.lit (.bool false),.lit (.int .i64 0),.lit (.int .i64 0),.lit (.string []),.lit (.string []),.lit (.bool false),.lit (.int .i64 0),.lit (.string []),.lit (.bool false),.lit (.string []),.lit (.bool false),.lit (.string []),.lit (.bool false),.agg [.lit (.string []),.lit (.string []),.lit (.int .i64 0),.lit (.bool false),.nil],.lit (.bool false),.lit (.int .i64 0),.nil,.nil,.nil],.agg [.lit (.int .i64 0),.lit (.int .i64 0),.lit (.string []),.lit (.string []),.lit (.int .i64 0),.lit (.bool false),.lit (.bool false),.lit (.int .i64 0),.nil,.lit (.int .i64 0),.nil,.lit (.int .i64 0),.agg [.lit (.int .i64 0),.lit (.bool false),.lit (.bool false),.lit (.int .i64 0),.lit (.int .i64 0),.lit (.string []),.lit (.string []),.lit (.bool false),.lit (.int .i64 0),.lit (.string []),.lit (.bool false),.lit (.string []),.lit (.bool false),.lit (.string []),.lit (.bool false),.agg [.lit (.string []),.lit (.string []),.lit (.int .i64 0),.lit (.bool false),.nil],.lit (.bool false),.lit (.int .i64 0),.nil,.nil,.nil],.agg [.lit (.int .i64 0),.agg [.lit (.bool false),.lit (.int .i64 0),.lit (.bool false),.lit (.bool false),.lit (.bool false),.lit (.int .i64 0)],.lit (.int .i64 0),.lit (.int .i64 0),.lit (.int .i64 0),.lit (.bool false),.lit (.int .i64 0),.lit (.int .i64 0),.lit (.int .i64 0),.lit (.string []),.lit (.string [])],.agg [.lit (.int .i64 0),.lit (.int .i64 0),.lit (.string []),.nil]]],[],places):=
 ⟨[],by kernel_rfl⟩
set_option maxRecDepth 100000 in
theorem lifted (os:Os) (started:os.Started) (H:Type) (enc:TypeId×Value→H) (F:Stop.Interp) :
  ReturnsInHanded {} Tryz.checked os 3 .any ((OpenSpec.ofChange Rows.frommqttBackSpec).preRow enc Tryz.prog Tryz.f3 Rows.frommqttBackRow.domain false Rows.frommqttBackRow.laid) (((OpenSpec.ofChange Rows.frommqttBackSpec).at F).post enc Tryz.prog Tryz.f3 false true false false):=by
 obtain ⟨places,hx⟩:=reads os enc;refine returnsInHanded_of_row (C:=Tryz.checked) (s:=OpenSpec.ofChange Rows.frommqttBackSpec) Zvi started (by kernel_rfl) Tryz.func3
  (witness_row_at (enc:=enc) (C:=Tryz.checked) false (Qic os) wargs rfl (by kernel_rfl) (by kernel_rfl) (by kernel_rfl)
   (OpenSpec.preRow_of_cond 8 hx (by kernel_rfl) (fun k hk=>by cases hk) (by kernel_rfl) (Qyh os))) ?_
 intro W base args ds gs before hval hW _ _ _ hL _ _;refine Qn4 (T:=T1) (Gl:=G1) (tb:=4) Z0d Z95 hin (by kernel_rfl) Tryz.underlying4 rfl (fun H ds h=>?_) Z7w (fun xs hxs=>?_) W base args ds gs before hval hW hL
 ·rw [Tryz.params3] at h
  match ds,h with
  | [_,_,_],_=>rfl
 rw [Tryz.params3] at hxs
 match xs,hxs with
 | [x1,x2,x3],h=>
  obtain ⟨h1,h2,h3,_⟩:=h;obtain ⟨a,rfl,ha⟩:=Qvc Tryz.underlying3 h1;obtain ⟨b,rfl,hb⟩:=Qpf h2;obtain ⟨c,rfl,hc⟩:=Qts h3;exact Q5p ((Z5o a b c hb hc).choose_spec)
theorem said:Rows.FrommqttBackSaid:=
 OpenClaim.holds_of_cond 3 Tryz.f3 rfl rfl rfl rfl rfl rfl rfl ⟨rfl,rfl,rfl,rfl,rfl⟩ rfl rfl rfl rfl rfl (by kernel_rfl) Tryz.func3 facts
  (Aa (by kernel_rfl)) (by unfold Func.isWrapper;first | (rw [Af (by decide +kernel)];kernel_rfl) | (rw [Ae (by decide +kernel)];exact ⟨rfl,rfl⟩))
  (fun os started H enc _ F=>by rw [OpenClaim.pre_eq_preRow];exact lifted os started H enc F)
theorem plain (f:FuncId) (fn:Func) (hf:Tryz.pinned.checked.prog.funcNamed "polyglot/polyglotlaw26.FrommqttBack" = some f) (hfn:Tryz.pinned.checked.prog.funcs[f]? = some fn) :
  Rows.frommqttBackCard.stood.looks=Tryz.pinned.checked.prog.looks []∧∀ (j:Nat) t,fn.params[j]? = some t→Tryz.pinned.checked.prog.wantsStandIn t=false:=by
 obtain rfl:f=3:=Am ((show Tryz.prog.funcNamed "polyglot/polyglotlaw26.FrommqttBack" = some 3 by kernel_rfl).symm.trans hf) |>.symm
 obtain rfl:fn=Tryz.f3:=(Am (Tryz.func3.symm.trans hfn)).symm;refine ⟨by kernel_rfl,fun j t ht=>?_⟩
 have hall:(Tryz.f3.params.toList.all fun t=>Tryz.prog.wantsStandIn t == false)=true:=by kernel_rfl
 have h:=Mf.1 hall t (by simpa using Array.mem_of_getElem? ht)
 have h2:Tryz.prog.wantsStandIn t=false:=by simpa using h
 exact h2
theorem wfT:Rows.frommqttBackRow.wfByText (OpenSpec.ofChange Rows.frommqttBackSpec)=true:=by kernel_rfl
theorem Z7r:Tryz.pinned.checked.prog.mainIs=some (Rows.frommqttBackCard.stood.harness.1,Rows.frommqttBackCard.stood.harness.2.toList):=by kernel_rfl
theorem Zwt:Tryz.prog.funcs.toList.any Func.goes=false:=by kernel_rfl
theorem Z8m {P:Program} (h:P.funcs.toList.any Func.goes=false) (f:FuncId):P.goes f=false:=by
 have h1:∀ g:FuncId,(P.funcs[g]?).any Func.goes=false:=fun g=>by
  cases hg:P.funcs[g]? with
  | none=>rfl
  | some fn=>exact (by simpa using Cz.1 h fn (Array.mem_toList_iff.2 (Array.mem_of_getElem? hg)):Func.goes fn=false)
 have h2:P.funcs.any Func.goes=false:=by rw [← Array.any_toList];exact h
 unfold Program.goes;rw [h2,Bool.and_false,Dk];simp [h1]
theorem Z94 {P:Program} (h:P.funcs.toList.any Func.goes=false) (func:String):P.goesAt .entering func=false:=by
 unfold Program.goesAt Program.goesFrom
 cases P.funcNamed func with
 | none=>rfl
 | some f=>show (P.goes f||false)=false;rw [Z8m h f];rfl
theorem Z7j:false=Rows.frommqttBackRow.goesBy Tryz.pinned.checked.prog:=(Z94 (P:=Tryz.prog) Zwt Rows.frommqttBackRow.func).symm
theorem card:Rows.FrommqttBackCardSaid:=
 Claim7.holds_tied_plain_at .later [] _ _ _ _ said (fun _ h=>by cases h) wfT (fun _ h=>by cases h) frommqttBack_row_tie rfl ⟨rfl,rfl⟩ Z7r rfl plain Z7j
end Go.Proofs.YteblaejaahpnaaaGreatDoor.FrommqttBack
