/- The law. Part of a proof of a given statement: for every input the law returns true and the arguments read as before; no condition beyond the given row. -/
import Derived.Test.YtfgpphgmjcnleaaGreatDoorPlainc
import Derived.Test.YtfgpphgmjcnleaaGreatDoorAvBridges
set_option linter.all false
namespace Go.Proofs.YtfgpphgmjcnleaaGreatDoor.FromsnNames
open Go.Av
theorem hin:∀ t∈Tryz.f3.params.toList,t∈T1∧Tryz.prog.readableRec t=true∧t<Tryz.prog.types.size:=by
 intro t ht
 have hall:(Tryz.f3.params.toList.all fun t=>T1.contains t&&Tryz.prog.readableRec t&&decide (t<Tryz.prog.types.size))=true:=by kernel_rfl
 have h:=Lp.1 hall t ht;simp only [Lb,Ag,Nn] at h;exact ⟨h.1.1,h.1.2,h.2⟩
def wargs:Array Value := #[]
theorem Qnl (os:Os):laidMet Tryz.prog Rows.fromsnNamesRow.laid ((Q9l os).forCall (fun _ _=>0) ⟨#[],wargs,[]⟩).memory:=
 laidMet_of_run' 8 (by kernel_rfl) (by kernel_rfl)
theorem reads (os:Os) {H:Type} (enc:TypeId×Value->H):∃ places,DataW.whole enc Tryz.prog ((Q9l os).forCall (fun _ _=>0) ⟨#[],wargs,[]⟩).memory Tryz.f3.params.toList Rows.fromsnNamesSpec.vars false wargs.toList 8=some ([],[],places):=
 ⟨[],by kernel_rfl⟩
set_option maxRecDepth 100000 in
theorem lifted (os:Os) (started:os.Started) (H:Type) (enc:TypeId×Value->H) (F:Stop.Interp) :
  ReturnsInHanded {} Tryz.checked os 3 .any ((OpenSpec.ofChange Rows.fromsnNamesSpec).preRow enc Tryz.prog Tryz.f3 Rows.fromsnNamesRow.domain false Rows.fromsnNamesRow.laid) (((OpenSpec.ofChange Rows.fromsnNamesSpec).at F).post enc Tryz.prog Tryz.f3 false true false false):=by
 obtain ⟨places,hx⟩:=reads os enc;refine returnsInHanded_of_row (C:=Tryz.checked) (s:=OpenSpec.ofChange Rows.fromsnNamesSpec) Z7j started (by kernel_rfl) Tryz.func3
  (witness_row_at (enc:=enc) (C:=Tryz.checked) false (Q9l os) wargs rfl (by kernel_rfl) (by kernel_rfl) (by kernel_rfl)
   (OpenSpec.preRow_of_cond 8 hx (by kernel_rfl) (fun k hk=>by cases hk) (by kernel_rfl) (Qnl os))) ?_
 intro W base args ds gs before hval hW _ _ _ hL _ _;refine Qff (T:=T1) (Gl:=G1) (tb:=4) Qog Qto hin (by kernel_rfl) Tryz.underlying4 rfl (fun H ds h=>?_) Qtv (fun xs hxs=>?_) W base args ds gs before hval hW hL
 ·rw [Tryz.params3] at h
  match ds,h with
  | [],_=>rfl
 rw [Tryz.params3] at hxs
 match xs,hxs with
 | [],_=>
  exact Gj (Qqw)
theorem said:Rows.FromsnNamesSaid:=
 OpenClaim.holds_of_cond 3 Tryz.f3 rfl rfl rfl rfl rfl rfl rfl ⟨rfl,rfl,rfl,rfl,rfl⟩ rfl rfl rfl rfl rfl (by kernel_rfl) Tryz.func3 facts
  (Aa (by kernel_rfl)) (by unfold Func.isWrapper;first | (rw [Af (by decide +kernel)];kernel_rfl) | (rw [Ae (by decide +kernel)];exact ⟨rfl,rfl⟩))
  (fun os started H enc _ F=>by rw [OpenClaim.pre_eq_preRow];exact lifted os started H enc F)
theorem plain (f:FuncId) (fn:Func) (hf:Tryz.pinned.checked.prog.funcNamed "polyglot/polyglotlaw27.FromsnNames" = some f) (hfn:Tryz.pinned.checked.prog.funcs[f]? = some fn) :
  Rows.fromsnNamesCard.stood.looks=Tryz.pinned.checked.prog.looks []∧∀ (j:Nat) t,fn.params[j]? = some t->Tryz.pinned.checked.prog.wantsStandIn t=false:=by
 obtain rfl:f=3:=Am ((show Tryz.prog.funcNamed "polyglot/polyglotlaw27.FromsnNames" = some 3 by kernel_rfl).symm.trans hf) |>.symm
 obtain rfl:fn=Tryz.f3:=(Am (Tryz.func3.symm.trans hfn)).symm;refine ⟨by kernel_rfl,fun j t ht=>?_⟩
 have hall:(Tryz.f3.params.toList.all fun t=>Tryz.prog.wantsStandIn t == false)=true:=by kernel_rfl
 have h:=Lp.1 hall t (by simpa using Array.mem_of_getElem? ht)
 have h2:Tryz.prog.wantsStandIn t=false:=by simpa using h
 exact h2
theorem wfT:Rows.fromsnNamesRow.wfByText (OpenSpec.ofChange Rows.fromsnNamesSpec)=true:=by kernel_rfl
theorem Qtj:Tryz.pinned.checked.prog.mainIs=some (Rows.fromsnNamesCard.stood.harness.1,Rows.fromsnNamesCard.stood.harness.2.toList):=by kernel_rfl
theorem Z9f:Tryz.prog.funcs.toList.any Func.goes=false:=by kernel_rfl
theorem Quf {P:Program} (h:P.funcs.toList.any Func.goes=false) (f:FuncId):P.goes f=false:=by
 have h1:∀ g:FuncId,(P.funcs[g]?).any Func.goes=false:=fun g=>by
  cases hg:P.funcs[g]? with
  | none=>rfl
  | some fn=>exact (by simpa using List.any_eq_false.1 h fn (Array.mem_toList_iff.2 (Array.mem_of_getElem? hg)):Func.goes fn=false)
 have h2:P.funcs.any Func.goes=false:=by rw [← Array.any_toList];exact h
 unfold Program.goes;rw [h2,Bool.and_false,Ch];simp [h1]
theorem Qtt {P:Program} (h:P.funcs.toList.any Func.goes=false) (func:String):P.goesAt .entering func=false:=by
 unfold Program.goesAt Program.goesFrom
 cases P.funcNamed func with
 | none=>rfl
 | some f=>show (P.goes f||false)=false;rw [Quf h f];rfl
theorem Qtg:false=Rows.fromsnNamesRow.goesBy Tryz.pinned.checked.prog:=(Qtt (P:=Tryz.prog) Z9f Rows.fromsnNamesRow.func).symm
theorem card:Rows.FromsnNamesCardSaid:=
 Claim7.holds_tied_plain_at .later [] _ _ _ _ said (fun _ h=>by cases h) wfT (fun _ h=>by cases h) fromsnNames_row_tie rfl ⟨rfl,rfl⟩ Qtj rfl plain Qtg
end Go.Proofs.YtfgpphgmjcnleaaGreatDoor.FromsnNames
