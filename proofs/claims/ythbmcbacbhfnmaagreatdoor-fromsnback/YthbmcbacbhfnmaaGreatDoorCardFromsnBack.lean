/- The law. Part of a proof of a given statement: for every input the law returns true and the arguments read as before; no condition beyond the given row. -/
import Derived.Test.YthbmcbacbhfnmaaGreatDoorPlainc
import Derived.Test.YthbmcbacbhfnmaaGreatDoorAvBridges
import Derived.Test.YthbmcbacbhfnmaaGreatDoorFactsFromsnBack
set_option linter.all false
namespace Go.Proofs.YthbmcbacbhfnmaaGreatDoor.FromsnBack
open Go.Av
theorem hin:∀ t∈Tryz.f3.params.toList,t∈T1∧Tryz.prog.readableRec t=true∧t<Tryz.prog.types.size:=by
 intro t ht
 have hall:(Tryz.f3.params.toList.all fun t=>T1.contains t&&Tryz.prog.readableRec t&&decide (t<Tryz.prog.types.size))=true:=by kernel_rfl
 have h:=Ln.1 hall t ht;simp only [Le,Ag,Nv] at h;exact ⟨h.1.1,h.1.2,h.2⟩
def wargs:Array Value := #[.slice none 0 0,.string ⟨#[]⟩,.agg #[.slice none 0 0,.int .i64 0,.bool false,.int .i64 0,.bool false,.bool false,.bool false,.int .i64 0,.int .i64 0,.int .i64 0,.int .i64 0,.bool false,.int .i64 0,.int .i64 0,.int .i64 0,.string ⟨#[]⟩,.string ⟨#[]⟩],.agg #[.int .i64 0,.int .i64 0,.string ⟨#[]⟩,.string ⟨#[]⟩,.int .i64 0,.bool false,.bool false,.int .i64 0,.slice none 0 0,.int .i64 0,.slice none 0 0,.int .i64 0,.int .i64 0,.bool false,.bool false,.int .i64 0,.int .i64 0,.string ⟨#[]⟩,.string ⟨#[]⟩,.bool false,.int .i64 0,.string ⟨#[]⟩,.bool false,.string ⟨#[]⟩,.bool false,.string ⟨#[]⟩,.bool false,.string ⟨#[]⟩,.string ⟨#[]⟩,.int .i64 0,.bool false,.slice none 0 0,.bool false,.int .i64 0,.slice none 0 0,.slice none 0 0,.slice none 0 0,.int .i64 0,.bool false,.int .i64 0,.bool false,.bool false,.bool false,.int .i64 0,.int .i64 0,.int .i64 0,.int .i64 0,.bool false,.int .i64 0,.int .i64 0,.int .i64 0,.string ⟨#[]⟩,.string ⟨#[]⟩,.int .i64 0,.int .i64 0,.string ⟨#[]⟩,.slice none 0 0]]
theorem Z0j (os:Os):laidMet Tryz.prog Rows.fromsnBackRow.laid ((Qho os).forCall (fun _ _=>0) ⟨#[],wargs,[]⟩).memory:=
 laidMet_of_run' 8 (by kernel_rfl) (by kernel_rfl)
theorem reads (os:Os) {H:Type} (enc:TypeId×Value->H):∃ places,DataW.whole enc Tryz.prog ((Qho os).forCall (fun _ _=>0) ⟨#[],wargs,[]⟩).memory Tryz.f3.params.toList Rows.fromsnBackSpec.vars false wargs.toList 8=some ([.nil,.lit (.string []),.agg [.nil,.agg [.lit (.int .i64 0),.agg [.lit (.bool false),.lit (.int .i64 0),.lit (.bool false),.lit (.bool false),.lit (.bool false),.lit (.int .i64 0)],.lit (.int .i64 0),.lit (.int .i64 0),.lit (.int .i64 0),.lit (.bool false),.lit (.int .i64 0),.lit (.int .i64 0),.lit (.int .i64 0),.lit (.string []),.lit (.string [])]],.agg [.lit (.int .i64 0),.lit (.int .i64 0),.lit (.string []),.lit (.string []),.lit (.int .i64 0),.lit (.bool false),.lit (.bool false),.lit (.int .i64 0),.nil,.lit (.int .i64 0),.nil,.lit (.int .i64 0),.agg [.lit (.int .i64 0),.lit (.bool false),.lit (.bool false),.lit (.int .i64 0),.lit (.int .i64 0),.lit (.string []),.lit (.string []),.lit (.bool false),.lit (.int .i64 0),.lit (.string []),.lit (.bool false),.lit (.string []),.lit (.bool false),.lit (.string []),.lit (.bool false),.agg [.lit (.string []),.lit (.string []),.lit (.int .i64 0),.lit (.bool false),.nil],.lit (.bool false),.lit (.int .i64 0),.nil,.nil,.nil],.agg [.lit (.int .i64 0),.agg [.lit (.bool false),.lit (.int .i64 0),.lit (.bool false),.lit (.bool false),.lit (.bool false),.lit (.int .i64 0)],.lit (.int .i64 0),.lit (.int .i64 0),.lit (.int .i64 0),.lit (.bool false),.lit (.int .i64 0),.lit (.int .i64 0),.lit (.int .i64 0),.lit (.string []),.lit (.string [])],.agg [.lit (.int .i64 0),.lit (.int .i64 0),.lit (.string []),.nil]]],[],places):=
 ⟨[],by kernel_rfl⟩
set_option maxRecDepth 100000 in
theorem lifted (os:Os) (started:os.Started) (H:Type) (enc:TypeId×Value->H) (F:Stop.Interp) :
  ReturnsInHanded {} Tryz.checked os 3 .any ((OpenSpec.ofChange Rows.fromsnBackSpec).preRow enc Tryz.prog Tryz.f3 Rows.fromsnBackRow.domain false Rows.fromsnBackRow.laid) (((OpenSpec.ofChange Rows.fromsnBackSpec).at F).post enc Tryz.prog Tryz.f3 false true false false):=by
 obtain ⟨places,hx⟩:=reads os enc;refine returnsInHanded_of_row (C:=Tryz.checked) (s:=OpenSpec.ofChange Rows.fromsnBackSpec) Zym started (by kernel_rfl) Tryz.func3
  (witness_row_at (enc:=enc) (C:=Tryz.checked) false (Qho os) wargs rfl (by kernel_rfl) (by kernel_rfl) (by kernel_rfl)
   (OpenSpec.preRow_of_cond 8 hx (by kernel_rfl) (fun k hk=>by cases hk) (by kernel_rfl) (Z0j os))) ?_
 intro W base args ds gs before hval hW _ _ _ hL _ _;refine Qoy (T:=T1) (Gl:=G1) (tb:=4) Z4b Zcm hin (by kernel_rfl) Tryz.underlying4 rfl (fun H ds h=>?_) Zbp (fun xs hxs=>?_) W base args ds gs before hval hW hL
 ·rw [Tryz.params3] at h
  match ds,h with
  | [_,_,_,_],_=>rfl
 rw [Tryz.params3] at hxs
 match xs,hxs with
 | [x1,x2,x3,x4],h=>
  obtain ⟨h1,h2,h3,h4,_⟩:=h;obtain ⟨a,rfl,hal,ha⟩:=Z0x (c:=Qi.cells) Tryz.underlying22 h1 (fun r h=>Q9h h);obtain ⟨b,rfl,hb⟩:=Qyp Tryz.underlying9 h2;obtain ⟨c,rfl,hc⟩:=Qn5 h3;obtain ⟨d,rfl,hd⟩:=Qu5 h4;exact Q6n ((Z8h a b c d hal hd).choose_spec)
theorem said:Rows.FromsnBackSaid:=
 OpenClaim.holds_of_cond 3 Tryz.f3 rfl rfl rfl rfl rfl rfl rfl ⟨rfl,rfl,rfl,rfl,rfl⟩ rfl rfl rfl rfl rfl (by kernel_rfl) Tryz.func3 facts
  (Aa (by kernel_rfl)) (by unfold Func.isWrapper;first | (rw [Af (by decide +kernel)];kernel_rfl) | (rw [Ae (by decide +kernel)];exact ⟨rfl,rfl⟩))
  (fun os started H enc _ F=>by rw [OpenClaim.pre_eq_preRow];exact lifted os started H enc F)
theorem plain (f:FuncId) (fn:Func) (hf:Tryz.pinned.checked.prog.funcNamed "polyglot/polyglotlaw27.FromsnBack" = some f) (hfn:Tryz.pinned.checked.prog.funcs[f]? = some fn) :
  Rows.fromsnBackCard.stood.looks=Tryz.pinned.checked.prog.looks []∧∀ (j:Nat) t,fn.params[j]? = some t->Tryz.pinned.checked.prog.wantsStandIn t=false:=by
 obtain rfl:f=3:=Am ((show Tryz.prog.funcNamed "polyglot/polyglotlaw27.FromsnBack" = some 3 by kernel_rfl).symm.trans hf) |>.symm
 obtain rfl:fn=Tryz.f3:=(Am (Tryz.func3.symm.trans hfn)).symm;refine ⟨by kernel_rfl,fun j t ht=>?_⟩
 have hall:(Tryz.f3.params.toList.all fun t=>Tryz.prog.wantsStandIn t == false)=true:=by kernel_rfl
 have h:=Ln.1 hall t (by simpa using Array.mem_of_getElem? ht)
 have h2:Tryz.prog.wantsStandIn t=false:=gP
 exact h2
theorem wfT:Rows.fromsnBackRow.wfByText (OpenSpec.ofChange Rows.fromsnBackSpec)=true:=by kernel_rfl
theorem Zbt:Tryz.pinned.checked.prog.mainIs=some (Rows.fromsnBackCard.stood.harness.1,Rows.fromsnBackCard.stood.harness.2.toList):=by kernel_rfl
theorem Zvl:Tryz.prog.funcs.toList.any Func.goes=false:=by kernel_rfl
theorem Zcb {P:Program} (h:P.funcs.toList.any Func.goes=false) (f:FuncId):P.goes f=false:=by
 have h1:∀ g:FuncId,(P.funcs[g]?).any Func.goes=false:=fun g=>by
  cases hg:P.funcs[g]? with
  | none=>rfl
  | some fn=>exact (by simpa using List.any_eq_false.1 h fn (Array.mem_toList_iff.2 (Array.mem_of_getElem? hg)):Func.goes fn=false)
 have h2:P.funcs.any Func.goes=false:=by rw [← Array.any_toList];exact h
 unfold Program.goes;rw [h2,Bool.and_false,Bool.or_false];simp [h1]
theorem Zcu {P:Program} (h:P.funcs.toList.any Func.goes=false) (func:String):P.goesAt .entering func=false:=by
 unfold Program.goesAt Program.goesFrom
 cases P.funcNamed func with
 | none=>rfl
 | some f=>show (P.goes f||false)=false;rw [Zcb h f];rfl
theorem Zbv:false=Rows.fromsnBackRow.goesBy Tryz.pinned.checked.prog:=(Zcu (P:=Tryz.prog) Zvl Rows.fromsnBackRow.func).symm
theorem card:Rows.FromsnBackCardSaid:=
 Claim7.holds_tied_plain_at .later [] _ _ _ _ said (fun _ h=>by cases h) wfT (fun _ h=>by cases h) fromsnBack_row_tie rfl ⟨rfl,rfl⟩ Zbt rfl plain Zbv
end Go.Proofs.YthbmcbacbhfnmaaGreatDoor.FromsnBack
