/- The law. Part of a proof of a given statement: for every input the law returns true and the arguments read as before; no condition beyond the given row. -/
import Derived.Test.YtaokaobiihpkbaaGreatDoorPlainc
import Derived.Test.YtaokaobiihpkbaaGreatDoorAvBridges
import Derived.Test.YtaokaobiihpkbaaGreatDoorFactsCrossRound
set_option linter.all false
namespace Go.Proofs.YtaokaobiihpkbaaGreatDoor.CrossRound
open Go.Av
theorem hin:∀ t∈Tryz.f4.params.toList,t∈T1∧Tryz.prog.readableRec t=true∧t<Tryz.prog.types.size:=by
 intro t ht
 have hall:(Tryz.f4.params.toList.all fun t=>T1.contains t&&Tryz.prog.readableRec t&&decide (t<Tryz.prog.types.size))=true:=by kernel_rfl
 have h:=Lp.1 hall t ht;simp only [Lb,decide_eq_true_eq,Nv] at h;exact ⟨h.1.1,h.1.2,h.2⟩
def wargs:Array Value := #[.slice none 0 0,.string ⟨#[]⟩,.string ⟨#[]⟩,.string ⟨#[]⟩,.int .i64 0,.bool false]
theorem Qrl (os:Os):laidMet Tryz.prog Rows.crossRoundRow.laid ((Qbb os).forCall (fun _ _=>0) ⟨#[],wargs,[]⟩).memory:=
 laidMet_of_run' 8 (by kernel_rfl) (by kernel_rfl)
theorem reads (os:Os) {H:Type} (enc:TypeId×Value→H):∃ places,DataW.whole enc Tryz.prog ((Qbb os).forCall (fun _ _=>0) ⟨#[],wargs,[]⟩).memory Tryz.f4.params.toList Rows.crossRoundSpec.vars false wargs.toList 8=some ([.nil,.lit (.string []),.lit (.string []),.lit (.string []),.lit (.int .i64 0),.lit (.bool false)],[],places):=
 ⟨[],by kernel_rfl⟩
set_option maxRecDepth 100000 in
theorem lifted (os:Os) (started:os.Started) (H:Type) (enc:TypeId×Value→H) (F:Stop.Interp) :
  ReturnsInHanded {} Tryz.checked os 4 .any ((OpenSpec.ofChange Rows.crossRoundSpec).preRow enc Tryz.prog Tryz.f4 Rows.crossRoundRow.domain false Rows.crossRoundRow.laid) (((OpenSpec.ofChange Rows.crossRoundSpec).at F).post enc Tryz.prog Tryz.f4 false true false false):=by
 obtain ⟨places,hx⟩:=reads os enc;refine returnsInHanded_of_row (C:=Tryz.checked) (s:=OpenSpec.ofChange Rows.crossRoundSpec) Zcx started (by kernel_rfl) Tryz.func4
  (witness_row_at (enc:=enc) (C:=Tryz.checked) false (Qbb os) wargs rfl (by kernel_rfl) (by kernel_rfl) (by kernel_rfl)
   (OpenSpec.preRow_of_cond 8 hx (by kernel_rfl) (fun k hk=>by cases hk) (by kernel_rfl) (Qrl os))) ?_
 intro W base args ds gs before hval hW _ _ _ hL _ _;refine Qhr (T:=T1) (Gl:=G1) (tb:=4) Qsr Z02 hin (by kernel_rfl) Tryz.underlying4 rfl (fun H ds h=>?_) Qzp (fun xs hxs=>?_) W base args ds gs before hval hW hL
 ·rw [Tryz.params4] at h
  match ds,h with
  | [_,_,_,_,_,_],_=>rfl
 rw [Tryz.params4] at hxs
 match xs,hxs with
 | [x1,x2,x3,x4,x5,x6],h=>
  obtain ⟨h1,h2,h3,h4,h5,h6,_⟩:=h;obtain ⟨a,rfl,hal,ha⟩:=Qs6 (c:=Q8.cells) Tryz.underlying22 h1 (fun r h=>Q4p h);obtain ⟨b,rfl,hb⟩:=Qje Tryz.underlying9 h2;obtain ⟨c,rfl,hc⟩:=Qje Tryz.underlying9 h3;obtain ⟨d,rfl,hd⟩:=Qje Tryz.underlying9 h4;obtain ⟨e,rfl,he⟩:=Qux Tryz.underlying3 h5;obtain ⟨f,rfl⟩:=Qqn Tryz.underlying4 h6;exact Q1q ((Que a b c d e f hal).choose_spec)
theorem said:Rows.CrossRoundSaid:=
 OpenClaim.holds_of_cond 4 Tryz.f4 rfl rfl rfl rfl rfl rfl rfl ⟨rfl,rfl,rfl,rfl,rfl⟩ rfl rfl rfl rfl rfl (by kernel_rfl) Tryz.func4 facts
  (of_decide_eq_true (by kernel_rfl)) (by unfold Func.isWrapper;first | (rw [if_pos (by decide +kernel)];kernel_rfl) | (rw [if_neg (by decide +kernel)];exact ⟨rfl,rfl⟩))
  (fun os started H enc _ F=>by rw [OpenClaim.pre_eq_preRow];exact lifted os started H enc F)
theorem plain (f:FuncId) (fn:Func) (hf:Tryz.pinned.checked.prog.funcNamed "polyglot/polyglotlaw28.CrossRound" = some f) (hfn:Tryz.pinned.checked.prog.funcs[f]? = some fn) :
  Rows.crossRoundCard.stood.looks=Tryz.pinned.checked.prog.looks []∧∀ (j:Nat) t,fn.params[j]? = some t→Tryz.pinned.checked.prog.wantsStandIn t=false:=by
 obtain rfl:f=4:=Option.some.inj ((show Tryz.prog.funcNamed "polyglot/polyglotlaw28.CrossRound" = some 4 by kernel_rfl).symm.trans hf) |>.symm
 obtain rfl:fn=Tryz.f4:=(Option.some.inj (Tryz.func4.symm.trans hfn)).symm;refine ⟨by kernel_rfl,fun j t ht=>?_⟩
 have hall:(Tryz.f4.params.toList.all fun t=>Tryz.prog.wantsStandIn t == false)=true:=by kernel_rfl
 have h:=Lp.1 hall t (by simpa using Array.mem_of_getElem? ht)
 have h2:Tryz.prog.wantsStandIn t=false:=by simpa using h
 exact h2
theorem wfT:Rows.crossRoundRow.wfByText (OpenSpec.ofChange Rows.crossRoundSpec)=true:=by kernel_rfl
theorem Qz3:Tryz.pinned.checked.prog.mainIs=some (Rows.crossRoundCard.stood.harness.1,Rows.crossRoundCard.stood.harness.2.toList):=by kernel_rfl
theorem Zhg:Tryz.prog.funcs.toList.any Func.goes=false:=by kernel_rfl
theorem Qzl {P:Program} (h:P.funcs.toList.any Func.goes=false) (f:FuncId):P.goes f=false:=by
 have h1:∀ g:FuncId,(P.funcs[g]?).any Func.goes=false:=fun g=>by
  cases hg:P.funcs[g]? with
  | none=>rfl
  | some fn=>exact (by simpa using Cw.1 h fn (Array.mem_toList_iff.2 (Array.mem_of_getElem? hg)):Func.goes fn=false)
 have h2:P.funcs.any Func.goes=false:=by rw [← Array.any_toList];exact h
 unfold Program.goes;rw [h2,Bool.and_false,Cu];simp [h1]
theorem Qz2 {P:Program} (h:P.funcs.toList.any Func.goes=false) (func:String):P.goesAt .entering func=false:=by
 unfold Program.goesAt Program.goesFrom
 cases P.funcNamed func with
 | none=>rfl
 | some f=>show (P.goes f||false)=false;rw [Qzl h f];rfl
theorem Z0a:false=Rows.crossRoundRow.goesBy Tryz.pinned.checked.prog:=(Qz2 (P:=Tryz.prog) Zhg Rows.crossRoundRow.func).symm
theorem card:Rows.CrossRoundCardSaid:=
 Claim7.holds_tied_plain_at .later [] _ _ _ _ said (fun _ h=>by cases h) wfT (fun _ h=>by cases h) crossRound_row_tie rfl ⟨rfl,rfl⟩ Qz3 rfl plain Z0a
end Go.Proofs.YtaokaobiihpkbaaGreatDoor.CrossRound
