/- Part of FromsnLearns: the law returns true; no condition. -/
import Derived.KernelRfl
import Derived.Shelf.SlSortCmp.NoneTotal
import Derived.Test.YtgkmcegmobfknaaGreatDoorTpColl
import Derived.Test.YtgkmcegmobfknaaGreatDoorLaySort
set_option linter.all false
namespace Go.Av.Tp
open Go Go.Proofs Go.RowKit Go.Maps Go.Sort Go.Shelf
theorem Qit (i:Int) (w:World):Calls Tryz.prog 56 #[.int .i64 i] w fun e w'=>e = .returned (.bool false)∧w'=w:=by
 go_enter Tryz.func56,Tryz.ntmps56
 go_wp2
 go_ret
 exact ⟨by simp,rfl⟩
theorem Qt3:∀ args w,(callFunc 56 args).run Tryz.prog w = .ok (.enter 56 args) w:=enters_of Tryz.func56 (by kernel_rfl) rfl
theorem Qt6:∀ args w,(callFunc 28 args).run Tryz.prog w = .ok (.enter 28 args) w:=enters_of Tryz.func28 (by kernel_rfl) rfl
theorem Qt4:∀ args w,(callFunc 27 args).run Tryz.prog w = .ok (.enter 27 args) w:=enters_of Tryz.func27 (by kernel_rfl) rfl
def Qs9 (x y:Int):Int:=if x<y then -1 else if x>y then 1 else 0
theorem Qoh (x y:Int) (w:World):Calls Tryz.prog 28 #[.int .i64 x,.int .i64 y] w fun e w'=>e = .returned (.int .i64 (Qs9 x y))∧w'=w:=by
 have e56:=Qt3
 by_cases h1:x<y
 ·go_enter Tryz.func28,Tryz.ntmps28
  go_wp2_with (go_at_fn 56;refine (Qit _ _).mono ?_;rintro e w' ⟨rfl,rfl⟩)
  go_ret
  exact ⟨by rw [show Qs9 x y = -1 by unfold Qs9;rw [if_pos (by omega)]];rfl,rfl⟩
 by_cases h2:x>y
 ·go_enter Tryz.func28,Tryz.ntmps28
  go_wp2_with (go_at_fn 56;refine (Qit _ _).mono ?_;rintro e w' ⟨rfl,rfl⟩)
  go_ret
  exact ⟨by rw [show Qs9 x y=1 by unfold Qs9;rw [if_neg (by omega),if_pos (by omega)]];rfl,rfl⟩
 go_enter Tryz.func28,Tryz.ntmps28
 go_wp2_with (go_at_fn 56;refine (Qit _ _).mono ?_;rintro e w' ⟨rfl,rfl⟩)
 go_ret
 exact ⟨by rw [show Qs9 x y=0 by unfold Qs9;rw [if_neg (by omega),if_neg (by omega)]];rfl,rfl⟩
def Ql7 (x y:Tpc):Int:=Qs9 x.1 y.1
theorem Z1w (x y:Tpc) (w:World):Calls Tryz.prog 27 #[Qdn x,Qdn y] w fun e w'=>e = .returned (.int .i64 (Ql7 x y))∧∃ q os',w'=grow (w.drewN q) os':=by
 have e28:=Qt6
 go_enter Tryz.func27,Tryz.ntmps27
 go_wp2_with (go_at_fn 28;refine (Qoh _ _ _).mono ?_;rintro e w' ⟨rfl,rfl⟩)
 go_ret
 refine ⟨rfl,0,#[.cells #[.int .i64 x.1,.string x.2.1,.bool x.2.2] 41,.cells #[.int .i64 y.1,.string y.2.1,.bool y.2.2] 41],?_⟩;rfl
theorem Qud (x y:Tpc):ltOf Ql7 x y=decide (x.1<y.1):=by
 unfold ltOf Ql7 Qs9
 by_cases h:x.1<y.1
 ·rw [if_pos h,decide_eq_true h];rfl
 rw [if_neg h,decide_eq_false h]
 split<;>rfl
theorem Qvb:SWO (ltOf Ql7):=by
 refine ⟨fun x=>?_,fun x y z=>?_,fun x y z=>?_⟩<;>simp only [Qud,decide_eq_true_eq,decide_eq_false_iff_not]<;>omega
end Go.Av.Tp
namespace Go.Av.Tp
open Go Go.Proofs Go.RowKit Go.Maps Go.Sort Go.Shelf
theorem Qbu (x:Tpc):(Q2q x).length=3:=rfl
theorem Qeb (l:List Tpc):(l.flatMap Q2q).length=l.length * 3:=by
 induction l with
 | nil=>rfl
 | cons a l ih=>rw [List.flatMap_cons,List.length_append,ih,Qbu,List.length_cons];omega
theorem Qjd:∀ (l:List Tpc) (t:Nat),t<l.length * 3->(l.flatMap Q2q)[t]? = some ((Q2q l[t / 3]!)[t % 3]!)
 | [],t,h=>by simp at h
 | a::l,t,h=>by
  rw [List.flatMap_cons]
  by_cases ht:t<3
  ·rw [List.getElem?_append_left (by rw [Qbu];exact ht),Nat.div_eq_of_lt ht,Nat.mod_eq_of_lt ht]
   have:t=0∨t=1∨t=2:=by omega
   rcases this with rfl | rfl | rfl<;>rfl
  rw [List.getElem?_append_right (by rw [Qbu];omega),Qbu,Qjd l (t - 3) (by simp at h;omega)]
  have e1:t / 3=(t - 3) / 3+1:=by omega
  have e2:t % 3=(t - 3) % 3:=by omega
  rw [e1,e2];rfl
theorem Qcv (d:Array Tpc) (t:Nat) (h:t<d.size * 3):(d.toList.flatMap Q2q)[t]? = some (flatK Q2q 3 d)[t]! := by
 rw [Qjd _ _ (by simpa using h),get_flatK _ _ _ _ h,getElem!_pos d.toList (t / 3) (by simp;omega),getElem!_pos d (t / 3) (by omega),Array.getElem_toList]
end Go.Av.Tp
