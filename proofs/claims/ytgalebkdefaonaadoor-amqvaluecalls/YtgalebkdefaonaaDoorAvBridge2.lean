/- An abstract machine for the modelled code, and what its runs say of real calls. Part of a proof of a given statement: for every input the law returns true and the arguments read as before; no condition beyond the given row. -/
import Derived.Test.YtgalebkdefaonaaDoorAvBridge
import Derived.Below
import Derived.ChangeSame
namespace Go.Av
noncomputable section
open Go.RowKit Go.WideShapes Go.ChangeShapes
section
variable {H : Type} {enc : TypeId × Value → H} {P : Program}
theorem post_of_below {f : Func} {s : ChangeSpec} {apart fresh handsOn again : Bool} {W W' : World} {args : Array Value} {v : Value} {ds gs : List (DataW H)} {before pa pv : List MemPlace}
  (hW : DataW.Whole enc P f.params.toList s.vars apart W args.toList ds gs before)
  (hres : ∀ (b : Nat) (sp : Nat → Bool) (hd : Bool), DataW.TrodAll enc P W' b sp hd f.resultTypes.toList (v.resultList f.resultTypes.size) (s.fn H (ds ++ gs)).results [])
  (hargs : ∀ sp : Nat → Bool, (∀ p ∈ before, sp p.block = true) → DataW.TrodAll enc P W' 0 sp true f.params.toList args.toList (s.fn H (ds ++ gs)).args pa)
  (hvars : ∀ sp : Nat → Bool, (∀ p ∈ before, sp p.block = true) → DataW.TrodVars enc P W' sp s.vars (s.fn H (ds ++ gs)).vars pv)
  (hps : before = pa ++ pv) (hb : Below W.heap.size W W')
  (hok : ∀ (j : Nat) (t : TypeId) (r : Value), f.resultTypes[j]? = some t → (v.resultList f.resultTypes.size)[j]? = some r → Value.okWide P W' .any 0 t r) :
  s.post enc P f apart fresh handsOn again W args v W' := by
 have hlt : ∀ p ∈ before, p.block < W.heap.size := fun p hp => hW.lt p hp
 have hold : ∀ p ∈ before, (fun b => decide (b < W.heap.size)) p.block = true := fun p hp => by simpa using hlt p hp
 refine ⟨ds, gs, before, [], pa, pv, hW, hres _ _ _, hargs _ hold, hvars _ hold, World.keptBut_mono (fun p hp => ⟨hp, ?_⟩) (hb.frame (· ∈ before)), fun _ => ?_⟩
 ·rw [hps, List.mem_append] at hp
  exact Or.inr hp
 ·obtain ⟨_, _, _, _, _, hz, hn⟩ := hW
  refine ⟨hok, _, _, ([] ++ pa) ++ pv, ⟨[] ++ pa, pv, trodAll_append (hargs _ (fun _ _ => rfl)) (hres _ _ _), hvars _ (fun _ _ => rfl), rfl, ?_, ?_⟩, ?_⟩
  ·intro b off hp
   have hin : MemPlace.cell b off ∈ before := by rw [hps]; simpa using hp
   rw [hb.frozen (hlt _ hin)]
   exact hz b off hin
  ·intro ha
   have := hn ha
   rw [hps] at this
   simpa using this
  ·intro p hp _
   rw [hps]
   simpa using hp

def ArgIs (P : Program) (t : TypeId) (x : PV) : Prop := match P.underlying t with
 | some (.struct _) => ∃ ps, Sh P t ps ∧ x = .agg ps
 | some (.array _ _) => ∃ ps, Sh P t ps ∧ x = .agg ps
 | _ => Sh P t [x]
def ArgsAre (P : Program) : List TypeId → List PV → Prop
 | [], [] => True
 | t :: ts, x :: xs => ArgIs P t x ∧ ArgsAre P ts xs
 | _, _ => False

theorem arg_got {T : List TypeId} (hT : plainB P T = true) {w : World} {b0 : Nat} {r : Reach} {sp : Nat → Bool} {held : Bool} {t : TypeId} (ht : t ∈ T) {v : Value} {d : DataW H} {p : List MemPlace} (hval : Value.okWide P w r b0 t v) (h : DataW.Trod enc P w 0 sp held t v d p) :
  ∃ x, ArgIs P t x ∧ RelP (fun _ => True) w x v := by
 obtain ⟨n, hn⟩ := h
 obtain ⟨ps, h1, h2⟩ := got hT n t _ _ ht hn
 have hp := List.all_eq_true.1 hT t ht
 have one : (∀ cs, v ≠ .agg cs) → (match P.underlying t with | some (.struct _) => False | some (.array _ _) => False | _ => True) → ∃ x, ArgIs P t x ∧ RelP (fun _ => True) w x v := by
  intro hv hu
  have hc : v.cells.toList = [v] := by cases v <;> first | rfl | (exact absurd rfl (hv _))
  rw [hc] at h2
  obtain ⟨l1, _, l3⟩ := h2
  match ps, l1 with
  | [x], _ =>
   refine ⟨x, ?_, by simpa using l3 0 x rfl⟩
   unfold ArgIs
   split
   ·rename_i hh; rw [hh] at hu; exact hu.elim
   ·rename_i hh; rw [hh] at hu; exact hu.elim
   ·exact h1
 have ag : ∀ cs, v = .agg cs → (match P.underlying t with | some (.struct _) => True | some (.array _ _) => True | _ => False) → ∃ x, ArgIs P t x ∧ RelP (fun _ => True) w x v := by
  intro cs hv hu
  subst hv
  refine ⟨.agg ps, ?_, .agg ps cs (by simpa [Value.cells] using h2.1) (by simpa [Value.cells] using h2.2.1) (fun i x hx => by rw [getD_toList]; simpa [Value.cells] using h2.2.2 i x hx)⟩
  unfold ArgIs
  split
  ·exact ⟨ps, h1, rfl⟩
  ·exact ⟨ps, h1, rfl⟩
  ·rename_i n1 n2
   split at hu
   ·rename_i e; exact absurd e (n1 _)
   ·rename_i e; exact absurd e (n2 _ _)
   ·exact hu.elim
 unfold Value.okWide at hval
 split at hval
 ·rename_i hu
  obtain ⟨cs, rfl, _⟩ := hval
  exact ag cs rfl (by rw [hu]; trivial)
 ·rename_i hu
  obtain ⟨cs, rfl, _⟩ := hval
  exact ag cs rfl (by rw [hu]; trivial)
 ·rename_i hu1 hu2
  refine one (fun cs hv => ?_) ?_
  ·subst hv
   unfold Cell.okWide at hval
   split at hval <;> rename_i q1 q2 <;> first | (cases q2; done) | skip
   unfold Cell.ok at hval
   split at hval <;> rename_i q1 q2 <;> first | (cases q2; done) | (exact hval.elim)
  ·split
   ·rename_i hh; exact hu1 _ hh
   ·rename_i hh; exact hu2 _ _ hh
   ·trivial

theorem args_got {T : List TypeId} (hT : plainB P T = true) {w : World} {b0 : Nat} {r : Reach} {sp : Nat → Bool} {held : Bool} : ∀ (ts : List TypeId) (vs : List Value) (ds : List (DataW H)) (p : List MemPlace), (∀ t ∈ ts, t ∈ T) →
  (∀ (j : Nat) t v, ts[j]? = some t → vs[j]? = some v → Value.okWide P w r b0 t v) → DataW.TrodAll enc P w 0 sp held ts vs ds p →
  ∃ xs, ArgsAre P ts xs ∧ xs.length = vs.length ∧ ds.length = ts.length ∧ ∀ (i : Nat) x, xs[i]? = some x → RelP (fun _ => True) w x (vs.getD i vundef)
 | [], [], [], _, _, _, _ => ⟨[], trivial, rfl, rfl, fun i x h => by simp at h⟩
 | t :: ts, v :: vs, d :: ds, _, hin, hval, ⟨p, q, h1, h2, _⟩ => by
  obtain ⟨x, x1, x2⟩ := arg_got hT (hin t (by simp)) (hval 0 t v rfl rfl) h1
  obtain ⟨xs, y1, y2, y3, y4⟩ := args_got hT ts vs ds q (fun t ht => hin t (by simp [ht])) (fun j t v hj hv => hval (j + 1) t v (by simpa using hj) (by simpa using hv)) h2
  refine ⟨x :: xs, ⟨x1, y1⟩, by simp [y2], by simp [y3], fun i y hy => ?_⟩
  cases i with
  | zero => simp at hy; subst hy; exact x2
  | succ i => simpa using y4 i y (by simpa using hy)
 | [], _ :: _, _, _, _, _, h => by simp [DataW.TrodAll] at h
 | _ :: _, [], _, _, _, _, h => by simp [DataW.TrodAll] at h
 | [], [], _ :: _, _, _, _, h => by simp [DataW.TrodAll] at h
 | _ :: _, _ :: _, [], _, _, _, h => by simp [DataW.TrodAll] at h

theorem trodAll_stays (hl : laidOutB P = true) {W W' : World} {sp' : Nat → Bool} : ∀ (ts : List TypeId) (vs : List Value) (ds : List (DataW H)) (ps : List MemPlace), (∀ t ∈ ts, P.readableRec t = true ∧ t < P.types.size) →
  DataW.TrodAll enc P W 0 (fun _ => true) true ts vs ds ps → (∀ p ∈ ps, W.sameAt W' p) → (∀ p ∈ ps, sp' p.block = true) → DataW.TrodAll enc P W' 0 sp' true ts vs ds ps
 | [], [], [], _, _, h, _, _ => h
 | t :: ts, v :: vs, d :: ds, _, hin, ⟨p, q, h1, h2, rfl⟩, h3, h4 =>
  ⟨p, q, WideElems.Trod_stays hl (hin t (by simp)).1 (hin t (by simp)).2 h1 (fun x hx => h3 x (by simp [hx])) (fun x hx => h4 x (by simp [hx])),
   trodAll_stays hl ts vs ds q (fun t ht => hin t (by simp [ht])) h2 (fun x hx => h3 x (by simp [hx])) (fun x hx => h4 x (by simp [hx])), rfl⟩
 | [], _ :: _, _, _, _, h, _, _ => by simp [DataW.TrodAll] at h
 | _ :: _, [], _, _, _, h, _, _ => by simp [DataW.TrodAll] at h
 | [], [], _ :: _, _, _, h, _, _ => by simp [DataW.TrodAll] at h
 | _ :: _, _ :: _, [], _, _, h, _, _ => by simp [DataW.TrodAll] at h

theorem law_contract {Gl : Nat → Option (List PV)} {f : FuncId} {fn : Func} {T : List TypeId} {s : ChangeSpec} {tb : TypeId} {laid : List (String × DataW Unit)}
  (hT : plainB P T = true) (hl : laidOutB P = true) (hin : ∀ t ∈ fn.params.toList, t ∈ T ∧ P.readableRec t = true ∧ t < P.types.size)
  (hres : fn.resultTypes = #[tb]) (htb : P.underlying tb = some .bool) (hvars : s.vars = []) (hfn : ∀ (H : Type) (ds : List (DataW H)), ds.length = fn.params.toList.length → s.fn H ds = { results := [.lit (.bool true)], args := ds })
  (hG : ∀ W, laidMetH P laid W → GlobOK Gl ⟨fun _ => none, fun _ => False⟩ [] W)
  (hp : ∀ xs, ArgsAre P fn.params.toList xs → Pure P Gl f xs (.bool true))
  (W : World) (base : Nat) (args : Array Value) (ds gs : List (DataW H)) (before : List MemPlace) {apart fresh handsOn again : Bool}
  (hval : ∀ (j : Nat) t v, fn.params[j]? = some t → args[j]? = some v → Value.okWide P W .any base t v)
  (hW : DataW.Whole enc P fn.params.toList s.vars apart W args.toList ds gs before) (hL : laidMetH P laid W) :
  Calls P f args W fun e W' => ∃ v, e = .returned v ∧ s.post enc P fn apart fresh handsOn again W args v W' := by
 have hW0 := hW
 obtain ⟨p, q, hA, hV, rfl, _, _⟩ := hW
 obtain ⟨xs, h1, h2, h3, h4⟩ := args_got hT fn.params.toList args.toList ds p (fun t ht => (hin t ht).1) (fun j t v hj hv => hval j t v (by simpa using hj) (by simpa using hv)) hA
 have hgs : gs = [] ∧ q = [] := by
  rw [hvars] at hV
  cases gs with
  | nil => exact ⟨rfl, hV⟩
  | cons _ _ => simp [DataW.TrodVars] at hV
 obtain ⟨rfl, rfl⟩ := hgs
 refine ((hp xs h1).2 (fun _ => False) W args (fun c h => h.elim) (by simpa using h2.symm) (fun i x hx => ?_) (hG W hL)).mono ?_
 ·rw [getD_toList]; exact (h4 i x hx).mono (fun c _ _ => ⟨fun h => h, rfl⟩)
 ·rintro e W' ⟨cr, rfl, hr, hb⟩
  cases hr
  refine ⟨_, rfl, post_of_below (pa := p) (pv := []) hW0 (fun b sp hd => ?_) (fun sp hsp => ?_) (fun sp hsp => ?_) rfl hb (fun j t r hj hr => ?_)⟩
  ·rw [hfn H _ (by simpa using h3), hres]
   simp only [Value.resultList]
   exact trodAll_cons_mk (shut_bool htb _) trodAll_mk0
  ·rw [hfn H _ (by simpa using h3)]
   simp only [List.append_nil] at hsp ⊢
   exact trodAll_stays hl _ _ _ _ (fun t ht => (hin t ht).2) hA (fun x hx => hb.same (hW0.lt x (by simpa using hx))) hsp
  ·rw [hfn H _ (by simpa using h3), hvars]
   rfl
  ·rw [hres] at hj hr
   simp only [Value.resultList] at hr
   match j, hj, hr with
   | 0, hj, hr => simp at hj hr; subst hj; subst hr; exact okWide_bool_mk htb _
   | j + 1, hj, _ => simp at hj
end
end
end Go.Av
