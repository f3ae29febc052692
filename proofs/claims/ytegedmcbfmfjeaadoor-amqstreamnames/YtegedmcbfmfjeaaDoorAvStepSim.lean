/- An abstract machine for the modelled code, and what its runs say of real calls. Part of a proof of a given statement: for every input the law returns true and the arguments read as before; no condition beyond the given row. -/
import Derived.Test.YtegedmcbfmfjeaaDoorAvSims
import Derived.Laws.BytesString
import Derived.Laws.StructEq
import Derived.MapKept
namespace Go.Av
noncomputable section
section
variable {P : Program} {Gl : Nat → Option (List PV)} {θ : Th} {H : List AObj} {w : World} {a : Act} {tm : List AV} {na : Nat}

theorem Q4y : ∀ (cs : List AV) (s : List UInt8), Q7u cs = some s → ∃ ns : List Int, cs = ns.map (fun n => .p (.int .u8 n)) ∧ s = ns.map fun n => UInt8.ofNat n.toNat
 | [], s, h => by simp only [Q7u] at h; cases h; exact ⟨[], rfl, rfl⟩
 | c :: cs, s, h => by
  unfold Q7u at h
  split at h
  ·cases ‹_ = []›
  ·rename_i n r heq
   cases heq
   rw [Option.map_eq_some_iff] at h
   obtain ⟨s', h1, rfl⟩ := h
   obtain ⟨ns, rfl, rfl⟩ := Q4y _ s' h1
   exact ⟨n :: ns, rfl, rfl⟩
  ·cases h
theorem Qdp {θ : Th} {S : Nat → Prop} {w : World} {k : IntKind} : ∀ (ns : List Int) (vs : List Value), RelVs θ S w (ns.map fun n => .p (.int k n)) vs → vs = ns.map (Value.int k) := by
 intro ns vs h
 apply List.ext_getElem
 ·simpa using h.1
 ·intro i h1 h2
  have h3 : i < ns.length := by simpa using h2
  have := h.2.2 i (.p (.int k ns[i])) (by simp [h3])
  have e := Xt this
  rw [List.getD_eq_getElem?_getD, List.getElem?_eq_getElem h1] at e
  simpa using e
theorem Q7o : ∀ (ns : List Int) (l : List UInt8), ns.foldl (fun (r : ByteArray) n => r.push (UInt8.ofNat n.toNat)) ⟨⟨l⟩⟩ = ⟨⟨l ++ ns.map fun n => UInt8.ofNat n.toNat⟩⟩
 | [], l => by simp
 | n :: ns, l => by
  simp only [List.foldl_cons, List.map_cons]
  have : (⟨⟨l⟩⟩ : ByteArray).push (UInt8.ofNat n.toNat) = ⟨⟨l ++ [UInt8.ofNat n.toNat]⟩⟩ := by simp [ByteArray.push]
  rw [this, Q7o ns]
  simp
theorem Qa8 (hT : TmOk θ (Qi θ H) w tm a) (hH : Hp θ H w) (hG : GlobOK Gl θ H w) {s d el : TypeId} (hsrc : P.underlying s = some (.slice el)) (hd : P.underlying d = some .string) (hel : P.underlying el = some (.int .u8)) {x : Operand} {x' : Opd} (hx : Qa x x' = true)
  {v : AV} {e : Eff} (hs : Qr Gl tm H na (.strOf x') = some (v, e)) {o : Oper} (ho : o.op = .convert s d x) : Wv θ H w na v e ((execOp a.eval o).run P w) := by
 simp only [Qr] at hs
 have hrx := Qj hT hx
 generalize Q3 tm x' = vx at hs hrx
 split at hs
 ·rename_i es b off len
  split at hs
  ·rename_i cs hb
   obtain ⟨cs', h1, h2⟩ := Option.bind_eq_some_iff.1 hs
   obtain ⟨str, h3, h4⟩ := Option.bind_eq_some_iff.1 h2
   simp only [Qk, Option.some.injEq, Prod.mk.injEq] at h4
   obtain ⟨rfl, rfl⟩ := h4
   obtain ⟨rfl, hlen⟩ := Wp h1
   generalize hav : a.eval x = av at hrx
   cases hrx with
   | sliceN _ _ _ =>
    have e0 : str = [] := by simpa [Q7u] using h3.symm
    subst e0
    refine Q5 hH ?_ (.p _ _ (.str []))
    simp only [execOp, ho, hav, Sem.run_bind, run_convert_bytes_string w s d el none 0 0 hsrc hel hd, Conv.bytesToString, Result.andThen, Sem.run_pure]
    rfl
   | slice _ _ _ _ cap l addr hl he hle hsz hadr =>
    have hcs : X1 Gl H (.ptr b off) = some (cs.drop off) := by simp [X1, hb]
    obtain ⟨ad, vs, hcv, hsp, hrel, hcell⟩ := Wq (w := w) (cv := .pointer (some ⟨l.blk, l.off + off, none⟩)) hH hG (.ptr b off l hl) hcs
    cases hcv
    have hrt := hrel.take len
    obtain ⟨ns, e1, e2⟩ := Q4y _ _ h3
    rw [e1] at hrt
    have e3 := Qdp ns _ hrt
    have hl2 : (vs.take len).length = len := by
     rw [hrt.1]; rw [← e1]; exact hlen
    have hload : (loadCells addr len).run P w = .ok (ns.map (Value.int .u8)).toArray w := by
     rw [← e3]
     have := run_loadCells_list (P := P) w addr (vs.take len) (fun j u hj => by
      rcases hadr with rfl | h0
      ·refine hcell j u ?_
       rw [List.getElem?_take] at hj
       split at hj
       ·exact hj
       ·cases hj
      ·have := (List.getElem?_eq_some_iff.1 hj).1
       omega)
     rw [hl2] at this
     exact this
    refine Q5 hH ?_ (.p _ _ (.str str))
    have := run_bytesToString w addr len cap ns hload
    simp only [execOp, ho, hav, Sem.run_bind, run_convert_bytes_string w s d el (some addr) len cap hsrc hel hd, this, Result.andThen, Sem.run_pure]
    rw [show ByteArray.empty = (⟨⟨[]⟩⟩ : ByteArray) from rfl, Q7o, e2]
    rfl
  ·cases hs
 ·simp only [Qk, Option.some.injEq, Prod.mk.injEq] at hs
  obtain ⟨rfl, rfl⟩ := hs
  have e1 := Yh hrx
  refine Q5 hH ?_ (.p _ _ (.str []))
  simp only [execOp, ho, e1, Sem.run_bind, run_convert_bytes_string w s d el none 0 0 hsrc hel hd, Conv.bytesToString, Result.andThen, Sem.run_pure]
  rfl
 ·cases hs
theorem V7 {d : Option TypeDesc} {kk : Nat} (h : X7 d kk = true) : ∃ e, d = some e := by
 cases d with
 | none => simp [X7] at h
 | some e => exact ⟨e, rfl⟩
theorem Q93 (E : Array MapEntry) (j : Nat) : E.getD j default = E.toList.getD j default := by
 rw [Array.getD_eq_getD_getElem?, List.getD_eq_getElem?_getD]; simp
theorem Q66 {θ : Th} {S : Nat → Prop} {w : World} {t : TypeId} {z : List PV} {agg : Bool} (h : Q3z P t z agg = true) {zv : AV} (hz : sOf agg (z.map .p) = some zv) : ∃ cz, (zeroValue t).run P w = .ok cz w ∧ RelV θ S w zv cz := by
 unfold Q3z at h
 cases hi : P.info? t with
 | none => simp [hi] at h
 | some i =>
  simp only [hi, Option.any_some] at h
  cases hzz : i.zero with
  | none => simp [hzz] at h
  | some v =>
   simp only [hzz, Option.any_some] at h
   refine ⟨v, G6 hi hzz w, ?_⟩
   split at h
   ·rename_i C
    simp only [sOf, Option.some.injEq] at hz
    subst hz
    obtain ⟨h1, h2, h3⟩ := V8 (S := S) (w := w) _ _ h
    refine .agg _ C (by simpa using h1) h2 (fun i x hx => ?_)
    rw [List.getElem?_map] at hx
    cases hc : z[i]? with
    | none => rw [hc] at hx; cases hx
    | some y => rw [hc] at hx; cases hx; rw [Zm]; exact .p _ _ (h3 i y hc)
   ·rename_i x
    simp only [sOf, List.map_cons, List.map_nil, List.head?_cons, Option.some.injEq] at hz
    subst hz
    exact .p _ _ (Ju _ _ h)
   ·cases h
theorem Q7p {r : Result Next} {w' : World} (hH : Hp θ H w) {b : Nat} {o o' : AObj} {l : Loc} (hb : H[b]? = some o) (hlive : o.live = true) (hl : θ b = some l) (hr : r = .ok .skip w')
  (hsz : w'.heap.size = w.heap.size) (hsame : ∀ c, c ≠ l.blk → w'.heap[c]? = w.heap[c]?) (hos : w'.os = w.os) (ht : w'.tape = w.tape) (hout : w'.output = w.output)
  (ho : ∀ (S' : Nat → Prop), (∀ c, Qi θ (H.set b o') c → S' c) → (∀ c, c < w.heap.size → Qi θ H c → S' c ∧ w'.heap[c]? = w.heap[c]?) → RelObj θ S' w' o' l) : Wv θ H w na Zp { set := some (b, o') } r := by
 obtain ⟨h1, h2⟩ := Qak (o' := o') hH hb hlive hl w' hsz hsame hos ht hout
 exact ⟨undef, w', θ, .inr ⟨hr, rfl⟩, Vh, h1 (ho _ (fun c h => h) (fun c hc hf => h2.free c hc hf)), h2, fun _ _ => rfl, fun _ => rfl⟩
theorem Q8z (a b : List UInt8) : ((⟨⟨a⟩⟩ : ByteArray) == ⟨⟨b⟩⟩) = (a == b) := by
 show ((⟨a⟩ : Array UInt8) == ⟨b⟩) = (a == b)
 simp
theorem Q2t {d : TypeDesc} {kk : Nat} (hd : X7 (some d) kk = true) {S : Nat → Prop} {w : World} {k k2 : PV} {ck ck2 : Value} (hk : Ud kk k = true) (hr : RelP S w k ck) (hr2 : RelP S w k2 ck2) {b : Bool} (h : Xu k k2 = some b) :
  Instr.sameNow d ck ck2 = some b := by
 cases k <;> cases k2 <;> simp only [Xu, Wa] at h <;> try (cases h; done)
 ·cases hr; cases hr2
  rcases kk with _ | _ | _ | kk <;> simp only [Ud, Bool.false_eq_true] at hk
  cases d <;> simp only [X7, Bool.false_eq_true] at hd
  exact h
 ·rename_i i n j m
  cases hr; cases hr2
  rcases kk with _ | _ | _ | kk <;> simp only [Ud, Bool.false_eq_true] at hk
  cases d <;> simp only [X7, Bool.false_eq_true] at hd
  simp only [Instr.sameNow]
  by_cases e : i = j
  ·subst e; simpa using h
  ·simp [e] at h
 ·cases hr; cases hr2
  rcases kk with _ | _ | _ | kk <;> simp only [Ud, Bool.false_eq_true] at hk
  cases d <;> simp only [X7, Bool.false_eq_true] at hd
  simp only [Instr.sameNow, Q8z]
  exact h
theorem Q04 {d : TypeDesc} {kk : Nat} (hd : X7 (some d) kk = true) {θ : Th} {S : Nat → Prop} {w : World} {k : PV} {ck : Value} (hk : Ud kk k = true) (hr : RelP S w k ck) : ∀ (es : List (PV × AV)) (E : List MapEntry) (i : Nat), E.length = es.length →
  (∀ (j : Nat) k v, es[j]? = some (k, v) → RelP S w k (E.getD j default).key ∧ RelV θ S w v (E.getD j default).val) → ∀ r, Gz k i es = some r →
  (r = none ∧ Instr.findNow d ck E i = some none) ∨ ∃ j v e, r = some (i + j, v) ∧ Instr.findNow d ck E i = some (some (i + j, e.val)) ∧ E[j]? = some e ∧ RelV θ S w v e.val ∧ Instr.sameNow d ck e.key = some true
 | [], [], i, _, _, r, h => by simp only [Gz] at h; cases h; exact .inl ⟨rfl, rfl⟩
 | (k2, v) :: es, e :: E, i, hl, hrel, r, h => by
  have h0 := hrel 0 k2 v rfl
  simp only [List.getD_cons_zero] at h0
  simp only [Gz] at h
  cases hq : Xu k k2 with
  | none => simp only [hq] at h; cases h
  | some b =>
   have hs := Q2t hd hk hr h0.1 hq
   cases b with
   | true =>
    simp only [hq] at h; cases h
    exact .inr ⟨0, v, e, rfl, by simp [Instr.findNow, hs], rfl, h0.2, hs⟩
   | false =>
    simp only [hq] at h
    rcases Q04 hd hk hr es E (i + 1) (by simpa using hl) (fun j k v hj => by simpa using hrel (j + 1) k v (by simpa using hj)) r h with ⟨h1, h2⟩ | ⟨j, v', e', h1, h2, h3, h4, h5⟩
    ·exact .inl ⟨h1, by simp [Instr.findNow, hs, h2]⟩
    ·exact .inr ⟨j + 1, v', e', by rw [h1]; congr 2; omega, by simp [Instr.findNow, hs, h2]; omega, by simpa using h3, h4, h5⟩
 | [], _ :: _, _, hl, _, _, _ => by simp at hl
 | _ :: _, [], _, hl, _, _, _ => by simp at hl
theorem Wn {w : World} {kt : TypeId} {d : TypeDesc} {kk : Nat} (hd : P.underlying kt = some d) (hkk : X7 (some d) kk = true) (k : Value) (e : Bool) (n : Nat) : (Instr.checkKey e (n + 1) kt k).run P w = .ok () w := by
 unfold Instr.checkKey
 simp only [Sem.run_bind, run_underlying hd, Result.andThen]
 cases d <;> rcases kk with _ | _ | _ | kk <;> simp only [X7, Bool.false_eq_true] at hkk <;> simp
theorem Q57 {d : TypeDesc} {a b : Value} (h : Instr.sameNow d a b = some true) : a = b ∧ ∀ n, Instr.sameBits n a b = true := by
 cases d <;> cases a <;> cases b <;> simp only [Instr.sameNow] at h <;> try (cases h; done)
 ·simp at h; subst h; exact ⟨rfl, fun n => by simp [Instr.sameBits]⟩
 ·split at h
  ·simp at h; subst h; rename_i e; subst e; exact ⟨rfl, fun n => by simp [Instr.sameBits]⟩
  ·cases h
 ·rename_i x y
  have : x = y := by
   have := (MapKept.bytes_beq x y).1 (by simpa using h)
   exact this
  subst this
  exact ⟨rfl, fun n => by simp only [Instr.sameBits]; simpa using h⟩

theorem Qcb (hH : Hp θ H w) {r : Nat} {cv : Value} (hr : RelV θ (Qi θ H) w (.map r) cv) {es : List (PV × AV)} (hb : H[r]? = some (.map es)) :
  ∃ l E clock, θ r = some l ∧ cv = .map (some l.blk) ∧ w.heap[l.blk]? = some (.map E clock) ∧ E.size = es.length ∧ ∀ (i : Nat) k v, es[i]? = some (k, v) → RelP (Qi θ H) w k (E.getD i default).key ∧ RelV θ (Qi θ H) w v (E.getD i default).val := by
 cases hr with
 | map _ l hl =>
  obtain ⟨E, clock, h1, h2, h3⟩ := hH.obj r _ l hb hl
  exact ⟨l, E, clock, hl, rfl, h1, h2, h3⟩

theorem Q34 (hT : TmOk θ (Qi θ H) w tm a) (hH : Hp θ H w) {t kt et : TypeId} (ht : P.underlying t = some (.map kt et)) {kk : Nat} {d : TypeDesc} (hd : P.underlying kt = some d) (hk : X7 (some d) kk = true)
  {m k x : Operand} {m' k' x' : Opd} (h1 : Qa m m' = true) (h2 : Qa k k' = true) (h3 : Qa x x' = true)
  {v : AV} {e : Eff} (hs : Qr Gl tm H na (.insert kk m' k' x') = some (v, e)) {o : Oper} (ho : o.op = .insert t m k x ∨ o.op = .mapUpdate t m k x) : Wv θ H w na v e ((execOp a.eval o).run P w) := by
 simp only [Qr] at hs
 have hrm := Qj hT h1
 have hrk := Qj hT h2
 have hrx := Qj hT h3
 generalize Q3 tm m' = vm at hs hrm
 generalize Q3 tm k' = vk at hs hrk
 generalize Q3 tm x' = vx at hs hrx
 generalize hak : a.eval k = ck at hrk
 generalize ham : a.eval m = cm at hrm
 generalize hax : a.eval x = cx at hrx
 split at hs
 ·rename_i r ke
  cases hb : H[r]? with
  | none => simp only [hb] at hs; cases hs
  | some ob =>
   cases ob with
   | map es =>
    simp only [hb] at hs
    split at hs
    ·cases hs
    ·rename_i hki
     have hki : Ud kk ke = true := by simpa using hki
     obtain ⟨l, E, clock, hl, rfl, hE, hn, hrel⟩ := Qcb hH hrm hb
     have hrk : RelP (Qi θ H) w ke ck := by cases hrk with | p _ _ h => exact h
     have hrunE : (execOp a.eval o).run P w = ((Instr.mapUpdate t (.map (some l.blk)) ck cx).run P w).andThen fun _ w' => .ok .skip w' := by
      rcases ho with ho | ho <;> simp [execOp, ho, ham, hak, hax, Result.andThen] <;> rfl
     cases hf : Gz ke 0 es with
     | none => simp only [hf] at hs; cases hs
     | some res =>
      have hfind := Q04 (θ := θ) hk hki hrk es E.toList 0 (by simpa using hn) (fun j k v hj => by
       have := hrel j k v hj
       rw [Q93] at this
       exact this) res hf
      rcases hfind with ⟨rfl, hnow⟩ | ⟨j, v0, e0, rfl, hnow, hj, hv0, hsame⟩
      ·simp only [hf, Option.some.injEq, Prod.mk.injEq] at hs
       obtain ⟨rfl, rfl⟩ := hs
       have hrun : (Instr.mapUpdate t (.map (some l.blk)) ck cx).run P w = .ok () { w with heap := w.heap.setIfInBounds l.blk (.map (E.push { key := ck, val := cx, born := clock }) (clock + 1)) } := by
        simp [Instr.mapUpdate, run_underlying ht, MapKept.run_getObj_map hE, Wn hd hk, MapKept.run_findKey hd hnow, MapKept.run_setObj_map _ hE, Result.andThen]
       refine Q7p (w' := { w with heap := w.heap.setIfInBounds l.blk (.map (E.push { key := ck, val := cx, born := clock }) (clock + 1)) }) hH hb rfl hl (hrunE.trans (by rw [hrun]; rfl)) (by simp) (fun c hc => by simp [Ne.symm hc]) rfl rfl rfl (fun S' h1 h2 => ?_)
       have hm : ∀ {x : AV} {v : Value}, RelV θ (Qi θ H) w x v → RelV θ S' _ x v := fun r => r.mono (fun _ _ e => e) h2
       have hmp : ∀ {x : PV} {v : Value}, RelP (Qi θ H) w x v → RelP S' _ x v := fun r => r.mono h2
       refine ⟨E.push { key := ck, val := cx, born := clock }, clock + 1, by simp [Uu hE], by simp [hn], fun i k v hi => ?_⟩
       by_cases hlt : i < es.length
       ·rw [List.getElem?_append_left hlt] at hi
        obtain ⟨q1, q2⟩ := hrel i k v hi
        have : (E.push { key := ck, val := cx, born := clock }).getD i default = E.getD i default := by
         simp only [Array.getD_eq_getD_getElem?, Array.getElem?_push]
         rw [if_neg (by omega)]
        rw [this]; exact ⟨hmp q1, hm q2⟩
       ·have hi2 := (List.getElem?_eq_some_iff.1 hi).1
        have hie : i = es.length := by simp at hi2; omega
        subst hie
        simp at hi
        obtain ⟨rfl, rfl⟩ := hi
        have : (E.push { key := ck, val := cx, born := clock }).getD es.length default = { key := ck, val := cx, born := clock } := by
         simp only [Array.getD_eq_getD_getElem?, Array.getElem?_push, hn]; simp
        rw [this]; exact ⟨hmp hrk, hm hrx⟩
      ·simp only [hf, Option.some.injEq, Prod.mk.injEq] at hs
       obtain ⟨rfl, rfl⟩ := hs
       obtain ⟨hkeq, hbits⟩ := Q57 hsame
       simp only [Nat.zero_add] at hnow ⊢
       have hj' : E[j]? = some e0 := by simpa using hj
       have hstay : (Instr.keyThatStays e0.key ck).run P w = .ok ck w := by
        rw [← hkeq]
        simp [Instr.keyThatStays]
        intro h
        exact absurd (show Instr.sameBits 10000 ck ck = true by rw [hkeq] at hbits ⊢; exact hbits 10000) (by rw [h]; simp)
       have hrun : (Instr.mapUpdate t (.map (some l.blk)) ck cx).run P w = .ok () { w with heap := w.heap.setIfInBounds l.blk (.map (E.modify j fun e => { e with key := ck, val := cx }) clock) } := by
        simp [Instr.mapUpdate, run_underlying ht, MapKept.run_getObj_map hE, Wn hd hk, MapKept.run_findKey hd hnow, hj', hstay, MapKept.run_setObj_map _ hE, Result.andThen]
       refine Q7p (w' := { w with heap := w.heap.setIfInBounds l.blk (.map (E.modify j fun e => { e with key := ck, val := cx }) clock) }) hH hb rfl hl (hrunE.trans (by rw [hrun]; rfl)) (by simp) (fun c hc => by simp [Ne.symm hc]) rfl rfl rfl (fun S' h1 h2 => ?_)
       have hm : ∀ {x : AV} {v : Value}, RelV θ (Qi θ H) w x v → RelV θ S' _ x v := fun r => r.mono (fun _ _ e => e) h2
       have hmp : ∀ {x : PV} {v : Value}, RelP (Qi θ H) w x v → RelP S' _ x v := fun r => r.mono h2
       refine ⟨E.modify j fun e => { e with key := ck, val := cx }, clock, by simp [Uu hE], by simp [hn], fun i k v hi => ?_⟩
       have hjl : j < E.size := (Array.getElem?_eq_some_iff.1 hj').1
       by_cases hij : j = i
       ·subst hij
        rw [List.getElem?_set_self (by omega)] at hi
        simp at hi
        obtain ⟨rfl, rfl⟩ := hi
        have : (E.modify j fun e => { e with key := ck, val := cx }).getD j default = { e0 with key := ck, val := cx } := by
         simp only [Array.getD_eq_getD_getElem?, Array.getElem?_modify]
         simp [hj']
        rw [this]; exact ⟨hmp hrk, hm hrx⟩
       ·rw [List.getElem?_set_ne hij] at hi
        obtain ⟨q1, q2⟩ := hrel i k v hi
        have : (E.modify j fun e => { e with key := ck, val := cx }).getD i default = E.getD i default := by
         simp only [Array.getD_eq_getD_getElem?, Array.getElem?_modify, if_neg hij]
        rw [this]; exact ⟨hmp q1, hm q2⟩
   | cells _ => simp only [hb] at hs; cases hs
   | strIter _ _ => simp only [hb] at hs; cases hs
   | dead => simp only [hb] at hs; cases hs
 ·cases hs
theorem Q8m (hT : TmOk θ (Qi θ H) w tm a) (hH : Hp θ H w) {t kt et : TypeId} (ht : P.underlying t = some (.map kt et)) {kk : Nat} {d : TypeDesc} (hd : P.underlying kt = some d) (hk : X7 (some d) kk = true)
  {z : List PV} {agg ok : Bool} (hz : Q3z P et z agg = true) {m k : Operand} {m' k' : Opd} (h1 : Qa m m' = true) (h2 : Qa k k' = true)
  {v : AV} {e : Eff} (hs : Qr Gl tm H na (.lookup kk z agg ok m' k') = some (v, e)) {o : Oper} (ho : o.op = .lookup t m k ok) : Wv θ H w na v e ((execOp a.eval o).run P w) := by
 simp only [Qr] at hs
 have hrm := Qj hT h1
 have hrk := Qj hT h2
 generalize Q3 tm m' = vm at hs hrm
 generalize Q3 tm k' = vk at hs hrk
 generalize hak : a.eval k = ck at hrk
 generalize ham : a.eval m = cm at hrm
 split at hs
 ·rename_i r ke
  cases hb : H[r]? with
  | none => simp only [hb] at hs; cases hs
  | some ob =>
   cases ob with
   | map es =>
    simp only [hb] at hs
    split at hs
    ·cases hs
    ·rename_i hki
     have hki : Ud kk ke = true := by simpa using hki
     obtain ⟨l, E, clock, hl, rfl, hE, hn, hrel⟩ := Qcb hH hrm hb
     have hrk : RelP (Qi θ H) w ke ck := by cases hrk with | p _ _ h => exact h
     have hrunE : (execOp a.eval o).run P w = ((Instr.lookup t (.map (some l.blk)) ck ok).run P w).andThen fun v w' => .ok (.value v) w' := by
      simp [execOp, ho, ham, hak, Result.andThen]
     cases hf : Gz ke 0 es with
     | none => simp only [hf] at hs; cases hs
     | some res =>
      have hfind := Q04 (θ := θ) hk hki hrk es E.toList 0 (by simpa using hn) (fun j k v hj => by
       have := hrel j k v hj
       rw [Q93] at this
       exact this) res hf
      rcases hfind with ⟨rfl, hnow⟩ | ⟨j, v0, e0, rfl, hnow, hj, hv0, hsame⟩
      ·simp only [hf] at hs
       obtain ⟨zv, hz1, hz2⟩ := Option.bind_eq_some_iff.1 hs
       simp only [Qk, Option.some.injEq, Prod.mk.injEq] at hz2
       obtain ⟨rfl, rfl⟩ := hz2
       obtain ⟨cz, hzr, hzv⟩ := Q66 (θ := θ) (S := Qi θ H) (w := w) hz hz1
       have hrun : (Instr.lookup t (.map (some l.blk)) ck ok).run P w = .ok (if ok then .tuple #[cz, .bool false] else cz) w := by
        simp [Instr.lookup, run_underlying ht, MapKept.run_getObj_map hE, Wn hd hk, MapKept.run_findKey hd hnow, hzr, Result.andThen]
       refine Q5 hH (hrunE.trans (by rw [hrun]; rfl)) ?_
       cases ok
       ·exact hzv
       ·refine .tuple _ _ rfl (fun i x hx => ?_)
        match i, hx with
        | 0, hx => simp at hx; subst hx; exact hzv
        | 1, hx => simp at hx; subst hx; exact Wl false
      ·simp only [hf, Qk, Option.some.injEq, Prod.mk.injEq] at hs
       obtain ⟨rfl, rfl⟩ := hs
       simp only [Nat.zero_add] at hnow
       have hrun : (Instr.lookup t (.map (some l.blk)) ck ok).run P w = .ok (if ok then .tuple #[e0.val, .bool true] else e0.val) w := by
        simp [Instr.lookup, run_underlying ht, MapKept.run_getObj_map hE, Wn hd hk, MapKept.run_findKey hd hnow, Result.andThen]
       refine Q5 hH (hrunE.trans (by rw [hrun]; rfl)) ?_
       cases ok
       ·exact hv0
       ·refine .tuple _ _ rfl (fun i x hx => ?_)
        match i, hx with
        | 0, hx => simp at hx; subst hx; exact hv0
        | 1, hx => simp at hx; subst hx; exact Wl true
   | cells _ => simp only [hb] at hs; cases hs
   | strIter _ _ => simp only [hb] at hs; cases hs
   | dead => simp only [hb] at hs; cases hs
 ·cases hs
theorem Gj {S : Nat → Prop} {C D : Array Value} {w : World} (d : Nat) : ∀ (fs : List Field) (ks : List Nat) (n : Nat) (cs ds : List AV) (b : Bool), Wo P fs n ks = true → Yj ks cs ds = some b → C.size = n + cs.length → D.size = n + ds.length →
  (∀ (i : Nat) x, cs[i]? = some x → RelV θ S w x (C.getD (n + i) Qn)) → (∀ (i : Nat) x, ds[i]? = some x → RelV θ S w x (D.getD (n + i) Qn)) → (Op.eqFields (d + 1) C D fs).run P w = .ok b w
 | [], [], n, cs, ds, b, _, hs, h1, h2, h3, h4 => by
  cases cs <;> cases ds <;> simp only [Yj] at hs <;> try (cases hs; done)
  cases hs
  simp [Op.eqFields]
 | f :: fs, kk :: ks, n, cs, ds, b, hf, hs, h1, h2, h3, h4 => by
  simp only [Wo, Bool.and_eq_true, bne_iff_ne, ne_eq, beq_iff_eq] at hf
  obtain ⟨⟨⟨f1, f2⟩, f3⟩, f4⟩ := hf
  cases cs with
  | nil => simp only [Yj] at hs; cases hs
  | cons c cs =>
   cases ds with
   | nil => cases c <;> simp only [Yj] at hs <;> cases hs
   | cons e ds =>
    cases c <;> cases e <;> simp only [Yj] at hs <;> try (cases hs; done)
    rename_i x y
    split at hs
    ·cases hs
    rename_i hki
    have hki : Ud kk x = true := by simpa using hki
    split at hs
    ·rename_i p q hp hq
     cases hs
     have rx := h3 0 (.p x) rfl
     have ry := h4 0 (.p y) rfl
     simp only [Nat.add_zero] at rx ry
     have hx : C[n]? = some (C.getD n Qn) := by
      have : n < C.size := by simp at h1; omega
      simp [Array.getD, this]
     have hy : D[n]? = some (D.getD n Qn) := by
      have : n < D.size := by simp at h2; omega
      simp [Array.getD, this]
     generalize C.getD n Qn = vx at rx hx
     generalize D.getD n Qn = vy at ry hy
     have rx : RelP S w x vx := by cases rx with | p _ _ h => exact h
     have ry : RelP S w y vy := by cases ry with | p _ _ h => exact h
     obtain ⟨dd, hd⟩ := V7 f3
     have hna : (isAgg f.type).run P w = .ok false w := by
      rw [hd] at f3
      unfold isAgg
      simp only [Sem.run_bind, run_underlying hd, Result.andThen]
      cases dd <;> rcases kk with _ | _ | _ | kk <;> simp only [X7, Bool.false_eq_true] at f3 <;> simp
     have px : (part f.type C f.offset).run P w = .ok vx w := by simp [part, hna, f2, hx, Result.andThen]
     have py : (part f.type D f.offset).run P w = .ok vy w := by simp [part, hna, f2, hy, Result.andThen]
     have hsn := Q2t (d := dd) (by rw [← hd]; exact f3) hki rx ry hp
     have heq : (Op.equalIn (d + 1) f.type vx vy).run P w = .ok p w := by
      simp only [Op.equalIn, Sem.run_bind, run_underlying hd, Result.andThen]
      cases dd <;> cases vx <;> cases vy <;> simp only [Instr.sameNow] at hsn <;> try (cases hsn; done)
      ·simp at hsn; subst hsn; simp
      ·split at hsn
       ·rename_i e; subst e; simp at hsn; subst hsn; simp
       ·cases hsn
      ·simp at hsn; subst hsn; simp
     have ih := Gj (C := C) (D := D) (S := S) (w := w) d fs ks (n + 1) cs ds q f4 hq (by simp at h1; omega) (by simp at h2; omega) (fun i z hz => by have := h3 (i + 1) z (by simpa using hz); rwa [show n + (i + 1) = n + 1 + i by omega] at this) (fun i z hz => by have := h4 (i + 1) z (by simpa using hz); rwa [show n + (i + 1) = n + 1 + i by omega] at this)
     simp only [Op.eqFields, if_pos f1, Sem.run_bind, px, py, heq, Result.andThen]
     cases p
     ·simp
     ·simpa using ih
    ·cases hs
 | [], _ :: _, _, _, _, _, h, _, _, _, _, _ => by simp [Wo] at h
 | _ :: _, [], _, _, _, _, h, _, _, _, _, _ => by simp [Wo] at h
theorem Q5p {θ : Th} {S : Nat → Prop} {w : World} {v : AV} {cv : Value} (h : RelV θ S w v cv) {cs : List AV} (hc : v.aggs? = some cs) : ∃ C, cv = .agg C ∧ C.size = cs.length ∧ ∀ (i : Nat) x, cs[i]? = some x → RelV θ S w x (C.getD i Qn) := by
 unfold AV.aggs? at hc
 split at hc
 ·cases hc
  cases h with
  | p _ _ h =>
   cases h with
   | agg _ C hn h1 hv =>
    refine ⟨C, rfl, by simpa using hn, fun i x hx => ?_⟩
    rw [List.getElem?_map] at hx
    rename_i cs
    cases hc : cs[i]? with
    | none => rw [hc] at hx; cases hx
    | some y => rw [hc] at hx; cases hx; exact .p _ _ (hv i y hc)
 ·cases hc
  cases h with
  | agg _ C hn h1 hv => exact ⟨C, rfl, hn, hv⟩
 ·cases hc
theorem Q50 (hT : TmOk θ (Qi θ H) w tm a) (hH : Hp θ H w) {op : BinOp} {neg : Bool} {t yt : TypeId} {x y : Operand} {x' y' : Opd}
  (hop : (op = .eql ∧ neg = false) ∨ (op = .neq ∧ neg = true)) (hx : Qa x x' = true) (hy : Qa y y' = true) {ks : List Nat} (ht : J6 P t ks = true) {v : AV} {e : Eff}
  (hs : Qr Gl tm H na (.eqAgg neg ks x' y') = some (v, e)) {o : Oper} (ho : o.op = .binOp op t x y yt) : Wv θ H w na v e ((execOp a.eval o).run P w) := by
 simp only [Qr] at hs
 have hrx := Qj hT hx
 have hry := Qj hT hy
 split at hs
 ·rename_i cs ds hc1 hc2
  obtain ⟨b, hb1, hb2⟩ := Option.bind_eq_some_iff.1 hs
  simp only [Qk, Option.some.injEq, Prod.mk.injEq] at hb2
  obtain ⟨rfl, rfl⟩ := hb2
  obtain ⟨C, hC, hC1, hC2⟩ := Q5p hrx hc1
  obtain ⟨D, hD, hD1, hD2⟩ := Q5p hry hc2
  unfold J6 at ht
  split at ht
  ·rename_i fs hu
   simp only [Bool.and_eq_true, Bool.not_eq_true'] at ht
   obtain ⟨⟨t1, t2⟩, t3⟩ := ht
   have hfo : P.fieldsOf t = fs := by unfold Program.fieldsOf; rw [hu]
   have hrun : (Op.equalIn 10000 t (.agg C) (.agg D)).run P w = .ok b w := by
    rw [run_equalIn_struct w 9999 t C D (by rw [hfo]; exact hu) t2, hfo]
    exact Gj (θ := θ) (S := Qi θ H) 9998 fs.toList ks 0 cs ds b t1 hb1 (by omega) (by omega) (fun i x hx => by simpa using hC2 i x hx) (fun i x hx => by simpa using hD2 i x hx)
   refine Q5 (cv := .bool (if neg then !b else b)) hH ?_ (Wl _)
   have hg := fun op => run_eqGuard_agg (P := P) w op t x y C D t3
   rcases hop with ⟨rfl, rfl⟩ | ⟨rfl, rfl⟩
   ·simp [execOp, ho, hC, hD, hg, run_eql_struct, hrun, Result.andThen]
   ·simp [execOp, ho, hC, hD, hg, run_neq_struct, hrun, Result.andThen]
  ·cases ht
 ·cases hs

theorem Q0l {t : TypeId} {n : Nat} (h : Jk P t n = true) {i : TypeInfo} (hi : P.info? t = some i) : i.bytes = n := by
 unfold Jk at h
 simp [hi] at h; exact h

theorem Q75 (hT : TmOk θ (Qi θ H) w tm a) (hH : Hp θ H w) (hG : GlobOK Gl θ H w) (hna : AlOk θ H na) {o : Oper} {c : COp} (hk : Jj P o.op c = true) (hc : c.isCall = false) {v : AV} {e : Eff}
  (hs : Qr Gl tm H na c = some (v, e)) : Wv θ H w na v e ((execOp a.eval o).run P w) := by
 obtain ⟨dst, op, ty, pos, aft, gd⟩ := o
 simp only at hk
 unfold Jj at hk
 split at hk
 ·exact Q84 hT hH hk hs (.inl rfl)
 ·exact Q84 hT hH hk hs (.inr rfl)
 ·simp only [Bool.and_eq_true] at hk; exact Qbf hT hH hk.1.1 hk.1.2 hk.2 hs rfl
 ·exact Qai hH hna hk hs rfl
 ·exact Qdc hT hH hna hk hs rfl
 ·simp only [Bool.and_eq_true] at hk
  obtain ⟨h1, h2⟩ := hk
  refine Qab hT hH h1 ?_ hs rfl
  split at h2
  ·rename_i fs hu
   simp only [Bool.and_eq_true] at h2
   exact .inl ⟨fs, hu, fun f hf => by
    obtain ⟨i, hi, rfl⟩ := Array.mem_iff_getElem.1 hf
    have := h2.1
    simp at this
    exact this i hi, h2.2⟩
  ·rename_i n el hu
   simp only [Bool.and_eq_true] at h2
   exact .inr ⟨n, el, hu, h2.1, h2.2⟩
  ·cases h2
 ·split at hk
  ·rename_i el hu
   simp only [Bool.and_eq_true, beq_iff_eq, decide_eq_true_eq] at hk
   obtain ⟨⟨⟨⟨⟨⟨h1, h2⟩, h3⟩, h4⟩, h5⟩, h6⟩, h7⟩ := hk
   subst h5
   exact Q2n hT hH hna hu h1 h2 h3 h4 (by simpa using h6) h7 hs rfl
  ·cases hk
 ·simp only [Bool.and_eq_true] at hk; exact Qbi hT hH hG hk.1.1 hk.1.2 hk.2 hs rfl
 ·simp only [Bool.and_eq_true] at hk; exact Qa7 hT hH hk.1.1 hk.1.2 hk.2 hs rfl
 ·exact Q4s hT hH hk hs rfl
 ·simp only [Bool.and_eq_true] at hk; exact Qd3 hT hH hk.1.1 hk.1.2 hk.2 hs rfl
 ·simp only [Bool.and_eq_true] at hk; exact Qd6 hT hH hk.1.1 hk.1.2 hk.2 hs rfl
 ·simp only [Bool.and_eq_true] at hk
  obtain ⟨⟨⟨h1, h2⟩, h3⟩, h4⟩ := hk
  split at h4
  ·rename_i hu
   refine Qcz hT hH ?_ h2 h3 hu hs rfl
   split at h1
   ·exact .inl ⟨rfl, by simpa using h1⟩
   ·exact .inr ⟨rfl, h1⟩
   ·cases h1
  ·cases h4
 ·simp only [Bool.and_eq_true] at hk
  obtain ⟨⟨⟨h1, h2⟩, h3⟩, h4⟩ := hk
  split at h4
  ·rename_i d hu
   refine Qd1 hT hH ?_ h2 h3 hu hs rfl
   split at h1
   ·exact .inl ⟨rfl, by simpa using h1⟩
   ·exact .inr ⟨rfl, h1⟩
   ·cases h1
  ·cases h4
 ·simp only [Bool.and_eq_true] at hk; exact Q50 hT hH (.inl ⟨rfl, rfl⟩) hk.1.2 hk.2 hk.1.1 hs rfl
 ·simp only [Bool.and_eq_true] at hk; exact Q50 hT hH (.inr ⟨rfl, rfl⟩) hk.1.2 hk.2 hk.1.1 hs rfl
 ·exact Qd5 hT hH hk hs rfl
 ·exact Qdm hT hH hk hs rfl
 ·simp only [Bool.and_eq_true] at hk
  obtain ⟨h1, h2⟩ := hk
  split at h2
  ·rename_i j i hu1 hu2
   simp only [beq_iff_eq] at h2
   subst h2
   exact Qby hT hH hu1 hu2 h1 hs rfl
  ·cases h2
 ·simp only [Bool.and_eq_true] at hk
  obtain ⟨h1, h2⟩ := hk
  split at h2
  ·rename_i hu1 hu2
   simp only [Qr] at hs
   have hrx := Qj hT h1
   split at hs
   ·rename_i str hv
    rw [hv] at hrx
    simp only [Option.map_none, Q0c, Nat.zero_le, Nat.le_refl, and_self, if_true, List.take_length, List.drop_zero, Qk, Option.some.injEq, Prod.mk.injEq] at hs
    obtain ⟨rfl, rfl⟩ := hs
    exact Q5 hH (by simp [execOp, Uq hrx, convert, run_underlying hu1, run_underlying hu2, Result.andThen]) (.p _ _ (.str str))
   ·cases hs
  ·cases h2
 ·simp only [Bool.and_eq_true] at hk
  obtain ⟨h1, h2⟩ := hk
  split at h2
  ·rename_i el hu1 hu2
   split at h2
   ·rename_i hu3; exact Q6p hT hH hna hu1 hu2 hu3 h1 hs rfl
   ·cases h2
  ·cases h2
 ·simp only [Bool.and_eq_true] at hk
  obtain ⟨h1, h2⟩ := hk
  split at h2
  ·rename_i el hu1 hu2
   split at h2
   ·rename_i hu3; exact Qa8 hT hH hG hu1 hu2 hu3 h1 hs rfl
   ·cases h2
  ·cases h2
 ·simp only [Bool.and_eq_true, beq_iff_eq] at hk
  obtain ⟨⟨h1, h2⟩, h3⟩ := hk
  subst h1
  exact Q5g hT hH h2 h3 hs rfl
 ·exact Q6z hH hna hs rfl
 ·simp only [Bool.and_eq_true] at hk
  obtain ⟨⟨⟨h1, h2⟩, h3⟩, h4⟩ := hk
  split at h4
  ·rename_i kt et hu
   obtain ⟨d, hd⟩ := V7 h4
   rw [hd] at h4
   exact Q34 hT hH hu hd h4 h1 h2 h3 hs (.inl rfl)
  ·cases h4
 ·simp only [Bool.and_eq_true] at hk
  obtain ⟨⟨⟨h1, h2⟩, h3⟩, h4⟩ := hk
  split at h4
  ·rename_i kt et hu
   obtain ⟨d, hd⟩ := V7 h4
   rw [hd] at h4
   exact Q34 hT hH hu hd h4 h1 h2 h3 hs (.inr rfl)
  ·cases h4
 ·simp only [Bool.and_eq_true, beq_iff_eq] at hk
  obtain ⟨⟨⟨h1, h2⟩, h3⟩, h4⟩ := hk
  subst h3
  split at h4
  ·rename_i kt et hu
   simp only [Bool.and_eq_true] at h4
   obtain ⟨h5, h7⟩ := h4
   obtain ⟨d, hd⟩ := V7 h7
   rw [hd] at h7
   exact Q8m hT hH hu hd h7 h5 h1 h2 hs rfl
  ·cases h4
 ·simp only [Bool.and_eq_true] at hk
  obtain ⟨⟨h1, h2⟩, h3⟩ := hk
  split at h3
  ·rename_i el hu
   simp only [Bool.and_eq_true, decide_eq_true_eq] at h3
   exact Q40 hT hH hna hu h3.1.1.1.1 h3.1.1.1.2 h3.1.1.2 h3.1.2 h3.2 h1 h2 hs rfl
  ·cases h3
 ·simp only [Bool.and_eq_true] at hk
  obtain ⟨⟨⟨h1, h2⟩, h3⟩, h4⟩ := hk
  split at h4
  ·rename_i hu; exact Q4w hT hH h1 h2 h3 hu hs rfl
  ·cases h4
 ·simp only [Bool.and_eq_true] at hk
  obtain ⟨⟨⟨h1, h2⟩, h3⟩, h4⟩ := hk
  split at h4
  ·rename_i el hu; exact Q9i hT hH h1 h2 h3 hu h4 hs rfl
  ·cases h4
 ·simp only [Bool.and_eq_true] at hk
  obtain ⟨⟨⟨h1, h2⟩, h3⟩, h4⟩ := hk
  split at h4
  ·rename_i m el hu
   simp only [Bool.and_eq_true, beq_iff_eq, decide_eq_true_eq] at h4
   obtain ⟨⟨rfl, h5⟩, h6⟩ := h4
   exact Q4p hT hH h1 h2 h3 hu h5 h6 hs rfl
  ·cases h4
 ·rename_i t x f x' off
  simp only [Bool.and_eq_true] at hk
  obtain ⟨h1, h2⟩ := hk
  split at h2
  ·rename_i fs hu
   cases hf : fs[f]? with
   | none => rw [hf] at h2; simp at h2
   | some fd =>
    simp only [hf, Option.any_some, Bool.and_eq_true, beq_iff_eq, decide_eq_true_eq] at h2
    obtain ⟨h3, h4⟩ := h2
    subst h3
    exact Q42 hT hH hu hf h4 h1 hs rfl
  ·cases h2
 ·rename_i t x f x' off n agg
  simp only [Bool.and_eq_true] at hk
  obtain ⟨h1, h2⟩ := hk
  split at h2
  ·rename_i fs hu
   cases hf : fs[f]? with
   | none => rw [hf] at h2; simp at h2
   | some fd =>
    simp only [hf, Option.any_some, Bool.and_eq_true, beq_iff_eq] at h2
    obtain ⟨⟨h3, h4⟩, h5⟩ := h2
    subst h3
    exact Qav hT hH hu hf h4 h5 h1 hs rfl
  ·cases h2
 ·simp only [Bool.and_eq_true] at hk
  obtain ⟨⟨h1, h2⟩, h3⟩ := hk
  split at h3
  ·rename_i el hu; exact Q3c hT hH hu h3 h1 h2 hs rfl
  ·cases h3
 ·simp only [Bool.and_eq_true] at hk
  obtain ⟨⟨h1, h2⟩, h3⟩ := hk
  split at h3
  ·rename_i n el hu
   simp only [Bool.and_eq_true, beq_iff_eq] at h3
   obtain ⟨h4, h5⟩ := h3
   subst h4
   exact Q54 hT hH hu h5 h1 h2 hs rfl
  ·cases h3
 ·simp only [Bool.and_eq_true] at hk
  obtain ⟨⟨h1, h2⟩, h3⟩ := hk
  split at h3
  ·rename_i hu; exact Q51 hT hH hu h1 h2 hs rfl
  ·cases h3
 ·simp only [Bool.and_eq_true, beq_iff_eq] at hk
  obtain ⟨h1, h2⟩ := hk
  subst h2
  exact Q72 hT hH h1 hs rfl
 ·split at hk
  ·rename_i hcal
   simp only [Bool.and_eq_true] at hk
   obtain ⟨h1, h2⟩ := hk
   split at h2
   ·rename_i t hty
    split at h2
    ·rename_i hu; exact Q88 hT hH hcal h1 hty hu hs rfl
    ·cases h2
   ·cases h2
  ·cases hk
 ·split at hk
  ·rename_i hcal
   simp only [Bool.and_eq_true] at hk
   obtain ⟨h1, h2⟩ := hk
   split at h2
   ·rename_i t hty
    split at h2
    ·rename_i hu; exact Qap hT hH hcal h1 hty hu hs rfl
    ·cases h2
   ·cases h2
  ·cases hk
 ·split at hk
  ·rename_i hcal
   simp only [Bool.and_eq_true] at hk
   obtain ⟨h1, h2⟩ := hk
   split at h2
   ·rename_i t hty
    split at h2
    ·rename_i hu; exact Q8g hT hH hcal h1 hty hu hs rfl
    ·cases h2
   ·cases h2
  ·cases hk
 ·rename_i esz bytes s x
  split at hk
  ·rename_i hcal
   simp only [Bool.and_eq_true] at hk
   obtain ⟨h1, h2⟩ := hk
   split at h2
   ·rename_i t u hty
    split at h2
    ·rename_i el hu
     simp only [Bool.and_eq_true, decide_eq_true_eq] at h2
     obtain ⟨⟨⟨⟨⟨h3, h4⟩, h5⟩, h6⟩, h7⟩, h8⟩ := h2
     obtain ⟨i, hi, hsz⟩ := Gi h3
     have hby := Q0l h4 hi
     simp only [hi, Option.any_some] at h7
     cases hz : i.zero with
     | none => rw [hz] at h7; simp at h7
     | some z =>
      simp only [hz, Option.any_some, beq_iff_eq] at h7
      refine Q05 hT hH hG hna hcal h1 hty hu hi hsz hby h5 h6 hz h7 ?_ hs rfl
      split at h8
      ·exact .inl ⟨_, by assumption⟩
      ·exact .inr (by assumption)
      ·cases h8
    ·cases h2
   ·cases h2
  ·cases hk
 ·rename_i esz bytes s x
  split at hk
  ·rename_i hcal
   simp only [Bool.and_eq_true] at hk
   obtain ⟨h1, h2⟩ := hk
   split at h2
   ·rename_i t u hty
    split at h2
    ·rename_i el hu
     simp only [Bool.and_eq_true, decide_eq_true_eq] at h2
     obtain ⟨⟨⟨⟨⟨h3, h4⟩, h5⟩, h6⟩, h7⟩, h8⟩ := h2
     obtain ⟨i, hi, hsz⟩ := Gi h3
     have hby := Q0l h4 hi
     simp only [hi, Option.any_some] at h7
     cases hz : i.zero with
     | none => rw [hz] at h7; simp at h7
     | some z =>
      simp only [hz, Option.any_some, beq_iff_eq] at h7
      refine Q6d hT hH hG hna hcal h1 hty hu hi hsz hby h5 h6 hz h7 ?_ hs rfl
      split at h8
      ·exact .inl ⟨_, by assumption⟩
      ·exact .inr (by assumption)
      ·cases h8
    ·cases h2
   ·cases h2
  ·cases hk
 ·split at hk
  ·rename_i hcal
   simp only [Bool.and_eq_true] at hk
   obtain ⟨h1, h2⟩ := hk
   split at h2
   ·rename_i t u hty
    split at h2
    ·rename_i el hu
     simp only [Bool.and_eq_true] at h2
     obtain ⟨h3, _⟩ := h2
     obtain ⟨i, hi, hsz⟩ := Gi h3
     exact Qb4 hT hH hG hcal h1 hty hu hi hsz hs rfl
    ·cases h2
   ·cases h2
  ·cases hk
 ·split at hk
  ·rename_i hcal; exact Qdb hT hH hcal hk hs rfl
  ·cases hk
 ·split at hk
  ·rename_i hcal; exact Qd9 hT hH hcal hk hs rfl
  ·cases hk
 ·cases hc
 ·cases hc
 ·cases hk
end
end
end Go.Av
