/- An abstract machine for the modelled code, and what its runs say of real calls. Part of a proof of a given statement: for every input the law returns true and the arguments read as before; no condition beyond the given row. -/
import Derived.Test.YtegedmcbfmfjeaaGreatDoorAvSims
import Derived.Laws.BytesString
import Derived.Laws.StructEq
import Derived.MapKept
namespace Go.Av
noncomputable section
section
variable {P : Program} {Gl : Nat → Option (List PV)} {θ : Th} {H : List AObj} {w : World} {a : Act} {tm : List AV} {na : Nat}

theorem Qcl : ∀ (cs : List AV) (s : List UInt8), Qf6 cs = some s → ∃ ns : List Int, cs = ns.map (fun n => .p (.int .u8 n)) ∧ s = ns.map fun n => UInt8.ofNat n.toNat
 | [], s, h => by simp only [Qf6] at h; cases h; exact ⟨[], rfl, rfl⟩
 | c :: cs, s, h => by
  unfold Qf6 at h
  split at h
  ·cases ‹_ = []›
  ·rename_i n r heq
   cases heq
   rw [Option.map_eq_some_iff] at h
   obtain ⟨s', h1, rfl⟩ := h
   obtain ⟨ns, rfl, rfl⟩ := Qcl _ s' h1
   exact ⟨n :: ns, rfl, rfl⟩
  ·cases h
theorem Qoa {θ : Th} {S : Nat → Prop} {w : World} {k : IntKind} : ∀ (ns : List Int) (vs : List Value), RelVs θ S w (ns.map fun n => .p (.int k n)) vs → vs = ns.map (Value.int k) := by
 intro ns vs h
 apply List.ext_getElem
 ·simpa using h.1
 ·intro i h1 h2
  have h3 : i < ns.length := by simpa using h2
  have := h.2.2 i (.p (.int k ns[i])) (by simp [h3])
  have e := Jb this
  rw [List.getD_eq_getElem?_getD, List.getElem?_eq_getElem h1] at e
  simpa using e
theorem Qfn : ∀ (ns : List Int) (l : List UInt8), ns.foldl (fun (r : ByteArray) n => r.push (UInt8.ofNat n.toNat)) ⟨⟨l⟩⟩ = ⟨⟨l ++ ns.map fun n => UInt8.ofNat n.toNat⟩⟩
 | [], l => by simp
 | n :: ns, l => by
  simp only [List.foldl_cons, List.map_cons]
  have : (⟨⟨l⟩⟩ : ByteArray).push (UInt8.ofNat n.toNat) = ⟨⟨l ++ [UInt8.ofNat n.toNat]⟩⟩ := by simp [ByteArray.push]
  rw [this, Qfn ns]
  simp
theorem Qk2 (hT : TmOk θ (Z3 θ H) w tm a) (hH : Hp θ H w) (hG : GlobOK Gl θ H w) {s d el : TypeId} (hsrc : P.underlying s = some (.slice el)) (hd : P.underlying d = some .string) (hel : P.underlying el = some (.int .u8)) {x : Operand} {x' : Opd} (hx : Qo x x' = true)
  {v : AV} {e : Eff} (hs : Zk Gl tm H na (.strOf x') = some (v, e)) {o : Oper} (ho : o.op = .convert s d x) : Gj θ H w na v e ((execOp a.eval o).run P w) := by
 simp only [Zk] at hs
 have hrx := Z4 hT hx
 generalize Q4 tm x' = vx at hs hrx
 split at hs
 ·rename_i es b off len
  split at hs
  ·rename_i cs hb
   obtain ⟨cs', h1, h2⟩ := Option.bind_eq_some_iff.1 hs
   obtain ⟨str, h3, h4⟩ := Option.bind_eq_some_iff.1 h2
   simp only [Z7, Option.some.injEq, Prod.mk.injEq] at h4
   obtain ⟨rfl, rfl⟩ := h4
   obtain ⟨rfl, hlen⟩ := Ga h1
   generalize hav : a.eval x = av at hrx
   cases hrx with
   | sliceN _ _ _ =>
    have e0 : str = [] := by simpa [Qf6] using h3.symm
    subst e0
    refine Qi hH ?_ (.p _ _ (.str []))
    simp only [execOp, ho, hav, Sem.run_bind, run_convert_bytes_string w s d el none 0 0 hsrc hel hd, Conv.bytesToString, Result.andThen, Sem.run_pure]
    rfl
   | slice _ _ _ _ cap l addr hl he hle hsz hadr =>
    have hcs : Ub Gl H (.ptr b off) = some (cs.drop off) := by simp [Ub, hb]
    obtain ⟨ad, vs, hcv, hsp, hrel, hcell⟩ := Gb (w := w) (cv := .pointer (some ⟨l.blk, l.off + off, none⟩)) hH hG (.ptr b off l hl) hcs
    cases hcv
    have hrt := hrel.take len
    obtain ⟨ns, e1, e2⟩ := Qcl _ _ h3
    rw [e1] at hrt
    have e3 := Qoa ns _ hrt
    have hl2 : (vs.take len).length = len := by
     rw [hrt.1]; rw [← e1]; exact hlen
    have hload : (loadCells addr len).run P w = .ok (ns.map (Value.int .u8)).toArray w := by
     rw [← e3]
     have := run_loadCells_list (P := P) w addr (vs.take len) (fun j u hj => by
      rcases hadr with rfl | h0
      ·refine hcell j u ?_
       rw [List.getElem?_take] at hj
       split at hj
       ·exact hj
       ·cases hj
      ·have := (List.getElem?_eq_some_iff.1 hj).1
       omega)
     rw [hl2] at this
     exact this
    refine Qi hH ?_ (.p _ _ (.str str))
    have := run_bytesToString w addr len cap ns hload
    simp only [execOp, ho, hav, Sem.run_bind, run_convert_bytes_string w s d el (some addr) len cap hsrc hel hd, this, Result.andThen, Sem.run_pure]
    rw [show ByteArray.empty = (⟨⟨[]⟩⟩ : ByteArray) from rfl, Qfn, e2]
    rfl
  ·cases hs
 ·simp only [Z7, Option.some.injEq, Prod.mk.injEq] at hs
  obtain ⟨rfl, rfl⟩ := hs
  have e1 := Vj hrx
  refine Qi hH ?_ (.p _ _ (.str []))
  simp only [execOp, ho, e1, Sem.run_bind, run_convert_bytes_string w s d el none 0 0 hsrc hel hd, Conv.bytesToString, Result.andThen, Sem.run_pure]
  rfl
 ·cases hs
theorem Q00 {d : Option TypeDesc} {kk : Nat} (h : Uf d kk = true) : ∃ e, d = some e := by
 cases d with
 | none => simp [Uf] at h
 | some e => exact ⟨e, rfl⟩
theorem Qi6 (E : Array MapEntry) (j : Nat) : E.getD j default = E.toList.getD j default := by
 rw [Array.getD_eq_getD_getElem?, List.getD_eq_getElem?_getD]; simp
theorem Qdp {θ : Th} {S : Nat → Prop} {w : World} {t : TypeId} {z : List PV} {agg : Bool} (h : Qa9 P t z agg = true) {zv : AV} (hz : sOf agg (z.map .p) = some zv) : ∃ cz, (zeroValue t).run P w = .ok cz w ∧ RelV θ S w zv cz := by
 unfold Qa9 at h
 cases hi : P.info? t with
 | none => simp [hi] at h
 | some i =>
  simp only [hi, Option.any_some] at h
  cases hzz : i.zero with
  | none => simp [hzz] at h
  | some v =>
   simp only [hzz, Option.any_some] at h
   refine ⟨v, Q3u hi hzz w, ?_⟩
   split at h
   ·rename_i C
    simp only [sOf, Option.some.injEq] at hz
    subst hz
    obtain ⟨h1, h2, h3⟩ := Q01 (S := S) (w := w) _ _ h
    refine .agg _ C (by simpa using h1) h2 (fun i x hx => ?_)
    rw [List.getElem?_map] at hx
    cases hc : z[i]? with
    | none => rw [hc] at hx; cases hx
    | some y => rw [hc] at hx; cases hx; rw [Xt]; exact .p _ _ (h3 i y hc)
   ·rename_i x
    simp only [sOf, List.map_cons, List.map_nil, List.head?_cons, Option.some.injEq] at hz
    subst hz
    exact .p _ _ (Q37 _ _ h)
   ·cases h
theorem Qeq {r : Result Next} {w' : World} (hH : Hp θ H w) {b : Nat} {o o' : AObj} {l : Loc} (hb : H[b]? = some o) (hlive : o.live = true) (hl : θ b = some l) (hr : r = .ok .skip w')
  (hsz : w'.heap.size = w.heap.size) (hsame : ∀ c, c ≠ l.blk → w'.heap[c]? = w.heap[c]?) (hos : w'.os = w.os) (ht : w'.tape = w.tape) (hout : w'.output = w.output)
  (ho : ∀ (S' : Nat → Prop), (∀ c, Z3 θ (H.set b o') c → S' c) → (∀ c, c < w.heap.size → Z3 θ H c → S' c ∧ w'.heap[c]? = w.heap[c]?) → RelObj θ S' w' o' l) : Gj θ H w na Wh { set := some (b, o') } r := by
 obtain ⟨h1, h2⟩ := Qhz (o' := o') hH hb hlive hl w' hsz hsame hos ht hout
 exact ⟨undef, w', θ, .inr ⟨hr, rfl⟩, Q0k, h1 (ho _ (fun c h => h) (fun c hc hf => h2.free c hc hf)), h2, fun _ _ => rfl, fun _ => rfl⟩
theorem Qgt (a b : List UInt8) : ((⟨⟨a⟩⟩ : ByteArray) == ⟨⟨b⟩⟩) = (a == b) := by
 show ((⟨a⟩ : Array UInt8) == ⟨b⟩) = (a == b)
 simp
theorem Q9j {d : TypeDesc} {kk : Nat} (hd : Uf (some d) kk = true) {S : Nat → Prop} {w : World} {k k2 : PV} {ck ck2 : Value} (hk : Q1r kk k = true) (hr : RelP S w k ck) (hr2 : RelP S w k2 ck2) {b : Bool} (h : J9 k k2 = some b) :
  Instr.sameNow d ck ck2 = some b := by
 cases k <;> cases k2 <;> simp only [J9, Js] at h <;> try (cases h; done)
 ·cases hr; cases hr2
  rcases kk with _ | _ | _ | kk <;> simp only [Q1r, Bool.false_eq_true] at hk
  cases d <;> simp only [Uf, Bool.false_eq_true] at hd
  exact h
 ·rename_i i n j m
  cases hr; cases hr2
  rcases kk with _ | _ | _ | kk <;> simp only [Q1r, Bool.false_eq_true] at hk
  cases d <;> simp only [Uf, Bool.false_eq_true] at hd
  simp only [Instr.sameNow]
  by_cases e : i = j
  ·subst e; simpa using h
  ·simp [e] at h
 ·cases hr; cases hr2
  rcases kk with _ | _ | _ | kk <;> simp only [Q1r, Bool.false_eq_true] at hk
  cases d <;> simp only [Uf, Bool.false_eq_true] at hd
  simp only [Instr.sameNow, Qgt]
  exact h
theorem Q5d {d : TypeDesc} {kk : Nat} (hd : Uf (some d) kk = true) {θ : Th} {S : Nat → Prop} {w : World} {k : PV} {ck : Value} (hk : Q1r kk k = true) (hr : RelP S w k ck) : ∀ (es : List (PV × AV)) (E : List MapEntry) (i : Nat), E.length = es.length →
  (∀ (j : Nat) k v, es[j]? = some (k, v) → RelP S w k (E.getD j default).key ∧ RelV θ S w v (E.getD j default).val) → ∀ r, Q4v k i es = some r →
  (r = none ∧ Instr.findNow d ck E i = some none) ∨ ∃ j v e, r = some (i + j, v) ∧ Instr.findNow d ck E i = some (some (i + j, e.val)) ∧ E[j]? = some e ∧ RelV θ S w v e.val ∧ Instr.sameNow d ck e.key = some true
 | [], [], i, _, _, r, h => by simp only [Q4v] at h; cases h; exact .inl ⟨rfl, rfl⟩
 | (k2, v) :: es, e :: E, i, hl, hrel, r, h => by
  have h0 := hrel 0 k2 v rfl
  simp only [List.getD_cons_zero] at h0
  simp only [Q4v] at h
  cases hq : J9 k k2 with
  | none => simp only [hq] at h; cases h
  | some b =>
   have hs := Q9j hd hk hr h0.1 hq
   cases b with
   | true =>
    simp only [hq] at h; cases h
    exact .inr ⟨0, v, e, rfl, by simp [Instr.findNow, hs], rfl, h0.2, hs⟩
   | false =>
    simp only [hq] at h
    rcases Q5d hd hk hr es E (i + 1) (by simpa using hl) (fun j k v hj => by simpa using hrel (j + 1) k v (by simpa using hj)) r h with ⟨h1, h2⟩ | ⟨j, v', e', h1, h2, h3, h4, h5⟩
    ·exact .inl ⟨h1, by simp [Instr.findNow, hs, h2]⟩
    ·exact .inr ⟨j + 1, v', e', by rw [h1]; congr 2; omega, by simp [Instr.findNow, hs, h2]; omega, by simpa using h3, h4, h5⟩
 | [], _ :: _, _, hl, _, _, _ => by simp at hl
 | _ :: _, [], _, hl, _, _, _ => by simp at hl
theorem G6 {w : World} {kt : TypeId} {d : TypeDesc} {kk : Nat} (hd : P.underlying kt = some d) (hkk : Uf (some d) kk = true) (k : Value) (e : Bool) (n : Nat) : (Instr.checkKey e (n + 1) kt k).run P w = .ok () w := by
 unfold Instr.checkKey
 simp only [Sem.run_bind, run_underlying hd, Result.andThen]
 cases d <;> rcases kk with _ | _ | _ | kk <;> simp only [Uf, Bool.false_eq_true] at hkk <;> simp
theorem Qba {d : TypeDesc} {a b : Value} (h : Instr.sameNow d a b = some true) : a = b ∧ ∀ n, Instr.sameBits n a b = true := by
 cases d <;> cases a <;> cases b <;> simp only [Instr.sameNow] at h <;> try (cases h; done)
 ·simp at h; subst h; exact ⟨rfl, fun n => by simp [Instr.sameBits]⟩
 ·split at h
  ·simp at h; subst h; rename_i e; subst e; exact ⟨rfl, fun n => by simp [Instr.sameBits]⟩
  ·cases h
 ·rename_i x y
  have : x = y := by
   have := (MapKept.bytes_beq x y).1 (by simpa using h)
   exact this
  subst this
  exact ⟨rfl, fun n => by simp only [Instr.sameBits]; simpa using h⟩

theorem Qmi (hH : Hp θ H w) {r : Nat} {cv : Value} (hr : RelV θ (Z3 θ H) w (.map r) cv) {es : List (PV × AV)} (hb : H[r]? = some (.map es)) :
  ∃ l E clock, θ r = some l ∧ cv = .map (some l.blk) ∧ w.heap[l.blk]? = some (.map E clock) ∧ E.size = es.length ∧ ∀ (i : Nat) k v, es[i]? = some (k, v) → RelP (Z3 θ H) w k (E.getD i default).key ∧ RelV θ (Z3 θ H) w v (E.getD i default).val := by
 cases hr with
 | map _ l hl =>
  obtain ⟨E, clock, h1, h2, h3⟩ := hH.obj r _ l hb hl
  exact ⟨l, E, clock, hl, rfl, h1, h2, h3⟩

theorem Q93 (hT : TmOk θ (Z3 θ H) w tm a) (hH : Hp θ H w) {t kt et : TypeId} (ht : P.underlying t = some (.map kt et)) {kk : Nat} {d : TypeDesc} (hd : P.underlying kt = some d) (hk : Uf (some d) kk = true)
  {m k x : Operand} {m' k' x' : Opd} (h1 : Qo m m' = true) (h2 : Qo k k' = true) (h3 : Qo x x' = true)
  {v : AV} {e : Eff} (hs : Zk Gl tm H na (.insert kk m' k' x') = some (v, e)) {o : Oper} (ho : o.op = .insert t m k x ∨ o.op = .mapUpdate t m k x) : Gj θ H w na v e ((execOp a.eval o).run P w) := by
 simp only [Zk] at hs
 have hrm := Z4 hT h1
 have hrk := Z4 hT h2
 have hrx := Z4 hT h3
 generalize Q4 tm m' = vm at hs hrm
 generalize Q4 tm k' = vk at hs hrk
 generalize Q4 tm x' = vx at hs hrx
 generalize hak : a.eval k = ck at hrk
 generalize ham : a.eval m = cm at hrm
 generalize hax : a.eval x = cx at hrx
 split at hs
 ·rename_i r ke
  cases hb : H[r]? with
  | none => simp only [hb] at hs; cases hs
  | some ob =>
   cases ob with
   | map es =>
    simp only [hb] at hs
    split at hs
    ·cases hs
    ·rename_i hki
     have hki : Q1r kk ke = true := by simpa using hki
     obtain ⟨l, E, clock, hl, rfl, hE, hn, hrel⟩ := Qmi hH hrm hb
     have hrk : RelP (Z3 θ H) w ke ck := by cases hrk with | p _ _ h => exact h
     have hrunE : (execOp a.eval o).run P w = ((Instr.mapUpdate t (.map (some l.blk)) ck cx).run P w).andThen fun _ w' => .ok .skip w' := by
      rcases ho with ho | ho <;> simp [execOp, ho, ham, hak, hax, Result.andThen] <;> rfl
     cases hf : Q4v ke 0 es with
     | none => simp only [hf] at hs; cases hs
     | some res =>
      have hfind := Q5d (θ := θ) hk hki hrk es E.toList 0 (by simpa using hn) (fun j k v hj => by
       have := hrel j k v hj
       rw [Qi6] at this
       exact this) res hf
      rcases hfind with ⟨rfl, hnow⟩ | ⟨j, v0, e0, rfl, hnow, hj, hv0, hsame⟩
      ·simp only [hf, Option.some.injEq, Prod.mk.injEq] at hs
       obtain ⟨rfl, rfl⟩ := hs
       have hrun : (Instr.mapUpdate t (.map (some l.blk)) ck cx).run P w = .ok () { w with heap := w.heap.setIfInBounds l.blk (.map (E.push { key := ck, val := cx, born := clock }) (clock + 1)) } := by
        simp [Instr.mapUpdate, run_underlying ht, MapKept.run_getObj_map hE, G6 hd hk, MapKept.run_findKey hd hnow, MapKept.run_setObj_map _ hE, Result.andThen]
       refine Qeq (w' := { w with heap := w.heap.setIfInBounds l.blk (.map (E.push { key := ck, val := cx, born := clock }) (clock + 1)) }) hH hb rfl hl (hrunE.trans (by rw [hrun]; rfl)) (by simp) (fun c hc => by simp [Ne.symm hc]) rfl rfl rfl (fun S' h1 h2 => ?_)
       have hm : ∀ {x : AV} {v : Value}, RelV θ (Z3 θ H) w x v → RelV θ S' _ x v := fun r => r.mono (fun _ _ e => e) h2
       have hmp : ∀ {x : PV} {v : Value}, RelP (Z3 θ H) w x v → RelP S' _ x v := fun r => r.mono h2
       refine ⟨E.push { key := ck, val := cx, born := clock }, clock + 1, by simp [Q25 hE], by simp [hn], fun i k v hi => ?_⟩
       by_cases hlt : i < es.length
       ·rw [List.getElem?_append_left hlt] at hi
        obtain ⟨q1, q2⟩ := hrel i k v hi
        have : (E.push { key := ck, val := cx, born := clock }).getD i default = E.getD i default := by
         simp only [Array.getD_eq_getD_getElem?, Array.getElem?_push]
         rw [if_neg (by omega)]
        rw [this]; exact ⟨hmp q1, hm q2⟩
       ·have hi2 := (List.getElem?_eq_some_iff.1 hi).1
        have hie : i = es.length := by simp at hi2; omega
        subst hie
        simp at hi
        obtain ⟨rfl, rfl⟩ := hi
        have : (E.push { key := ck, val := cx, born := clock }).getD es.length default = { key := ck, val := cx, born := clock } := by
         simp only [Array.getD_eq_getD_getElem?, Array.getElem?_push, hn]; simp
        rw [this]; exact ⟨hmp hrk, hm hrx⟩
      ·simp only [hf, Option.some.injEq, Prod.mk.injEq] at hs
       obtain ⟨rfl, rfl⟩ := hs
       obtain ⟨hkeq, hbits⟩ := Qba hsame
       simp only [Nat.zero_add] at hnow ⊢
       have hj' : E[j]? = some e0 := by simpa using hj
       have hstay : (Instr.keyThatStays e0.key ck).run P w = .ok ck w := by
        rw [← hkeq]
        simp [Instr.keyThatStays]
        intro h
        exact absurd (show Instr.sameBits 10000 ck ck = true by rw [hkeq] at hbits ⊢; exact hbits 10000) (by rw [h]; simp)
       have hrun : (Instr.mapUpdate t (.map (some l.blk)) ck cx).run P w = .ok () { w with heap := w.heap.setIfInBounds l.blk (.map (E.modify j fun e => { e with key := ck, val := cx }) clock) } := by
        simp [Instr.mapUpdate, run_underlying ht, MapKept.run_getObj_map hE, G6 hd hk, MapKept.run_findKey hd hnow, hj', hstay, MapKept.run_setObj_map _ hE, Result.andThen]
       refine Qeq (w' := { w with heap := w.heap.setIfInBounds l.blk (.map (E.modify j fun e => { e with key := ck, val := cx }) clock) }) hH hb rfl hl (hrunE.trans (by rw [hrun]; rfl)) (by simp) (fun c hc => by simp [Ne.symm hc]) rfl rfl rfl (fun S' h1 h2 => ?_)
       have hm : ∀ {x : AV} {v : Value}, RelV θ (Z3 θ H) w x v → RelV θ S' _ x v := fun r => r.mono (fun _ _ e => e) h2
       have hmp : ∀ {x : PV} {v : Value}, RelP (Z3 θ H) w x v → RelP S' _ x v := fun r => r.mono h2
       refine ⟨E.modify j fun e => { e with key := ck, val := cx }, clock, by simp [Q25 hE], by simp [hn], fun i k v hi => ?_⟩
       have hjl : j < E.size := (Array.getElem?_eq_some_iff.1 hj').1
       by_cases hij : j = i
       ·subst hij
        rw [List.getElem?_set_self (by omega)] at hi
        simp at hi
        obtain ⟨rfl, rfl⟩ := hi
        have : (E.modify j fun e => { e with key := ck, val := cx }).getD j default = { e0 with key := ck, val := cx } := by
         simp only [Array.getD_eq_getD_getElem?, Array.getElem?_modify]
         simp [hj']
        rw [this]; exact ⟨hmp hrk, hm hrx⟩
       ·rw [List.getElem?_set_ne hij] at hi
        obtain ⟨q1, q2⟩ := hrel i k v hi
        have : (E.modify j fun e => { e with key := ck, val := cx }).getD i default = E.getD i default := by
         simp only [Array.getD_eq_getD_getElem?, Array.getElem?_modify, if_neg hij]
        rw [this]; exact ⟨hmp q1, hm q2⟩
   | cells _ => simp only [hb] at hs; cases hs
   | strIter _ _ => simp only [hb] at hs; cases hs
   | dead => simp only [hb] at hs; cases hs
 ·cases hs
theorem Qgb (hT : TmOk θ (Z3 θ H) w tm a) (hH : Hp θ H w) {t kt et : TypeId} (ht : P.underlying t = some (.map kt et)) {kk : Nat} {d : TypeDesc} (hd : P.underlying kt = some d) (hk : Uf (some d) kk = true)
  {z : List PV} {agg ok : Bool} (hz : Qa9 P et z agg = true) {m k : Operand} {m' k' : Opd} (h1 : Qo m m' = true) (h2 : Qo k k' = true)
  {v : AV} {e : Eff} (hs : Zk Gl tm H na (.lookup kk z agg ok m' k') = some (v, e)) {o : Oper} (ho : o.op = .lookup t m k ok) : Gj θ H w na v e ((execOp a.eval o).run P w) := by
 simp only [Zk] at hs
 have hrm := Z4 hT h1
 have hrk := Z4 hT h2
 generalize Q4 tm m' = vm at hs hrm
 generalize Q4 tm k' = vk at hs hrk
 generalize hak : a.eval k = ck at hrk
 generalize ham : a.eval m = cm at hrm
 split at hs
 ·rename_i r ke
  cases hb : H[r]? with
  | none => simp only [hb] at hs; cases hs
  | some ob =>
   cases ob with
   | map es =>
    simp only [hb] at hs
    split at hs
    ·cases hs
    ·rename_i hki
     have hki : Q1r kk ke = true := by simpa using hki
     obtain ⟨l, E, clock, hl, rfl, hE, hn, hrel⟩ := Qmi hH hrm hb
     have hrk : RelP (Z3 θ H) w ke ck := by cases hrk with | p _ _ h => exact h
     have hrunE : (execOp a.eval o).run P w = ((Instr.lookup t (.map (some l.blk)) ck ok).run P w).andThen fun v w' => .ok (.value v) w' := by
      simp [execOp, ho, ham, hak, Result.andThen]
     cases hf : Q4v ke 0 es with
     | none => simp only [hf] at hs; cases hs
     | some res =>
      have hfind := Q5d (θ := θ) hk hki hrk es E.toList 0 (by simpa using hn) (fun j k v hj => by
       have := hrel j k v hj
       rw [Qi6] at this
       exact this) res hf
      rcases hfind with ⟨rfl, hnow⟩ | ⟨j, v0, e0, rfl, hnow, hj, hv0, hsame⟩
      ·simp only [hf] at hs
       obtain ⟨zv, hz1, hz2⟩ := Option.bind_eq_some_iff.1 hs
       simp only [Z7, Option.some.injEq, Prod.mk.injEq] at hz2
       obtain ⟨rfl, rfl⟩ := hz2
       obtain ⟨cz, hzr, hzv⟩ := Qdp (θ := θ) (S := Z3 θ H) (w := w) hz hz1
       have hrun : (Instr.lookup t (.map (some l.blk)) ck ok).run P w = .ok (if ok then .tuple #[cz, .bool false] else cz) w := by
        simp [Instr.lookup, run_underlying ht, MapKept.run_getObj_map hE, G6 hd hk, MapKept.run_findKey hd hnow, hzr, Result.andThen]
       refine Qi hH (hrunE.trans (by rw [hrun]; rfl)) ?_
       cases ok
       ·exact hzv
       ·refine .tuple _ _ rfl (fun i x hx => ?_)
        match i, hx with
        | 0, hx => simp at hx; subst hx; exact hzv
        | 1, hx => simp at hx; subst hx; exact G9 false
      ·simp only [hf, Z7, Option.some.injEq, Prod.mk.injEq] at hs
       obtain ⟨rfl, rfl⟩ := hs
       simp only [Nat.zero_add] at hnow
       have hrun : (Instr.lookup t (.map (some l.blk)) ck ok).run P w = .ok (if ok then .tuple #[e0.val, .bool true] else e0.val) w := by
        simp [Instr.lookup, run_underlying ht, MapKept.run_getObj_map hE, G6 hd hk, MapKept.run_findKey hd hnow, Result.andThen]
       refine Qi hH (hrunE.trans (by rw [hrun]; rfl)) ?_
       cases ok
       ·exact hv0
       ·refine .tuple _ _ rfl (fun i x hx => ?_)
        match i, hx with
        | 0, hx => simp at hx; subst hx; exact hv0
        | 1, hx => simp at hx; subst hx; exact G9 true
   | cells _ => simp only [hb] at hs; cases hs
   | strIter _ _ => simp only [hb] at hs; cases hs
   | dead => simp only [hb] at hs; cases hs
 ·cases hs
theorem Q4h {S : Nat → Prop} {C D : Array Value} {w : World} (d : Nat) : ∀ (fs : List Field) (ks : List Nat) (n : Nat) (cs ds : List AV) (b : Bool), Gc P fs n ks = true → Vm ks cs ds = some b → C.size = n + cs.length → D.size = n + ds.length →
  (∀ (i : Nat) x, cs[i]? = some x → RelV θ S w x (C.getD (n + i) Zb)) → (∀ (i : Nat) x, ds[i]? = some x → RelV θ S w x (D.getD (n + i) Zb)) → (Op.eqFields (d + 1) C D fs).run P w = .ok b w
 | [], [], n, cs, ds, b, _, hs, h1, h2, h3, h4 => by
  cases cs <;> cases ds <;> simp only [Vm] at hs <;> try (cases hs; done)
  cases hs
  simp [Op.eqFields]
 | f :: fs, kk :: ks, n, cs, ds, b, hf, hs, h1, h2, h3, h4 => by
  simp only [Gc, Bool.and_eq_true, bne_iff_ne, ne_eq, beq_iff_eq] at hf
  obtain ⟨⟨⟨f1, f2⟩, f3⟩, f4⟩ := hf
  cases cs with
  | nil => simp only [Vm] at hs; cases hs
  | cons c cs =>
   cases ds with
   | nil => cases c <;> simp only [Vm] at hs <;> cases hs
   | cons e ds =>
    cases c <;> cases e <;> simp only [Vm] at hs <;> try (cases hs; done)
    rename_i x y
    split at hs
    ·cases hs
    rename_i hki
    have hki : Q1r kk x = true := by simpa using hki
    split at hs
    ·rename_i p q hp hq
     cases hs
     have rx := h3 0 (.p x) rfl
     have ry := h4 0 (.p y) rfl
     simp only [Nat.add_zero] at rx ry
     have hx : C[n]? = some (C.getD n Zb) := by
      have : n < C.size := by simp at h1; omega
      simp [Array.getD, this]
     have hy : D[n]? = some (D.getD n Zb) := by
      have : n < D.size := by simp at h2; omega
      simp [Array.getD, this]
     generalize C.getD n Zb = vx at rx hx
     generalize D.getD n Zb = vy at ry hy
     have rx : RelP S w x vx := by cases rx with | p _ _ h => exact h
     have ry : RelP S w y vy := by cases ry with | p _ _ h => exact h
     obtain ⟨dd, hd⟩ := Q00 f3
     have hna : (isAgg f.type).run P w = .ok false w := by
      rw [hd] at f3
      unfold isAgg
      simp only [Sem.run_bind, run_underlying hd, Result.andThen]
      cases dd <;> rcases kk with _ | _ | _ | kk <;> simp only [Uf, Bool.false_eq_true] at f3 <;> simp
     have px : (part f.type C f.offset).run P w = .ok vx w := by simp [part, hna, f2, hx, Result.andThen]
     have py : (part f.type D f.offset).run P w = .ok vy w := by simp [part, hna, f2, hy, Result.andThen]
     have hsn := Q9j (d := dd) (by rw [← hd]; exact f3) hki rx ry hp
     have heq : (Op.equalIn (d + 1) f.type vx vy).run P w = .ok p w := by
      simp only [Op.equalIn, Sem.run_bind, run_underlying hd, Result.andThen]
      cases dd <;> cases vx <;> cases vy <;> simp only [Instr.sameNow] at hsn <;> try (cases hsn; done)
      ·simp at hsn; subst hsn; simp
      ·split at hsn
       ·rename_i e; subst e; simp at hsn; subst hsn; simp
       ·cases hsn
      ·simp at hsn; subst hsn; simp
     have ih := Q4h (C := C) (D := D) (S := S) (w := w) d fs ks (n + 1) cs ds q f4 hq (by simp at h1; omega) (by simp at h2; omega) (fun i z hz => by have := h3 (i + 1) z (by simpa using hz); rwa [show n + (i + 1) = n + 1 + i by omega] at this) (fun i z hz => by have := h4 (i + 1) z (by simpa using hz); rwa [show n + (i + 1) = n + 1 + i by omega] at this)
     simp only [Op.eqFields, if_pos f1, Sem.run_bind, px, py, heq, Result.andThen]
     cases p
     ·simp
     ·simpa using ih
    ·cases hs
 | [], _ :: _, _, _, _, _, h, _, _, _, _, _ => by simp [Gc] at h
 | _ :: _, [], _, _, _, _, h, _, _, _, _, _ => by simp [Gc] at h
theorem Qc4 {θ : Th} {S : Nat → Prop} {w : World} {v : AV} {cv : Value} (h : RelV θ S w v cv) {cs : List AV} (hc : v.aggs? = some cs) : ∃ C, cv = .agg C ∧ C.size = cs.length ∧ ∀ (i : Nat) x, cs[i]? = some x → RelV θ S w x (C.getD i Zb) := by
 unfold AV.aggs? at hc
 split at hc
 ·cases hc
  cases h with
  | p _ _ h =>
   cases h with
   | agg _ C hn h1 hv =>
    refine ⟨C, rfl, by simpa using hn, fun i x hx => ?_⟩
    rw [List.getElem?_map] at hx
    rename_i cs
    cases hc : cs[i]? with
    | none => rw [hc] at hx; cases hx
    | some y => rw [hc] at hx; cases hx; exact .p _ _ (hv i y hc)
 ·cases hc
  cases h with
  | agg _ C hn h1 hv => exact ⟨C, rfl, hn, hv⟩
 ·cases hc
theorem Qc1 (hT : TmOk θ (Z3 θ H) w tm a) (hH : Hp θ H w) {op : BinOp} {neg : Bool} {t yt : TypeId} {x y : Operand} {x' y' : Opd}
  (hop : (op = .eql ∧ neg = false) ∨ (op = .neq ∧ neg = true)) (hx : Qo x x' = true) (hy : Qo y y' = true) {ks : List Nat} (ht : Q2p P t ks = true) {v : AV} {e : Eff}
  (hs : Zk Gl tm H na (.eqAgg neg ks x' y') = some (v, e)) {o : Oper} (ho : o.op = .binOp op t x y yt) : Gj θ H w na v e ((execOp a.eval o).run P w) := by
 simp only [Zk] at hs
 have hrx := Z4 hT hx
 have hry := Z4 hT hy
 split at hs
 ·rename_i cs ds hc1 hc2
  obtain ⟨b, hb1, hb2⟩ := Option.bind_eq_some_iff.1 hs
  simp only [Z7, Option.some.injEq, Prod.mk.injEq] at hb2
  obtain ⟨rfl, rfl⟩ := hb2
  obtain ⟨C, hC, hC1, hC2⟩ := Qc4 hrx hc1
  obtain ⟨D, hD, hD1, hD2⟩ := Qc4 hry hc2
  unfold Q2p at ht
  split at ht
  ·rename_i fs hu
   simp only [Bool.and_eq_true, Bool.not_eq_true'] at ht
   obtain ⟨⟨t1, t2⟩, t3⟩ := ht
   have hfo : P.fieldsOf t = fs := by unfold Program.fieldsOf; rw [hu]
   have hrun : (Op.equalIn 10000 t (.agg C) (.agg D)).run P w = .ok b w := by
    rw [run_equalIn_struct w 9999 t C D (by rw [hfo]; exact hu) t2, hfo]
    exact Q4h (θ := θ) (S := Z3 θ H) 9998 fs.toList ks 0 cs ds b t1 hb1 (by omega) (by omega) (fun i x hx => by simpa using hC2 i x hx) (fun i x hx => by simpa using hD2 i x hx)
   refine Qi (cv := .bool (if neg then !b else b)) hH ?_ (G9 _)
   have hg := fun op => run_eqGuard_agg (P := P) w op t x y C D t3
   rcases hop with ⟨rfl, rfl⟩ | ⟨rfl, rfl⟩
   ·simp [execOp, ho, hC, hD, hg, run_eql_struct, hrun, Result.andThen]
   ·simp [execOp, ho, hC, hD, hg, run_neq_struct, hrun, Result.andThen]
  ·cases ht
 ·cases hs

theorem Q5u {t : TypeId} {n : Nat} (h : Q3j P t n = true) {i : TypeInfo} (hi : P.info? t = some i) : i.bytes = n := by
 unfold Q3j at h
 simp [hi] at h; exact h

theorem Qeg (hT : TmOk θ (Z3 θ H) w tm a) (hH : Hp θ H w) (hG : GlobOK Gl θ H w) (hna : AlOk θ H na) {o : Oper} {c : COp} (hk : Q3b P o.op c = true) (hc : c.isCall = false) {v : AV} {e : Eff}
  (hs : Zk Gl tm H na c = some (v, e)) : Gj θ H w na v e ((execOp a.eval o).run P w) := by
 obtain ⟨dst, op, ty, pos, aft, gd⟩ := o
 simp only at hk
 unfold Q3b at hk
 split at hk
 ·exact Qey hT hH hk hs (.inl rfl)
 ·exact Qey hT hH hk hs (.inr rfl)
 ·simp only [Bool.and_eq_true] at hk; exact Qkr hT hH hk.1.1 hk.1.2 hk.2 hs rfl
 ·exact Qig hH hna hk hs rfl
 ·exact Qno hT hH hna hk hs rfl
 ·simp only [Bool.and_eq_true] at hk
  obtain ⟨h1, h2⟩ := hk
  refine Qk5 hT hH h1 ?_ hs rfl
  split at h2
  ·rename_i fs hu
   simp only [Bool.and_eq_true] at h2
   exact .inl ⟨fs, hu, fun f hf => by
    obtain ⟨i, hi, rfl⟩ := Array.mem_iff_getElem.1 hf
    have := h2.1
    simp at this
    exact this i hi, h2.2⟩
  ·rename_i n el hu
   simp only [Bool.and_eq_true] at h2
   exact .inr ⟨n, el, hu, h2.1, h2.2⟩
  ·cases h2
 ·split at hk
  ·rename_i el hu
   simp only [Bool.and_eq_true, beq_iff_eq, decide_eq_true_eq] at hk
   obtain ⟨⟨⟨⟨⟨⟨h1, h2⟩, h3⟩, h4⟩, h5⟩, h6⟩, h7⟩ := hk
   subst h5
   exact Q8p hT hH hna hu h1 h2 h3 h4 (by simpa using h6) h7 hs rfl
  ·cases hk
 ·simp only [Bool.and_eq_true] at hk; exact Qko hT hH hG hk.1.1 hk.1.2 hk.2 hs rfl
 ·simp only [Bool.and_eq_true] at hk; exact Qk3 hT hH hk.1.1 hk.1.2 hk.2 hs rfl
 ·exact Qd2 hT hH hk hs rfl
 ·simp only [Bool.and_eq_true] at hk; exact Qnj hT hH hk.1.1 hk.1.2 hk.2 hs rfl
 ·simp only [Bool.and_eq_true] at hk; exact Qnc hT hH hk.1.1 hk.1.2 hk.2 hs rfl
 ·simp only [Bool.and_eq_true] at hk
  obtain ⟨⟨⟨h1, h2⟩, h3⟩, h4⟩ := hk
  split at h4
  ·rename_i hu
   refine Qoc hT hH ?_ h2 h3 hu hs rfl
   split at h1
   ·exact .inl ⟨rfl, by simpa using h1⟩
   ·exact .inr ⟨rfl, h1⟩
   ·cases h1
  ·cases h4
 ·simp only [Bool.and_eq_true] at hk
  obtain ⟨⟨⟨h1, h2⟩, h3⟩, h4⟩ := hk
  split at h4
  ·rename_i d hu
   refine Qni hT hH ?_ h2 h3 hu hs rfl
   split at h1
   ·exact .inl ⟨rfl, by simpa using h1⟩
   ·exact .inr ⟨rfl, h1⟩
   ·cases h1
  ·cases h4
 ·simp only [Bool.and_eq_true] at hk; exact Qc1 hT hH (.inl ⟨rfl, rfl⟩) hk.1.2 hk.2 hk.1.1 hs rfl
 ·simp only [Bool.and_eq_true] at hk; exact Qc1 hT hH (.inr ⟨rfl, rfl⟩) hk.1.2 hk.2 hk.1.1 hs rfl
 ·exact Qn9 hT hH hk hs rfl
 ·exact Qo5 hT hH hk hs rfl
 ·simp only [Bool.and_eq_true] at hk
  obtain ⟨h1, h2⟩ := hk
  split at h2
  ·rename_i j i hu1 hu2
   simp only [beq_iff_eq] at h2
   subst h2
   exact Qkv hT hH hu1 hu2 h1 hs rfl
  ·cases h2
 ·simp only [Bool.and_eq_true] at hk
  obtain ⟨h1, h2⟩ := hk
  split at h2
  ·rename_i hu1 hu2
   simp only [Zk] at hs
   have hrx := Z4 hT h1
   split at hs
   ·rename_i str hv
    rw [hv] at hrx
    simp only [Option.map_none, Q5p, Nat.zero_le, Nat.le_refl, and_self, if_true, List.take_length, List.drop_zero, Z7, Option.some.injEq, Prod.mk.injEq] at hs
    obtain ⟨rfl, rfl⟩ := hs
    exact Qi hH (by simp [execOp, Q21 hrx, convert, run_underlying hu1, run_underlying hu2, Result.andThen]) (.p _ _ (.str str))
   ·cases hs
  ·cases h2
 ·simp only [Bool.and_eq_true] at hk
  obtain ⟨h1, h2⟩ := hk
  split at h2
  ·rename_i el hu1 hu2
   split at h2
   ·rename_i hu3; exact Qdq hT hH hna hu1 hu2 hu3 h1 hs rfl
   ·cases h2
  ·cases h2
 ·simp only [Bool.and_eq_true] at hk
  obtain ⟨h1, h2⟩ := hk
  split at h2
  ·rename_i el hu1 hu2
   split at h2
   ·rename_i hu3; exact Qk2 hT hH hG hu1 hu2 hu3 h1 hs rfl
   ·cases h2
  ·cases h2
 ·simp only [Bool.and_eq_true, beq_iff_eq] at hk
  obtain ⟨⟨h1, h2⟩, h3⟩ := hk
  subst h1
  exact Qbd hT hH h2 h3 hs rfl
 ·exact Qea hH hna hs rfl
 ·simp only [Bool.and_eq_true] at hk
  obtain ⟨⟨⟨h1, h2⟩, h3⟩, h4⟩ := hk
  split at h4
  ·rename_i kt et hu
   obtain ⟨d, hd⟩ := Q00 h4
   rw [hd] at h4
   exact Q93 hT hH hu hd h4 h1 h2 h3 hs (.inl rfl)
  ·cases h4
 ·simp only [Bool.and_eq_true] at hk
  obtain ⟨⟨⟨h1, h2⟩, h3⟩, h4⟩ := hk
  split at h4
  ·rename_i kt et hu
   obtain ⟨d, hd⟩ := Q00 h4
   rw [hd] at h4
   exact Q93 hT hH hu hd h4 h1 h2 h3 hs (.inr rfl)
  ·cases h4
 ·simp only [Bool.and_eq_true, beq_iff_eq] at hk
  obtain ⟨⟨⟨h1, h2⟩, h3⟩, h4⟩ := hk
  subst h3
  split at h4
  ·rename_i kt et hu
   simp only [Bool.and_eq_true] at h4
   obtain ⟨h5, h7⟩ := h4
   obtain ⟨d, hd⟩ := Q00 h7
   rw [hd] at h7
   exact Qgb hT hH hu hd h7 h5 h1 h2 hs rfl
  ·cases h4
 ·simp only [Bool.and_eq_true] at hk
  obtain ⟨⟨h1, h2⟩, h3⟩ := hk
  split at h3
  ·rename_i el hu
   simp only [Bool.and_eq_true, decide_eq_true_eq] at h3
   exact Qam hT hH hna hu h3.1.1.1.1 h3.1.1.1.2 h3.1.1.2 h3.1.2 h3.2 h1 h2 hs rfl
  ·cases h3
 ·simp only [Bool.and_eq_true] at hk
  obtain ⟨⟨⟨h1, h2⟩, h3⟩, h4⟩ := hk
  split at h4
  ·rename_i hu; exact Qd1 hT hH h1 h2 h3 hu hs rfl
  ·cases h4
 ·simp only [Bool.and_eq_true] at hk
  obtain ⟨⟨⟨h1, h2⟩, h3⟩, h4⟩ := hk
  split at h4
  ·rename_i el hu; exact Qjq hT hH h1 h2 h3 hu h4 hs rfl
  ·cases h4
 ·simp only [Bool.and_eq_true] at hk
  obtain ⟨⟨⟨h1, h2⟩, h3⟩, h4⟩ := hk
  split at h4
  ·rename_i m el hu
   simp only [Bool.and_eq_true, beq_iff_eq, decide_eq_true_eq] at h4
   obtain ⟨⟨rfl, h5⟩, h6⟩ := h4
   exact Qbl hT hH h1 h2 h3 hu h5 h6 hs rfl
  ·cases h4
 ·rename_i t x f x' off
  simp only [Bool.and_eq_true] at hk
  obtain ⟨h1, h2⟩ := hk
  split at h2
  ·rename_i fs hu
   cases hf : fs[f]? with
   | none => rw [hf] at h2; simp at h2
   | some fd =>
    simp only [hf, Option.any_some, Bool.and_eq_true, beq_iff_eq, decide_eq_true_eq] at h2
    obtain ⟨h3, h4⟩ := h2
    subst h3
    exact Qaa hT hH hu hf h4 h1 hs rfl
  ·cases h2
 ·rename_i t x f x' off n agg
  simp only [Bool.and_eq_true] at hk
  obtain ⟨h1, h2⟩ := hk
  split at h2
  ·rename_i fs hu
   cases hf : fs[f]? with
   | none => rw [hf] at h2; simp at h2
   | some fd =>
    simp only [hf, Option.any_some, Bool.and_eq_true, beq_iff_eq] at h2
    obtain ⟨⟨h3, h4⟩, h5⟩ := h2
    subst h3
    exact Qhf hT hH hu hf h4 h5 h1 hs rfl
  ·cases h2
 ·simp only [Bool.and_eq_true] at hk
  obtain ⟨⟨h1, h2⟩, h3⟩ := hk
  split at h3
  ·rename_i el hu; exact Qa8 hT hH hu h3 h1 h2 hs rfl
  ·cases h3
 ·simp only [Bool.and_eq_true] at hk
  obtain ⟨⟨h1, h2⟩, h3⟩ := hk
  split at h3
  ·rename_i n el hu
   simp only [Bool.and_eq_true, beq_iff_eq] at h3
   obtain ⟨h4, h5⟩ := h3
   subst h4
   exact Qbn hT hH hu h5 h1 h2 hs rfl
  ·cases h3
 ·simp only [Bool.and_eq_true] at hk
  obtain ⟨⟨h1, h2⟩, h3⟩ := hk
  split at h3
  ·rename_i hu; exact Qbs hT hH hu h1 h2 hs rfl
  ·cases h3
 ·simp only [Bool.and_eq_true, beq_iff_eq] at hk
  obtain ⟨h1, h2⟩ := hk
  subst h2
  exact Qdh hT hH h1 hs rfl
 ·split at hk
  ·rename_i hcal
   simp only [Bool.and_eq_true] at hk
   obtain ⟨h1, h2⟩ := hk
   split at h2
   ·rename_i t hty
    split at h2
    ·rename_i hu; exact Qgu hT hH hcal h1 hty hu hs rfl
    ·cases h2
   ·cases h2
  ·cases hk
 ·split at hk
  ·rename_i hcal
   simp only [Bool.and_eq_true] at hk
   obtain ⟨h1, h2⟩ := hk
   split at h2
   ·rename_i t hty
    split at h2
    ·rename_i hu; exact Qjl hT hH hcal h1 hty hu hs rfl
    ·cases h2
   ·cases h2
  ·cases hk
 ·split at hk
  ·rename_i hcal
   simp only [Bool.and_eq_true] at hk
   obtain ⟨h1, h2⟩ := hk
   split at h2
   ·rename_i t hty
    split at h2
    ·rename_i hu; exact Qgw hT hH hcal h1 hty hu hs rfl
    ·cases h2
   ·cases h2
  ·cases hk
 ·rename_i esz bytes s x
  split at hk
  ·rename_i hcal
   simp only [Bool.and_eq_true] at hk
   obtain ⟨h1, h2⟩ := hk
   split at h2
   ·rename_i t u hty
    split at h2
    ·rename_i el hu
     simp only [Bool.and_eq_true, decide_eq_true_eq] at h2
     obtain ⟨⟨⟨⟨⟨h3, h4⟩, h5⟩, h6⟩, h7⟩, h8⟩ := h2
     obtain ⟨i, hi, hsz⟩ := Q47 h3
     have hby := Q5u h4 hi
     simp only [hi, Option.any_some] at h7
     cases hz : i.zero with
     | none => rw [hz] at h7; simp at h7
     | some z =>
      simp only [hz, Option.any_some, beq_iff_eq] at h7
      refine Q59 hT hH hG hna hcal h1 hty hu hi hsz hby h5 h6 hz h7 ?_ hs rfl
      split at h8
      ·exact .inl ⟨_, by assumption⟩
      ·exact .inr (by assumption)
      ·cases h8
    ·cases h2
   ·cases h2
  ·cases hk
 ·rename_i esz bytes s x
  split at hk
  ·rename_i hcal
   simp only [Bool.and_eq_true] at hk
   obtain ⟨h1, h2⟩ := hk
   split at h2
   ·rename_i t u hty
    split at h2
    ·rename_i el hu
     simp only [Bool.and_eq_true, decide_eq_true_eq] at h2
     obtain ⟨⟨⟨⟨⟨h3, h4⟩, h5⟩, h6⟩, h7⟩, h8⟩ := h2
     obtain ⟨i, hi, hsz⟩ := Q47 h3
     have hby := Q5u h4 hi
     simp only [hi, Option.any_some] at h7
     cases hz : i.zero with
     | none => rw [hz] at h7; simp at h7
     | some z =>
      simp only [hz, Option.any_some, beq_iff_eq] at h7
      refine Qd7 hT hH hG hna hcal h1 hty hu hi hsz hby h5 h6 hz h7 ?_ hs rfl
      split at h8
      ·exact .inl ⟨_, by assumption⟩
      ·exact .inr (by assumption)
      ·cases h8
    ·cases h2
   ·cases h2
  ·cases hk
 ·split at hk
  ·rename_i hcal
   simp only [Bool.and_eq_true] at hk
   obtain ⟨h1, h2⟩ := hk
   split at h2
   ·rename_i t u hty
    split at h2
    ·rename_i el hu
     simp only [Bool.and_eq_true] at h2
     obtain ⟨h3, _⟩ := h2
     obtain ⟨i, hi, hsz⟩ := Q47 h3
     exact Qkg hT hH hG hcal h1 hty hu hi hsz hs rfl
    ·cases h2
   ·cases h2
  ·cases hk
 ·split at hk
  ·rename_i hcal; exact Qoe hT hH hcal hk hs rfl
  ·cases hk
 ·split at hk
  ·rename_i hcal; exact Qoi hT hH hcal hk hs rfl
  ·cases hk
 ·cases hc
 ·cases hc
 ·cases hk
end
end
end Go.Av
