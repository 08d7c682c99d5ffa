/- Part 3 of the proof: the pieces below, each with its own first line. No condition but those in each statement. -/
import Derived.Test.YtdoimhpmnmmffaaGreatK2
import Derived.RangeFuncRecord
set_option linter.unusedVariables false
set_option linter.unusedSimpArgs false
/- Contracts of wal: entries are written. No condition but those in each statement. -/
namespace Go.Proofs.YtdoimhpmnmmffaaGreat
open Go IntWalk
variable {H : Heap} {R : Value → Heap → Prop} {X : List PanicEntry → Heap → Prop}

def Part.add (p : Part) (k : Nat) : Part := { p with done := p.done + k }
theorem Part.add_zero (p : Part) : p.add 0 = p := by simp [Part.add]
theorem Part.add_one (p : Part) (k : Nat) : (p.add k).one = p.add (k + 1) := by simp [Part.add, Part.one]; omega
def wM (A P : Nat) (v : Value) (b : Nat) : Prop := arM A v b ∨ b = P

theorem c88' {D P : Nat} {ps : List Part} {armed : Bool} (h : DkRep H D P ps armed) {i : Nat} (hi : i < ps.length) {p : Part} (hp : ps[i] = p) (hdn : 0 ≤ p.done ∧ p.done < 4611686018427387904) {a : Area} {v x : Value} {bs : List UInt8}
    (ha : ArRep H p.area a v) (hD : ¬ arM p.area v D) (hP : ¬ arM p.area v P) (hx : Bs H x bs) (hfit : a.bytes.length + bs.length ≤ 140737488355328)
    (hR : down armed p = false → ∀ w H', Keep (wM p.area P v) H H' → (∀ b, ob w b → ob v b ∨ H.size ≤ b) → ArRep H' p.area ⟨a.base, a.bytes ++ bs, a.safe⟩ w → DkRep H' D P (ps.set i p.one) armed → R (.int .i64 0) H')
    (hE : down armed p = true → ∀ H', Keep no H H' → R (.int .i64 80) H') : Runs Tryz.prog 88 [.pointer (some ⟨D, 0, none⟩), .int .i64 i, x] H R X := by
  subst hp; exact c88 h hi hdn ha hD hP hx hfit hR hE

theorem framesL_succ {es : List Ent} {k : Nat} (h : k < es.length) : framesL (es.take (k + 1)) = framesL (es.take k) ++ frameL (encL es[k]) := by
  rw [List.take_add_one, List.getElem?_eq_getElem h]
  simp only [framesL, Option.toList_some, List.flatMap_append, List.flatMap_cons, List.flatMap_nil, List.append_nil]
theorem framesL_len {es : List Ent} (h : ∀ e ∈ es, okE e = true) : (framesL es).length ≤ es.length * 6000 := by
  induction es with
  | nil => simp [framesL]
  | cons e es ih =>
    have h1 := encL_len (h e (List.mem_cons_self ..))
    have h2 := ih fun x hx => h x (List.mem_cons_of_mem _ hx)
    have h3 := frameL_len (encL e)
    simp only [framesL, List.flatMap_cons, List.length_append, List.length_cons] at h2 ⊢
    omega

/-- what a loop over a list counts down -/
def decr (n : Nat) (y : Value) : Nat := match y with
  | .int _ m => (n - m).toNat
  | _ => 0
theorem decr_lt {n k : Nat} {kd : IntKind} (h : k < n) : Nat.lt (decr n (.int kd (k + 1 : Nat))) (decr n (.int kd k)) := by
  show ((n : Int) - ((k + 1 : Nat) : Int)).toNat < ((n : Int) - (k : Int)).toNat
  omega
def WrI (H : Heap) (D P : Nat) (ps : List Part) (armed : Bool) (i : Nat) (p : Part) (a : Area) (v : Value) (es : List Ent) (y : Value) (H1 : Heap) : Prop :=
  ∃ (k : Nat) (w : Value), k ≤ es.length ∧ y = .int .i64 k ∧ Keep (wM p.area P v) H H1 ∧ (∀ b, ob w b → ob v b ∨ H.size ≤ b) ∧ ArRep H1 p.area ⟨a.base, a.bytes ++ framesL (es.take k), a.safe⟩ w ∧ DkRep H1 D P (ps.set i (p.add k)) armed ∧ (armed = true → k = 0 ∨ p.done + k ≤ p.fdone)
theorem c49 {L D P i : Nat} (hL : H[L]? = some (lgO D i)) {ps : List Part} {armed : Bool} (h : DkRep H D P ps armed) (hi : i < ps.length) {p : Part} (hp : ps[i] = p) {a : Area} {v x : Value} {es : List Ent} {vs : List Value}
    (ha : ArRep H p.area a v) (hD : ¬ arM p.area v D) (hP : ¬ arM p.area v P) (hLM : ¬ wM p.area P v L) (hx : EnSl H x es vs) (hxm : ∀ b, enM x vs b → ¬ wM p.area P v b) (hok : ∀ e ∈ es, okE e = true)
    (hel : es.length ≤ 1099511627776) (hfit : a.bytes.length + es.length * 6000 ≤ 140737488355328) (hdn : 0 ≤ p.done ∧ p.done + es.length < 4611686018427387904)
    (hR : (armed = true → es.length = 0 ∨ p.done + es.length ≤ p.fdone) → ∀ w H', Keep (wM p.area P v) H H' → (∀ b, ob w b → ob v b ∨ H.size ≤ b) → ArRep H' p.area ⟨a.base, a.bytes ++ framesL es, a.safe⟩ w → DkRep H' D P (ps.set i (p.add es.length)) armed → R (.int .i64 0) H')
    (hE : ∀ k, k < es.length → armed = true → p.fdone ≤ p.done + k → (k = 0 ∨ p.done + k ≤ p.fdone) → ∀ w H', Keep (wM p.area P v) H H' → (∀ b, ob w b → ob v b ∨ H.size ≤ b) → ArRep H' p.area ⟨a.base, a.bytes ++ framesL (es.take k), a.safe⟩ w → DkRep H' D P (ps.set i (p.add k)) armed → R (.int .i64 80) H') :
    Runs Tryz.prog 49 [.pointer (some ⟨L, 0, none⟩), x] H R X := by
  refine l49 ?_
  unfold i49
  simp only [ptrEq_nil_r, Option.isNone_some, Option.map_some, Gt_some, If_false, hx.ln]
  have hAL := ha.lt p.area (.inl rfl)
  refine ⟨fun (y : Value) (H1 : Heap) => WrI H D P ps armed i p a v es y H1, fun (y : Value) (_ : Heap) => decr es.length y, ⟨0, v, by omega, rfl, .refl H, fun b hb => .inl hb, by simpa [framesL] using ha, by rw [Part.add_zero, ← hp, List.set_getElem_self]; exact h, fun _ => .inl rfl⟩, ?_⟩
  rintro H1 y ⟨k, w, hk, rfl, k1, f1, a1, d1, harm⟩
  have hDl := (dk_ne h).1
  have hPl := (dk_ne h).2
  have hw : ∀ b, arM p.area w b → arM p.area v b ∨ H.size ≤ b := by
    rintro b (hb | hb)
    · exact .inl (.inl hb)
    · exact (f1 b hb).imp .inr id
  simp only [binI_lss, Gt_some, If_iff, decide_eq_true_eq, decide_eq_false_iff_not]
  refine ⟨fun hlt => ?_, fun hge => ?_⟩
  · have hlt : k < es.length := by omega
    have hx1 := hx.keep k1 hxm
    obtain ⟨q, hq1, hq2⟩ := hx1.at hlt
    have hv1 := hx1.vals k hlt
    generalize hvk : vs[k]'(by rw [hx.len]; exact hlt) = vk at hq2 hv1
    have hvkM : ∀ b, ob vk b → ¬ wM p.area P v b := fun b hb => hxm b (.inr ⟨vk, hvk ▸ List.getElem_mem _, hb⟩)
    have hz : z182.cells.size = 6 := rfl
    simp only [hq1, hq2, Gt_some, Nw_iff]
    have hc : (entV es[k] vk).cells = #[.int .i64 es[k].kind, .int .i64 es[k].stamp, .int .i64 es[k].count, .string es[k].key, vk, .bool es[k].dead] := rfl
    have hone := hv1.one.2
    have e1 : stV 6 (.pointer (some ⟨H1.size, 0, none⟩)) (entV es[k] vk) (H1.push (.cells z182.cells 182 (0, 0))) = some ((H1.push (.cells z182.cells 182 (0, 0))).setIfInBounds H1.size (.cells (entV es[k] vk).cells 182 (0, 0))) := by
      rw [stV_of get_push_eq (by rw [hc]; rfl) (by decide) (by rw [hz]; decide) (by rw [hc]; simp only [List.all_cons, List.all_nil, hone]; rfl)]
      congr 3
    generalize hH2 : (H1.push (.cells z182.cells 182 (0, 0))).setIfInBounds H1.size (.cells (entV es[k] vk).cells 182 (0, 0)) = H2 at e1
    have k2 : Keep no H1 H2 := by
      rw [← hH2]
      exact ⟨by simp, fun b hb _ => (get_set_ne (by omega)).trans (get_push_lt hb)⟩
    have hb2 : H2[H1.size]? = some (.cells (entV es[k] vk).cells 182 (0, 0)) := by rw [← hH2]; exact get_set_eq (by simp)
    have e2 : rda 6 (.pointer (some ⟨H1.size, 0, none⟩)) H2 = some (entV es[k] vk) := by
      rw [rda_ptr, rdn_at hb2 6 0 (by rw [hc]; simp)]; rfl
    simp only [e1, e2, Gt_some]
    have hokk := hok es[k] (List.getElem_mem _)
    refine ⟨c86 (hv1.keep k2 fun _ _ h => h) (fun _ w3 H3 n3 => ?_) (fun h => by rw [hokk] at h; cases h)⟩
    simp
    have hll := encL_len hokk
    refine ⟨c87 n3.own.bs (by omega) fun w4 H4 k4 f4 o4 => ?_⟩
    have k24 := (k2.trans n3.keep).trans k4
    have k04 : Keep (wM p.area P v) H H4 := k1.trans (k24.mono fun _ _ h => h.elim)
    simp [rdc_of (k04.at hL hLM)]
    have hD1 : ¬ arM p.area w D := fun hb => by rcases hw D hb with h1 | h1; exact hD h1; omega
    have hP1 : ¬ arM p.area w P := fun hb => by rcases hw P hb with h1 | h1; exact hP h1; omega
    have hii : i < (ps.set i (p.add k)).length := by simpa using hi
    have hpk : (ps.set i (p.add k))[i] = p.add k := by simp
    have hfl := framesL_len (es := es.take k) fun e he => hok e (List.mem_of_mem_take he)
    have hfl2 := frameL_len (encL es[k])
    have htl : (es.take k).length = k := by simp; omega
    refine ⟨c88' (p := p.add k) (d1.keep k24 (fun h => h) (fun h => h)) hii hpk ⟨by simp [Part.add]; omega, by simp [Part.add]; omega⟩ (a1.keep k24 fun _ _ h => h) hD1 hP1 o4.bs (by simp; omega) (fun hdw w5 H5 k5 f5 a5 d5 => ?_) fun hdw H5 k5 => ?_⟩
    · have e6 : IntKind.i64.wrap ((k : Int) + 1) = ((k + 1 : Nat) : Int) := by rw [i64_in _ (by omega)]; rfl
      simp only [binI_neq, Gt_some, bne_self_eq_false, If_false, binI_add, e6]
      refine ⟨⟨k + 1, w5, by omega, rfl, ?_, ?_, ?_, ?_, ?_⟩, decr_lt hlt⟩
      · exact k04.trans' k5 fun b hb => by
          rcases hb with hb | hb
          · exact (hw b hb).imp .inl id
          · exact .inl (.inr hb)
      · intro b hb
        rcases f5 b hb with h1 | h1
        · exact f1 b h1
        · exact .inr (Nat.le_trans k04.size h1)
      · rw [framesL_succ hlt, ← List.append_assoc]; exact a5
      · rw [Part.add_one] at d5; simpa using d5
      · intro harmed
        refine .inr ?_
        have hdw' : ¬ p.fdone ≤ p.done + k := by
          simp only [down, Part.add, harmed, Bool.true_and] at hdw
          exact of_decide_eq_false hdw
        omega
    · simp
      have harmed : armed = true := by cases armed with | true => rfl | false => simp [down] at hdw
      have hdw' : p.fdone ≤ p.done + k := by
        simp only [down, Part.add, harmed, Bool.true_and] at hdw
        exact of_decide_eq_true hdw
      have k05 : Keep (wM p.area P v) H H5 := k04.trans (k5.mono fun _ _ h => h.elim)
      have k15 := k24.trans k5
      exact hE k hlt harmed hdw' (harm harmed) w H5 k05 f1 (a1.keep k15 fun _ _ h => h) (d1.keep k15 (fun h => h) (fun h => h))
  · have : k = es.length := by omega
    subst this
    rw [List.take_length] at a1
    exact hR harm w H1 k1 f1 a1 d1
end Go.Proofs.YtdoimhpmnmmffaaGreat

/- Contracts of the package chain: the newest version. No condition but those in each statement. -/
namespace Go.Proofs.YtdoimhpmnmmffaaGreat
open Go IntWalk
variable {H : Heap} {R : Value → Heap → Prop} {X : List PanicEntry → Heap → Prop}

structure Link where
  stamp : Int
  val : List UInt8
  dead : Bool
def lkC (l : Link) (v : Value) : List Value := [.int .i64 l.stamp, v, .bool l.dead]
def lkA (l : Link) (v : Value) : Value := .agg #[.int .i64 l.stamp, v, .bool l.dead]
/-- a chain at block C, its links in v, their values in vs -/
structure ChRep (H : Heap) (C : Nat) (v : Value) (ls : List Link) (vs : List Value) : Prop where
  blk : H[C]? = some (.cells #[v] 236 (0, 0))
  len : vs.length = ls.length
  own : Own 194 3 H v ls.length (List.zipWith lkC ls vs).flatten
  vals : ∀ j (h : j < ls.length), Bs H (vs[j]'(by omega)) ls[j].val
  ne : ¬ ob v C
  sep : ∀ w ∈ vs, ∀ b, ob w b → b ≠ C ∧ ¬ ob v b ∧ b < H.size
/-- what it may change: itself and its links -/
def chM (C : Nat) (v : Value) (b : Nat) : Prop := b = C ∨ ob v b
/-- all its memory -/
def chF (C : Nat) (v : Value) (vs : List Value) (b : Nat) : Prop := chM C v b ∨ ∃ w ∈ vs, ob w b
theorem ChRep.keep {M : Nat → Prop} {H H' : Heap} {C : Nat} {v : Value} {ls : List Link} {vs : List Value} (h : ChRep H C v ls vs) (k : Keep M H H') (hm : ∀ b, chF C v vs b → ¬ M b) : ChRep H' C v ls vs :=
  ⟨k.at h.blk (hm C (.inl (.inl rfl))), h.len, h.own.keep k fun b hb => hm b (.inl (.inr hb)), fun j hj => (h.vals j hj).keep k fun b hb => hm b (.inr ⟨_, List.getElem_mem _, hb⟩), h.ne, fun w hw b hb => ⟨(h.sep w hw b hb).1, (h.sep w hw b hb).2.1, k.lt (h.sep w hw b hb).2.2⟩⟩
theorem lkC_len {ls : List Link} {vs : List Value} : ∀ c ∈ List.zipWith lkC ls vs, c.length = 3 := by
  intro c hc
  obtain ⟨i, hi, rfl⟩ := List.getElem_of_mem hc
  simp [lkC]
theorem ChRep.slc {H : Heap} {C : Nat} {v : Value} {ls : List Link} {vs : List Value} (h : ChRep H C v ls vs) : SlC H v 3 (List.zipWith lkC ls vs) := by
  refine Own.slc (z := 194) ?_ lkC_len
  have : (List.zipWith lkC ls vs).length = ls.length := by simp [h.len]
  rw [this]; exact h.own
theorem ChRep.ln {H : Heap} {C : Nat} {v : Value} {ls : List Link} {vs : List Value} (h : ChRep H C v ls vs) : lnV v = some (.int .i64 ls.length) := by
  rw [h.slc.len]; simp [h.len]
theorem ChRep.at {H : Heap} {C : Nat} {v : Value} {ls : List Link} {vs : List Value} (h : ChRep H C v ls vs) {j : Nat} (hj : j < ls.length) : ∃ p, iaV 3 v (.int .i64 j) = some p ∧ rda 3 p H = some (lkA ls[j] (vs[j]'(by rw [h.len]; exact hj))) := by
  have hl : j < (List.zipWith lkC ls vs).length := by simp [h.len, hj]
  obtain ⟨b, o, h1, _, h3⟩ := h.slc.els j hl
  refine ⟨_, h1, ?_⟩
  rw [rda_ptr, h3]
  simp [lkC, lkA]

theorem c309 {C : Nat} {v : Value} {ls : List Link} {vs : List Value} (h : ChRep H C v ls vs) (hR : R (.int .i64 ls.length) H) : Runs Tryz.prog 309 [.pointer (some ⟨C, 0, none⟩)] H R X :=
  l309 (by simp [i309, rdc_of h.blk, h.ln, hR])
theorem c309n (hR : R (.int .i64 0) H) : Runs Tryz.prog 309 [.pointer none] H R X := l309 (by simp [i309, hR])
def zlk : Value := .agg #[.int .i64 0, .slice none 0 0, .bool false]

theorem c299n (hR : ∀ H', Keep no H H' → R (.tuple #[zlk, .bool false]) H') : Runs Tryz.prog 299 [.pointer none] H R X := by
  refine l299 ?_
  unfold i299
  simp only [Nw_iff]
  generalize hH1 : H.push (.cells z194.cells 194 (0, 0)) = H1
  have hb : H1[H.size]? = some (.cells #[.int .i64 0, .slice none 0 0, .bool false] 194 (0, 0)) := by rw [← hH1]; exact get_push_eq
  have k1 : Keep no H H1 := by rw [← hH1]; exact .push
  refine ⟨c309n ?_⟩
  have e1 : bdV z194 [(0, 1), (1, 1), (2, 1)] [] = some zlk := rfl
  have e2 : stV 3 (.pointer (some ⟨H.size, 0, none⟩)) zlk H1 = some (H1.setIfInBounds H.size (.cells #[.int .i64 0, .slice none 0 0, .bool false] 194 (0, 0))) := by
    rw [stV_of hb (by rfl) (by decide) (by simp) (by rfl)]; rfl
  have hb2 : (H1.setIfInBounds H.size (.cells #[.int .i64 0, .slice none 0 0, .bool false] 194 (0, 0)))[H.size]? = some (.cells #[.int .i64 0, .slice none 0 0, .bool false] 194 (0, 0)) := get_set_eq (lt_of_get hb)
  have e3 := rdn_at hb2 3 0 (by simp)
  simp [e1, e2, e3]
  refine hR _ ⟨by simp; exact k1.size, fun b hb hm => (get_set_ne (by omega)).trans (k1.get b hb hm)⟩
theorem c299 {C : Nat} {v : Value} {ls : List Link} {vs : List Value} (h : ChRep H C v ls vs) (hl : ls.length ≤ 1099511627776)
    (hN : ls.length = 0 → ∀ H', Keep no H H' → R (.tuple #[zlk, .bool false]) H')
    (hR : ∀ (j : Nat) (hj : j < ls.length), j + 1 = ls.length → ∀ H', Keep no H H' → R (.tuple #[lkA ls[j] (vs[j]'(by rw [h.len]; exact hj)), .bool true]) H') : Runs Tryz.prog 299 [.pointer (some ⟨C, 0, none⟩)] H R X := by
  refine l299 ?_
  unfold i299
  simp only [Nw_iff]
  generalize hH1 : H.push (.cells z194.cells 194 (0, 0)) = H1
  have hb : H1[H.size]? = some (.cells #[.int .i64 0, .slice none 0 0, .bool false] 194 (0, 0)) := by rw [← hH1]; exact get_push_eq
  have k1 : Keep no H H1 := by rw [← hH1]; exact .push
  have h1 := h.keep k1 fun _ _ h => h
  refine ⟨c309 h1 ?_⟩
  have e1 : bdV z194 [(0, 1), (1, 1), (2, 1)] [] = some zlk := rfl
  by_cases h0 : ls.length = 0
  · have e2 : stV 3 (.pointer (some ⟨H.size, 0, none⟩)) zlk H1 = some (H1.setIfInBounds H.size (.cells #[.int .i64 0, .slice none 0 0, .bool false] 194 (0, 0))) := by
      rw [stV_of hb (by rfl) (by decide) (by simp) (by rfl)]; rfl
    have hb2 : (H1.setIfInBounds H.size (.cells #[.int .i64 0, .slice none 0 0, .bool false] 194 (0, 0)))[H.size]? = some (.cells #[.int .i64 0, .slice none 0 0, .bool false] 194 (0, 0)) := get_set_eq (lt_of_get hb)
    have e3 := rdn_at hb2 3 0 (by simp)
    simp [h0, e1, e2, e3]
    refine hN h0 _ ⟨by simp; exact k1.size, fun b hb hm => (get_set_ne (by omega)).trans (k1.get b hb hm)⟩
  · obtain ⟨j, hj⟩ : ∃ j, j + 1 = ls.length := ⟨ls.length - 1, by omega⟩
    have hjl : j < ls.length := by omega
    obtain ⟨q, hq1, hq2⟩ := h1.at hjl
    have hv := h1.vals j hjl
    generalize hvk : vs[j]'(by rw [h.len]; exact hjl) = vk at hq2 hv
    have e0 : ((ls.length : Int) == 0) = false := by rw [beq_eq_false_iff_ne]; omega
    have e0' : ls ≠ [] := fun e => h0 (by rw [e]; rfl)
    have e5 : IntKind.i64.wrap ((ls.length : Int) - 1) = (j : Int) := by rw [i64_in _ (by omega)]; omega
    have hone := hv.one.2
    have e2 : stV 3 (.pointer (some ⟨H.size, 0, none⟩)) (lkA ls[j] vk) H1 = some (H1.setIfInBounds H.size (.cells #[.int .i64 ls[j].stamp, vk, .bool ls[j].dead] 194 (0, 0))) := by
      rw [stV_of hb (by rfl) (by decide) (by simp) (by simp only [lkA, Value.cells, List.all_cons, List.all_nil, hone]; rfl)]; rfl
    have hb2 : (H1.setIfInBounds H.size (.cells #[.int .i64 ls[j].stamp, vk, .bool ls[j].dead] 194 (0, 0)))[H.size]? = some (.cells #[.int .i64 ls[j].stamp, vk, .bool ls[j].dead] 194 (0, 0)) := get_set_eq (lt_of_get hb)
    have e3 := rdn_at hb2 3 0 (by simp)
    simp only [exV_tuple, binI_eql, Gt_some, e0, If_false]
    simp [rdc_of h1.blk, h1.ln, e5, hq1, hq2, e2, e3]
    have := hR j hjl hj (H1.setIfInBounds H.size (.cells #[.int .i64 ls[j].stamp, vk, .bool ls[j].dead] 194 (0, 0))) ⟨by simp; exact k1.size, fun b hb hm => (get_set_ne (by omega)).trans (k1.get b hb hm)⟩
    rw [hvk] at this
    exact this
end Go.Proofs.YtdoimhpmnmmffaaGreat

/- Contracts of the package chain: a version more. No condition but those in each statement. -/
namespace Go.Proofs.YtdoimhpmnmmffaaGreat
open Go IntWalk
variable {H : Heap} {R : Value → Heap → Prop} {X : List PanicEntry → Heap → Prop}

theorem lkA_cells {l : Link} {x : Value} : (lkA l x).cells = #[.int .i64 l.stamp, x, .bool l.dead] := rfl
theorem zipWith_snoc {α β γ : Type} (f : α → β → γ) : ∀ (xs : List α) (ys : List β) (a : α) (b : β), ys.length = xs.length → List.zipWith f (xs ++ [a]) (ys ++ [b]) = List.zipWith f xs ys ++ [f a b]
  | [], [], a, b, _ => rfl
  | x :: xs, y :: ys, a, b, h => by simp [zipWith_snoc f xs ys a b (by simpa using h)]
  | [], y :: ys, _, _, h => by simp at h
  | x :: xs, [], _, _, h => by simp at h

theorem c272 {C : Nat} {v : Value} {ls : List Link} {vs : List Value} (h : ChRep H C v ls vs) (hl : ls.length ≤ 1099511627776) {l : Link} {x : Value} (hx : Bs H x l.val) (hxs : ∀ b, ob x b → b ≠ C ∧ ¬ ob v b ∧ b < H.size)
    (h0 : 0 ≤ l.stamp) (hlast : ∀ (j : Nat) (hj : j < ls.length), j + 1 = ls.length → ls[j].stamp < l.stamp)
    (hR : ∀ w H', Keep (chM C v) H H' → (∀ b, ob w b → ob v b ∨ H.size ≤ b) → ChRep H' C w (ls ++ [l]) (vs ++ [x]) → R (.int .i64 0) H') : Runs Tryz.prog 272 [.pointer (some ⟨C, 0, none⟩), lkA l x] H R X := by
  refine l272 ?_
  unfold i272
  simp only [Nw_iff, lkA_cells]
  generalize hH1 : H.push (.cells #[.int .i64 l.stamp, x, .bool l.dead] 194 (0, 0)) = H1
  have hb1 : H1[H.size]? = some (.cells #[.int .i64 l.stamp, x, .bool l.dead] 194 (0, 0)) := by rw [← hH1]; exact get_push_eq
  have k1 : Keep no H H1 := by rw [← hH1]; exact .push
  have h1 := h.keep k1 fun _ _ h => h
  simp only [ptrEq_nil_r, Option.isNone_some, Option.map_some, Gt_some, If_false]
  have hlt0 : decide (l.stamp < 0) = false := by simp; omega
  have hone := hx.one.2
  -- what follows the look at the newest
  have rest : ∀ (lk : Value) (t : Bool) (H2 : Heap) (s : Int) (u : Value) (d : Bool), lk = .agg #[.int .i64 s, u, .bool d] → u.oneCell' = true → (t && decide (l.stamp ≤ s)) = false → Keep no H1 H2 →
      Gt (exV 0 (.tuple #[lk, .bool t])) fun x12 =>
      Gt (exV 1 (.tuple #[lk, .bool t])) fun x13 =>
      Gt (stV 3 (.pointer (some ⟨H2.size, 0, none⟩)) x12 (H2.push (.cells z194.cells 194 (0, 0)))) fun H4 =>
      Gt (rdc H4 H.size 0) fun x15 =>
      Gt (binI .lss x15 (.int .i64 0)) fun x16 =>
      Gt (ifO x16 (ifO undef ((rdc H4 H.size 0).bind fun x21 => (rdc H4 H2.size 0).bind fun x23 => (binI .leq x21 x23).bind fun x24 => (some (.bool true))) ((some (.bool true))))
        (ifO x13 ((rdc H4 H.size 0).bind fun x21 => (rdc H4 H2.size 0).bind fun x23 => (binI .leq x21 x23).bind fun x24 => (some x24)) ((some (.bool false))))) fun x26 =>
      If x26
      (R (.int .i64 130) H4)
      (Gt (rdc H4 C 0) fun x31 =>
      Gt (rda 3 (.pointer (some ⟨H.size, 0, none⟩)) H4) fun x32 =>
      Gt (bsV 3 1 z194 [(0, x32)]) fun c33 =>
      Ap 194 3 40 z194 x31 (.slice (some ⟨H4.size, 0, none⟩) 1 1) (H4.push (.cells c33.toArray 194 (0, 0))) (fun x34 H6 =>
      Gt (stV 1 (.pointer (some ⟨C, 0, none⟩)) x34 H6) fun H7 =>
      R (.int .i64 0) H7)) := by
    intro lk t H2 s u d hlk hu hcmp k2
    subst hlk
    have e2 : stV 3 (.pointer (some ⟨H2.size, 0, none⟩)) (.agg #[.int .i64 s, u, .bool d]) (H2.push (.cells z194.cells 194 (0, 0))) = some ((H2.push (.cells z194.cells 194 (0, 0))).setIfInBounds H2.size (.cells #[.int .i64 s, u, .bool d] 194 (0, 0))) := by
      rw [stV_of get_push_eq (by rfl) (by decide) (by decide) (by simp only [Value.cells, List.all_cons, List.all_nil, hu]; rfl)]; rfl
    generalize hH4 : (H2.push (.cells z194.cells 194 (0, 0))).setIfInBounds H2.size (.cells #[.int .i64 s, u, .bool d] 194 (0, 0)) = H4 at e2
    have hb4 : H4[H2.size]? = some (.cells #[.int .i64 s, u, .bool d] 194 (0, 0)) := by rw [← hH4]; exact get_set_eq (by simp)
    have k4 : Keep no H2 H4 := by
      rw [← hH4]
      exact ⟨by simp, fun b hb _ => (get_set_ne (by omega)).trans (get_push_lt hb)⟩
    have k04 := (k1.trans k2).trans k4
    have hb3 : H4[H.size]? = some (.cells #[.int .i64 l.stamp, x, .bool l.dead] 194 (0, 0)) := (k2.trans k4).at hb1 fun h => h
    have h4 := h.keep k04 fun _ _ h => h
    have e5 : rda 3 (.pointer (some ⟨H.size, 0, none⟩)) H4 = some (lkA l x) := by
      rw [rda_ptr, rdn_at hb3 3 0 (by simp)]; rfl
    have e6 : bsV 3 1 z194 [(0, lkA l x)] = some (lkC l x) := by simp [bsV, filL, putL, lkA, lkC, Value.cells, z194]
    have e7 : ifO (.bool t) ((some (Value.int .i64 l.stamp)).bind fun x21 => (some (Value.int .i64 s)).bind fun x23 => (binI .leq x21 x23).bind fun x24 => (some x24)) (some (.bool false)) = some (.bool false) := by
      simp only [Option.bind_some, binI_leq, ifO_and, hcmp]
    have r0 : rdc H4 H.size 0 = some (.int .i64 l.stamp) := by rw [rdc_of hb3]; rfl
    have r1 : rdc H4 H2.size 0 = some (.int .i64 s) := by rw [rdc_of hb4]; rfl
    have r2 : rdc H4 C 0 = some v := by rw [rdc_of h4.blk]; rfl
    have x0 : exV 0 (.tuple #[.agg #[.int .i64 s, u, .bool d], .bool t]) = some (.agg #[.int .i64 s, u, .bool d]) := rfl
    have x1 : exV 1 (.tuple #[.agg #[.int .i64 s, u, .bool d], .bool t]) = some (.bool t) := rfl
    simp only [x0, x1, Gt_some, e2, r0, r1, binI_lss, hlt0, ifO_false, e7, If_false, r2, e5, e6]
    generalize hH5 : H4.push (.cells (lkC l x).toArray 194 (0, 0)) = H5
    have hb5 : H5[H4.size]? = some (.cells (lkC l x).toArray 194 (0, 0)) := by rw [← hH5]; exact get_push_eq
    have k5 : Keep no H4 H5 := by rw [← hH5]; exact .push
    have h5 := h4.keep k5 fun _ _ h => h
    have k05 := k04.trans k5
    have hsrc : srcC 3 (.slice (some ⟨H4.size, 0, none⟩) 1 1) H5 = some (1, lkC l x) := by
      simp only [srcC, rdn_at hb5 (1 * 3) 0 (by simp [lkC])]
      rfl
    refine ap_own (n := ls.length) (m := 1) h5.own hsrc rfl (by simp only [lkC, List.all_cons, List.all_nil, hone]; rfl) rfl (by omega) fun w H6 k6 f6 o6 => ?_
    have hCl : C < H.size := lt_of_get h.blk
    have hC6 : H6[C]? = some (.cells #[v] 236 (0, 0)) := k6.at h5.blk h5.ne
    have hwC : ¬ ob w C := fun hb => by
      rcases f6 C hb with h1 | h1
      · exact h.ne h1
      · have := k05.size; omega
    have hwo : w.cells = #[w] ∧ w.oneCell' = true := by
      cases o6 <;> exact ⟨rfl, rfl⟩
    have e8 := stV1 (o := 0) (v := w) hC6 (by simp) hwo.1 hwo.2
    simp only [e8, Gt_some]
    have kC : Keep (fun b => b = C) H6 (H6.setIfInBounds C (.cells ((#[v] : Array Value).setIfInBounds 0 w) 236 (0, 0))) := .set rfl
    have k06 : Keep (ob v) H H6 := (k05.mono (M' := ob v) fun _ _ h => h.elim).trans k6
    have k07 : Keep (chM C v) H (H6.setIfInBounds C (.cells ((#[v] : Array Value).setIfInBounds 0 w) 236 (0, 0))) := (k06.mono fun _ _ h => .inr h).trans (kC.mono fun _ _ h => .inl h)
    have fw : ∀ b, ob w b → ob v b ∨ H.size ≤ b := fun b hb => (f6 b hb).imp id fun h => Nat.le_trans k05.size h
    refine hR w _ k07 fw ⟨get_set_eq (lt_of_get hC6), by simp [h.len], ?_, fun j hj => ?_, hwC, fun u hu b hb => ?_⟩
    · have := o6.keep kC fun b hb hbC => hwC (hbC ▸ hb)
      rw [zipWith_snoc lkC ls vs l x h.len, List.flatten_append]
      simpa using this
    · by_cases hjl : j < ls.length
      · have hv := (h.vals j hjl).keep k07 fun b hb hm => by
          obtain ⟨h1, h2, _⟩ := h.sep _ (List.getElem_mem _) b hb
          rcases hm with hm | hm
          · exact h1 hm
          · exact h2 hm
        have hjv : j < vs.length := by rw [h.len]; exact hjl
        simpa [List.getElem_append_left hjl, List.getElem_append_left hjv] using hv
      · have hje : j = ls.length := by simp at hj; omega
        subst hje
        have hv := hx.keep k07 fun b hb hm => by
          obtain ⟨h1, h2, _⟩ := hxs b hb
          rcases hm with hm | hm
          · exact h1 hm
          · exact h2 hm
        have e : (vs ++ [x])[ls.length]'(by simp [h.len]) = x := by simp [← h.len]
        rw [e]
        simpa using hv
    · have key : b ≠ C ∧ ¬ ob v b ∧ b < H.size := by
        rcases List.mem_append.1 hu with hu | hu
        · exact h.sep u hu b hb
        · have : u = x := by simpa using hu
          subst this; exact hxs b hb
      refine ⟨key.1, fun hwb => ?_, k07.lt key.2.2⟩
      rcases fw b hwb with h1 | h1
      · exact key.2.1 h1
      · omega
  refine ⟨c299 h1 hl (fun hz H2 k2 => ?_) fun j hj hj1 H2 k2 => ?_⟩
  · have := rest zlk false H2 0 (.slice none 0 0) false rfl rfl rfl k2
    simpa only [faV_ptr, rdv_ptr, ncV_ptr, Gt_some, Nw_iff, Option.bind_some, Nat.zero_add] using this
  · have hv := h1.vals j hj
    have hcmp : (true && decide (l.stamp ≤ ls[j].stamp)) = false := by
      have := hlast j hj hj1
      simp; omega
    have := rest (lkA ls[j] (vs[j]'(by rw [h.len]; exact hj))) true H2 ls[j].stamp (vs[j]'(by rw [h.len]; exact hj)) ls[j].dead rfl hv.one.2 hcmp k2
    simpa only [faV_ptr, rdv_ptr, ncV_ptr, Gt_some, Nw_iff, Option.bind_some, Nat.zero_add] using this
end Go.Proofs.YtdoimhpmnmmffaaGreat

/- Contracts of wal: a group is written and made safe. No condition but those in each statement. -/
namespace Go.Proofs.YtdoimhpmnmmffaaGreat
open Go IntWalk
variable {H : Heap} {R : Value → Heap → Prop} {X : List PanicEntry → Heap → Prop}

def GrI (H : Heap) (n : Nat) (y : Value) (H1 : Heap) : Prop := ∃ k : Nat, k ≤ n ∧ y = .int .i64 k ∧ Keep no H H1
theorem c51' {L D P i : Nat} (hL : H[L]? = some (lgO D i)) {ps : List Part} {armed : Bool} (h : DkRep H D P ps armed) (hi : i < ps.length) {p : Part} (hp : ps[i] = p) (hdn : 0 ≤ p.done ∧ p.done < 4611686018427387904) {a : Area} {v : Value}
    (ha : ArRep H p.area a v) (hD : ¬ arM p.area v D) (hP : ¬ arM p.area v P)
    (hR : down armed p = false → ∀ H', Keep (wM p.area P v) H H' → ArRep H' p.area ⟨a.base, a.bytes, a.bytes.length⟩ v → DkRep H' D P (ps.set i p.one) armed → R (.int .i64 0) H')
    (hE : down armed p = true → R (.int .i64 80) H) : Runs Tryz.prog 51 [.pointer (some ⟨L, 0, none⟩)] H R X := by
  subst hp; exact c51 hL h hi hdn ha hD hP hR hE

/-- how far a group gets: entries written, made safe or not -/
theorem c224 {L D P i : Nat} (hL : H[L]? = some (lgO D i)) {ps : List Part} {armed : Bool} (h : DkRep H D P ps armed) (hi : i < ps.length) {p : Part} (hp : ps[i] = p) {a : Area} {v x : Value} {es : List Ent} {vs : List Value}
    (ha : ArRep H p.area a v) (hD : ¬ arM p.area v D) (hP : ¬ arM p.area v P) (hLM : ¬ wM p.area P v L) (hx : EnSl H x es vs) (hxm : ∀ b, enM x vs b → ¬ wM p.area P v b) (hok : ∀ e ∈ es, okE e = true)
    (hel : es.length ≤ 1099511627776) (hfit : a.bytes.length + es.length * 6000 ≤ 140737488355328) (hdn : 0 ≤ p.done ∧ p.done + es.length < 4611686018427387903)
    (hR : (armed = true → p.done + es.length < p.fdone) → ∀ w H', Keep (wM p.area P v) H H' → (∀ b, ob w b → ob v b ∨ H.size ≤ b) → ArRep H' p.area ⟨a.base, a.bytes ++ framesL es, (a.bytes ++ framesL es).length⟩ w → DkRep H' D P (ps.set i (p.add (es.length + 1))) armed → R (.int .i64 0) H')
    (hE : ∀ k, k ≤ es.length → armed = true → p.fdone ≤ p.done + k → (k = 0 ∨ p.done + k ≤ p.fdone) → ∀ w H', Keep (wM p.area P v) H H' → (∀ b, ob w b → ob v b ∨ H.size ≤ b) → ArRep H' p.area ⟨a.base, a.bytes ++ framesL (es.take k), a.safe⟩ w → DkRep H' D P (ps.set i (p.add k)) armed → R (.int .i64 80) H') :
    Runs Tryz.prog 224 [.pointer (some ⟨L, 0, none⟩), x] H R X := by
  refine l224 ?_
  unfold i224
  simp only [ptrEq_nil_r, Option.isNone_some, Option.map_some, Gt_some, If_false, hx.ln]
  refine ⟨fun (y : Value) (H1 : Heap) => GrI H es.length y H1, fun (y : Value) (_ : Heap) => decr es.length y, ⟨0, by omega, rfl, .refl H⟩, ?_⟩
  rintro H1 y ⟨k, hk, rfl, k1⟩
  have hx1 := hx.keep k1 fun _ _ h => h
  simp only [binI_lss, Gt_some, If_iff, decide_eq_true_eq, decide_eq_false_iff_not]
  refine ⟨fun hlt => ?_, fun hge => ?_⟩
  · have hlt : k < es.length := by omega
    obtain ⟨q, hq1, hq2⟩ := hx1.at hlt
    have hv1 := hx1.vals k hlt
    generalize hvk : vs[k]'(by rw [hx.len]; exact hlt) = vk at hq2 hv1
    have hz : z182.cells.size = 6 := rfl
    have hc : (entV es[k] vk).cells = #[.int .i64 es[k].kind, .int .i64 es[k].stamp, .int .i64 es[k].count, .string es[k].key, vk, .bool es[k].dead] := rfl
    have hone := hv1.one.2
    have e1 : stV 6 (.pointer (some ⟨H1.size, 0, none⟩)) (entV es[k] vk) (H1.push (.cells z182.cells 182 (0, 0))) = some ((H1.push (.cells z182.cells 182 (0, 0))).setIfInBounds H1.size (.cells (entV es[k] vk).cells 182 (0, 0))) := by
      rw [stV_of get_push_eq (by rw [hc]; rfl) (by decide) (by rw [hz]; decide) (by rw [hc]; simp only [List.all_cons, List.all_nil, hone]; rfl)]
      congr 3
    simp only [hq1, hq2, Gt_some, Nw_iff]
    generalize hH2 : (H1.push (.cells z182.cells 182 (0, 0))).setIfInBounds H1.size (.cells (entV es[k] vk).cells 182 (0, 0)) = H2 at e1
    have k2 : Keep no H1 H2 := by
      rw [← hH2]
      exact ⟨by simp, fun b hb _ => (get_set_ne (by omega)).trans (get_push_lt hb)⟩
    have hb2 : H2[H1.size]? = some (.cells (entV es[k] vk).cells 182 (0, 0)) := by rw [← hH2]; exact get_set_eq (by simp)
    have e2 : rda 6 (.pointer (some ⟨H1.size, 0, none⟩)) H2 = some (entV es[k] vk) := by
      rw [rda_ptr, rdn_at hb2 6 0 (by rw [hc]; simp)]; rfl
    simp only [e1, e2, Gt_some]
    refine ⟨c141 (hv1.keep k2 fun _ _ h => h) fun H3 k3 => ?_⟩
    have hokk := hok es[k] (List.getElem_mem _)
    have e6 : IntKind.i64.wrap ((k : Int) + 1) = ((k + 1 : Nat) : Int) := by rw [i64_in _ (by omega)]; rfl
    simp only [hokk, if_true, binI_neq, bne_self_eq_false, Gt_some, If_false, binI_add, e6]
    exact ⟨⟨k + 1, by omega, rfl, (k1.trans k2).trans k3⟩, decr_lt hlt⟩
  · have hL1 := k1.at hL fun h => h
    refine ⟨c49 hL1 (h.keep k1 (fun h => h) (fun h => h)) hi hp (ha.keep k1 fun _ _ h => h) hD hP hLM hx1 hxm hok hel hfit ⟨hdn.1, by omega⟩ (fun harm w H2 k2 f2 a2 d2 => ?_) fun j hj ha' hd' hj' w H2 k2 f2 a2 d2 => ?_⟩
    · simp only [binI_neq, bne_self_eq_false, Gt_some, If_false]
      have k02 : Keep (wM p.area P v) H H2 := (k1.mono fun _ _ h => h.elim).trans k2
      have f02 : ∀ b, ob w b → ob v b ∨ H.size ≤ b := fun b hb => (f2 b hb).imp id fun h => Nat.le_trans k1.size h
      have hw : ∀ b, arM p.area w b → arM p.area v b ∨ H.size ≤ b := by
        rintro b (hb | hb)
        · exact .inl (.inl hb)
        · exact (f02 b hb).imp .inr id
      have hDl := (dk_ne h).1
      have hPl := (dk_ne h).2
      have hD1 : ¬ arM p.area w D := fun hb => by rcases hw D hb with h1 | h1; exact hD h1; omega
      have hP1 : ¬ arM p.area w P := fun hb => by rcases hw P hb with h1 | h1; exact hP h1; omega
      have hii : i < (ps.set i (p.add es.length)).length := by simpa using hi
      have hpk : (ps.set i (p.add es.length))[i] = p.add es.length := by simp
      refine ⟨c51' (p := p.add es.length) (k02.at hL hLM) d2 hii hpk ⟨by simp only [Part.add]; omega, by simp only [Part.add]; omega⟩ a2 hD1 hP1 (fun hdw H3 k3 a3 d3 => ?_) fun hdw => ?_⟩
      · refine hR (fun harmed => ?_) w H3 (k02.trans' k3 ?_) f02 a3 ?_
        · simp only [down, Part.add, harmed, Bool.true_and] at hdw
          have := of_decide_eq_false hdw
          omega
        · intro b hb
          rcases hb with hb | hb
          · exact (hw b hb).imp .inl id
          · exact .inl (.inr hb)
        · rw [Part.add_one] at d3; simpa using d3
      · have harmed : armed = true := by cases armed with | true => rfl | false => simp [down] at hdw
        have hdw' : p.fdone ≤ p.done + es.length := by
          simp only [down, Part.add, harmed, Bool.true_and] at hdw
          exact of_decide_eq_true hdw
        refine hE es.length (Nat.le_refl _) harmed hdw' ?_ w H2 k02 f02 (by rw [List.take_length]; exact a2) d2
        rcases harm harmed with h1 | h1
        · exact .inl h1
        · exact .inr h1
    · simp only [binI_neq, Gt_some]
      have : ((80 : Int) != 0) = true := by decide
      simp only [this, If_true]
      exact hE j (by omega) ha' hd' hj' w H2 ((k1.mono fun _ _ h => h.elim).trans k2) (fun b hb => (f2 b hb).imp id fun h => Nat.le_trans k1.size h) a2 d2
end Go.Proofs.YtdoimhpmnmmffaaGreat

/- Maps whose keys are texts: looking up, laying in. No condition but those in each statement. -/
namespace Go.Proofs.YtdoimhpmnmmffaaGreat
open Go IntWalk
variable {H : Heap} {R : Value → Heap → Prop} {X : List PanicEntry → Heap → Prop}

theorem same_str (a b : ByteArray) : Instr.sameNow .string (.string a) (.string b) = some (decide (a = b)) := by
  simp only [Instr.sameNow]
  congr 1
  rw [Bool.eq_iff_iff]
  simp only [decide_eq_true_eq]
  show ByteArray.beq a b = true ↔ a = b
  unfold ByteArray.beq
  rw [beq_iff_eq]
  exact ⟨fun h => ByteArray.ext h, fun h => by rw [h]⟩

/-- entries with these keys and values -/
def MpE (es : List MapEntry) (kvs : List (ByteArray × Value)) : Prop := es.map (fun e => (e.key, e.val)) = kvs.map fun p => (.string p.1, p.2)
theorem find_str : ∀ (es : List MapEntry) (kvs : List (ByteArray × Value)) (i : Nat) (k : ByteArray), MpE es kvs →
    (Instr.findNow .string (.string k) es i = some none ∧ ∀ p ∈ kvs, p.1 ≠ k) ∨ ∃ (j : Nat) (h : j < kvs.length), kvs[j].1 = k ∧ Instr.findNow .string (.string k) es i = some (some (i + j, kvs[j].2))
  | [], [], i, k, _ => .inl ⟨rfl, fun _ h => by cases h⟩
  | [], _ :: _, _, _, h => by simp [MpE] at h
  | _ :: _, [], _, _, h => by simp [MpE] at h
  | e :: es, p :: kvs, i, k, h => by
    simp only [MpE, List.map_cons, List.cons.injEq, Prod.mk.injEq] at h
    obtain ⟨⟨h1, h2⟩, h3⟩ := h
    simp only [Instr.findNow, h1, same_str]
    by_cases hk : k = p.1
    · simp only [hk, decide_true]
      exact .inr ⟨0, by simp, rfl, by simp [h2]⟩
    · simp only [hk, decide_false]
      rcases find_str es kvs (i + 1) k h3 with ⟨h4, h5⟩ | ⟨j, hj, h4, h5⟩
      · refine .inl ⟨h4, fun q hq => ?_⟩
        rcases List.mem_cons.1 hq with rfl | hq
        · exact fun e => hk e.symm
        · exact h5 q hq
      · refine .inr ⟨j + 1, by simp; omega, by simpa using h4, ?_⟩
        rw [h5]; simp; omega

/-- a map at block M -/
structure MpRep (H : Heap) (M : Nat) (kvs : List (ByteArray × Value)) : Prop where
  blk : ∃ es clock, H[M]? = some (.map es clock) ∧ MpE es.toList kvs ∧ (∀ e ∈ es.toList, e.born < clock) ∧ (es.toList.map (·.born)).Nodup
theorem MpRep.keep {N : Nat → Prop} {H H' : Heap} {M : Nat} {kvs : List (ByteArray × Value)} (h : MpRep H M kvs) (k : Keep N H H') (hm : ¬ N M) : MpRep H' M kvs := by
  obtain ⟨es, c, h1, h2⟩ := h.blk
  exact ⟨es, c, k.at h1 hm, h2⟩
theorem MpRep.lt {H : Heap} {M : Nat} {kvs : List (ByteArray × Value)} (h : MpRep H M kvs) : M < H.size := by
  obtain ⟨es, c, h1, h2⟩ := h.blk
  exact lt_of_get h1
theorem MpRep.new {H : Heap} : MpRep (H.push (.map #[] 0)) H.size [] := ⟨#[], 0, get_push_eq, rfl, (fun _ h => by simp at h), by simp⟩

/-- m[k] -/
theorem MpRep.get {H : Heap} {M : Nat} {kvs : List (ByteArray × Value)} (h : MpRep H M kvs) (z : Value) (k : ByteArray) :
    ((∀ p ∈ kvs, p.1 ≠ k) ∧ lkV .string z false (.map (some M)) (.string k) H = some z ∧ lkV .string z true (.map (some M)) (.string k) H = some (.tuple #[z, .bool false])) ∨
    ∃ (j : Nat) (hj : j < kvs.length), kvs[j].1 = k ∧ lkV .string z false (.map (some M)) (.string k) H = some kvs[j].2 ∧ lkV .string z true (.map (some M)) (.string k) H = some (.tuple #[kvs[j].2, .bool true]) := by
  obtain ⟨es, c, h1, h2, _⟩ := h.blk
  rcases find_str es.toList kvs 0 k h2 with ⟨h4, h5⟩ | ⟨j, hj, h4, h5⟩
  · exact .inl ⟨h5, by simp only [lkV, h1, h4]; rfl, by simp only [lkV, h1, h4]; rfl⟩
  · exact .inr ⟨j, hj, h4, by simp only [lkV, h1, h5]; rfl, by simp only [lkV, h1, h5]; rfl⟩

/-- m[k] = v, of a key that is not there, or is there with the very same text -/
theorem MpRep.put {H : Heap} {M : Nat} {kvs : List (ByteArray × Value)} (h : MpRep H M kvs) (k : ByteArray) (v : Value) :
    ((∀ p ∈ kvs, p.1 ≠ k) ∧ ∃ H', muV .string (.map (some M)) (.string k) v H = some H' ∧ Keep (fun b => b = M) H H' ∧ H'.size = H.size ∧ MpRep H' M (kvs ++ [(k, v)])) ∨
    ∃ (j : Nat) (hj : j < kvs.length), kvs[j].1 = k ∧ ∃ H', muV .string (.map (some M)) (.string k) v H = some H' ∧ Keep (fun b => b = M) H H' ∧ H'.size = H.size ∧ MpRep H' M (kvs.set j (k, v)) := by
  obtain ⟨es, c, h1, h2, h3, h3'⟩ := h.blk
  have hlt := lt_of_get h1
  rcases find_str es.toList kvs 0 k h2 with ⟨h4, h5⟩ | ⟨j, hj, h4, h5⟩
  · refine .inl ⟨h5, _, by simp only [muV, h1, h4]; rfl, .set rfl, by simp, ⟨_, _, get_set_eq hlt, ?_, ?_, ?_⟩⟩
    · unfold MpE at h2 ⊢; simp [h2]
    · intro e he
      simp only [Array.toList_push, List.mem_append, List.mem_singleton] at he
      rcases he with he | rfl
      · exact Nat.lt_succ_of_lt (h3 e he)
      · exact Nat.lt_succ_self _
    · simp only [Array.toList_push, List.map_append, List.map_cons, List.map_nil]
      rw [List.nodup_append]
      refine ⟨h3', by simp, fun x hx y hy => ?_⟩
      simp only [List.mem_singleton] at hy
      subst hy
      simp only [List.mem_map] at hx
      obtain ⟨e, he, rfl⟩ := hx
      exact Nat.ne_of_lt (h3 e he)
  · rw [Nat.zero_add] at h5
    have hlen : es.toList.length = kvs.length := by have := congrArg List.length h2; simpa using this
    have hje : j < es.toList.length := by omega
    have hat : (es.toList[j]'hje).key = .string k := by
      have := congrArg (fun l => l[j]?) h2
      simp only [List.getElem?_map, List.getElem?_eq_getElem hje, List.getElem?_eq_getElem hj, Option.map_some, Option.some.injEq, Prod.mk.injEq] at this
      rw [this.1, h4]
    have hjs : j < es.size := by simpa using hje
    have hsb : Instr.sameBits 10000 (((es[j]?).map (·.key)).getD (.string k)) (.string k) = true := by
      have : es[j]? = some (es.toList[j]'hje) := by simp [hjs]
      rw [this]
      simp only [Option.map_some, Option.getD_some, hat, Instr.sameBits]
      show ByteArray.beq k k = true
      simp [ByteArray.beq]
    refine .inr ⟨j, hj, h4, H.setIfInBounds M (.map (es.modify j fun e => { e with key := .string k, val := v }) c), by simp only [muV, h1, h5, hsb, if_true], .set rfl, by simp, ⟨_, _, get_set_eq hlt, ?_, ?_, ?_⟩⟩
    · unfold MpE at h2 ⊢
      apply List.ext_getElem?
      intro i
      have hi := congrArg (fun l => l[i]?) h2
      simp only [List.getElem?_map] at hi ⊢
      rw [Array.toList_modify, List.getElem?_modify, List.getElem?_set]
      by_cases hij : j = i
      · subst hij
        simp [hjs, hj]
      · simp [hij]
        simpa using hi
    · intro e he
      rw [Array.toList_modify] at he
      obtain ⟨i, hi, rfl⟩ := List.getElem_of_mem he
      rw [List.getElem_modify]
      have hi' : i < es.toList.length := by simpa using hi
      have := h3 _ (List.getElem_mem hi')
      split
      · exact this
      · exact this
    · have : (es.modify j fun e => { e with key := .string k, val := v }).toList.map (·.born) = es.toList.map (·.born) := by
        rw [Array.toList_modify]
        apply List.ext_getElem?
        intro i
        simp only [List.getElem?_map, List.getElem?_modify]
        by_cases hij : j = i
        · subst hij; simp [hjs]
        · simp [hij]
      rw [this]; exact h3'
end Go.Proofs.YtdoimhpmnmmffaaGreat

/- Contracts of the package store: chains by key. No condition but those in each statement. -/
namespace Go.Proofs.YtdoimhpmnmmffaaGreat
open Go IntWalk
variable {H : Heap} {R : Value → Heap → Prop} {X : List PanicEntry → Heap → Prop}

structure Chn where
  key : ByteArray
  C : Nat
  v : Value
  ls : List Link
  vs : List Value
def Chn.F (c : Chn) (b : Nat) : Prop := chF c.C c.v c.vs b
def Chn.p (c : Chn) : ByteArray × Value := (c.key, .pointer (some ⟨c.C, 0, none⟩))
/-- a store at block S, its map at M -/
structure StRep (H : Heap) (S M : Nat) (cs : List Chn) (live : Int) : Prop where
  blk : H[S]? = some (.cells #[.map (some M), .int .i64 live] 167 (0, 0))
  map : MpRep H M (cs.map Chn.p)
  ch : ∀ c ∈ cs, ChRep H c.C c.v c.ls c.vs
  keys : (cs.map (·.key)).Nodup
  apart : cs.Pairwise fun c d => ∀ b, c.F b → ¬ d.F b
  own : ∀ c ∈ cs, ∀ b, c.F b → b ≠ S ∧ b ≠ M ∧ b < H.size
  ne : S ≠ M
def stF (S M : Nat) (cs : List Chn) (b : Nat) : Prop := b = S ∨ b = M ∨ ∃ c ∈ cs, c.F b
theorem StRep.keep {N : Nat → Prop} {H H' : Heap} {S M : Nat} {cs : List Chn} {live : Int} (h : StRep H S M cs live) (k : Keep N H H') (hm : ∀ b, stF S M cs b → ¬ N b) : StRep H' S M cs live :=
  ⟨k.at h.blk (hm S (.inl rfl)), h.map.keep k (hm M (.inr (.inl rfl))), fun c hc => (h.ch c hc).keep k fun b hb => hm b (.inr (.inr ⟨c, hc, hb⟩)), h.keys, h.apart, fun c hc b hb => ⟨(h.own c hc b hb).1, (h.own c hc b hb).2.1, k.lt (h.own c hc b hb).2.2⟩, h.ne⟩
theorem StRep.lt {H : Heap} {S M : Nat} {cs : List Chn} {live : Int} (h : StRep H S M cs live) : ∀ b, stF S M cs b → b < H.size := by
  rintro b (rfl | rfl | ⟨c, hc, hb⟩)
  · exact lt_of_get h.blk
  · exact h.map.lt
  · exact (h.own c hc b hb).2.2

theorem c93 {S M : Nat} {cs : List Chn} {live : Int} (h : StRep H S M cs live) {k : ByteArray} (hN : (∀ c ∈ cs, c.key ≠ k) → R (.pointer none) H)
    (hR : ∀ c ∈ cs, c.key = k → R (.pointer (some ⟨c.C, 0, none⟩)) H) : Runs Tryz.prog 93 [.pointer (some ⟨S, 0, none⟩), .string k] H R X := by
  refine l93 ?_
  simp only [i93, ptrEq_nil_r, Option.isNone_some, Option.map_some, Gt_some, If_false, ncV_ptr, faV_ptr, rdv_ptr, rdc_of h.blk, Nat.zero_add]
  have e0 : (#[.map (some M), .int .i64 live] : Array Value)[0]? = some (.map (some M)) := rfl
  rw [e0]
  simp only [Gt_some]
  rcases h.map.get z168 k with ⟨h1, h2, _⟩ | ⟨j, hj, h1, h2, _⟩
  · rw [h2]
    simp only [Gt_some]
    exact hN fun c hc => h1 c.p (List.mem_map.2 ⟨c, hc, rfl⟩)
  · rw [h2]
    simp only [Gt_some]
    have hj' : j < cs.length := by simpa using hj
    have := hR cs[j] (List.getElem_mem hj')
    simp only [List.getElem_map, Chn.p] at h1 ⊢
    exact this h1
end Go.Proofs.YtdoimhpmnmmffaaGreat

/- Contracts of the package store: what may be laid in; weights. No condition but those in each statement. -/
namespace Go.Proofs.YtdoimhpmnmmffaaGreat
open Go IntWalk
variable {H : Heap} {R : Value → Heap → Prop} {X : List PanicEntry → Heap → Prop}

def verV (k : ByteArray) (stamp : Int) (v : Value) (dead : Bool) : Value := .agg #[.string k, .int .i64 stamp, v, .bool dead]
theorem c270 {k : ByteArray} {stamp : Int} {v : Value} {bs : List UInt8} {dead : Bool} (hv : Bs H v bs) (hk : 1 ≤ k.size ∧ k.size ≤ 255) (hb : bs.length ≤ 4096) (hd : dead = true → bs.length = 0) (hs : 0 ≤ stamp ∧ stamp ≤ 4611686018427387904)
    (hR : ∀ H', Keep no H H' → R (.int .i64 0) H') : Runs Tryz.prog 270 [verV k stamp v dead] H R X := by
  refine l270 ?_
  unfold i270
  have hc : (verV k stamp v dead).cells = #[.string k, .int .i64 stamp, v, .bool dead] := rfl
  simp only [Nw_iff, hc]
  generalize hH : H.push (.cells #[.string k, .int .i64 stamp, v, .bool dead] 190 (0, 0)) = H1
  have hb1 : H1[H.size]? = some (.cells #[.string k, .int .i64 stamp, v, .bool dead] 190 (0, 0)) := by rw [← hH]; exact get_push_eq
  have k1 : Keep no H H1 := by rw [← hH]; exact .push
  have r0 : rdc H1 H.size 0 = some (.string k) := by rw [rdc_of hb1]; rfl
  have r1 : rdc H1 H.size 1 = some (.int .i64 stamp) := by rw [rdc_of hb1]; rfl
  have r2 : rdc H1 H.size 2 = some v := by rw [rdc_of hb1]; rfl
  have r3 : rdc H1 H.size 3 = some (.bool dead) := by rw [rdc_of hb1]; rfl
  have e1 : decide ((k.size : Int) < 1) = false := by simp; omega
  have e2 : decide ((k.size : Int) > 255) = false := by simp; omega
  have e3 : decide ((bs.length : Int) > 4096) = false := by simp; omega
  have e4 : (dead && decide ((bs.length : Int) > 0)) = false := by
    cases dead with
    | false => rfl
    | true => rw [hd rfl]; rfl
  have e5 : decide (stamp < 0) = false := by simp; omega
  have e6 : decide (stamp > 4611686018427387904) = false := by simp; omega
  simp only [faV_ptr, rdv_ptr, Nat.zero_add, Gt_some, Option.bind_some, r0, r1, r2, r3, lsV_str, hv.len, binI_lss, binI_gtr, e1, e2, e3, e5, e6, ifO_or, ifO_and, ifO_false, e4, Bool.or_false, Bool.false_and, If_false]
  exact hR H1 k1

theorem c271n {S M : Nat} {cs : List Chn} {live : Int} (h : StRep H S M cs live) {k : ByteArray} (hN : ∀ c ∈ cs, c.key ≠ k) (hR : ∀ H', Keep no H H' → R (.int .i64 0) H') : Runs Tryz.prog 271 [.pointer (some ⟨S, 0, none⟩), .string k] H R X := by
  refine l271 ⟨c93 h (fun _ => ?_) (fun c hc he => absurd he (hN c hc))⟩
  refine ⟨c299n fun H2 k2 => ?_⟩
  have x0 : exV 0 (.tuple #[zlk, .bool false]) = some zlk := rfl
  have x1 : exV 1 (.tuple #[zlk, .bool false]) = some (.bool false) := rfl
  have e2 : stV 3 (.pointer (some ⟨H2.size, 0, none⟩)) zlk (H2.push (.cells z194.cells 194 (0, 0))) = some ((H2.push (.cells z194.cells 194 (0, 0))).setIfInBounds H2.size (.cells #[.int .i64 0, .slice none 0 0, .bool false] 194 (0, 0))) := by
    rw [stV_of get_push_eq (by rfl) (by decide) (by decide) (by rfl)]; rfl
  generalize hH4 : (H2.push (.cells z194.cells 194 (0, 0))).setIfInBounds H2.size (.cells #[.int .i64 0, .slice none 0 0, .bool false] 194 (0, 0)) = H4 at e2
  have hb4 : H4[H2.size]? = some (.cells #[.int .i64 0, .slice none 0 0, .bool false] 194 (0, 0)) := by rw [← hH4]; exact get_set_eq (by simp)
  have k4 : Keep no H2 H4 := by
    rw [← hH4]
    exact ⟨by simp, fun b hb _ => (get_set_ne (by omega)).trans (get_push_lt hb)⟩
  have r2 : rdc H4 H2.size 2 = some (.bool false) := by rw [rdc_of hb4]; rfl
  simp only [x0, x1, Gt_some, Nw_iff, e2, unV_not, faV_ptr, rdv_ptr, Nat.zero_add, Option.bind_some, r2, ifO_or, Bool.not_false, Bool.true_or, If_true]
  exact hR H4 (k2.trans k4)
/-- how heavy a chain is -/
def wgt (k : ByteArray) (ls : List Link) : Int := match ls.getLast? with
  | some l => if l.dead then 0 else k.size + l.val.length
  | none => 0
theorem c271 {S M : Nat} {cs : List Chn} {live : Int} (h : StRep H S M cs live) {c : Chn} (hc : c ∈ cs) (hl : c.ls.length ≤ 1099511627776) (hw : ∀ l ∈ c.ls, l.val.length ≤ 4096) (hk : c.key.size ≤ 255) (hR : ∀ H', Keep no H H' → R (.int .i64 (wgt c.key c.ls)) H') : Runs Tryz.prog 271 [.pointer (some ⟨S, 0, none⟩), .string c.key] H R X := by
  have huniq : ∀ d ∈ cs, d.key = c.key → d = c := by
    intro d hd he
    obtain ⟨i, hi, rfl⟩ := List.getElem_of_mem hd
    obtain ⟨j, hj, rfl⟩ := List.getElem_of_mem hc
    have key := List.pairwise_iff_getElem.1 h.keys
    by_cases hij : i = j
    · subst hij; rfl
    · rcases Nat.lt_or_gt_of_ne hij with h1 | h1
      · exact absurd (by rw [List.getElem_map, List.getElem_map]; exact he) (key i j (by simpa using hi) (by simpa using hj) h1)
      · exact absurd (by rw [List.getElem_map, List.getElem_map]; exact he.symm) (key j i (by simpa using hj) (by simpa using hi) h1)
  refine l271 ⟨c93 h (fun hN => absurd rfl (hN c hc)) fun d hd he => ?_⟩
  have := huniq d hd he
  subst this
  have tail : ∀ (lk : Value) (t : Bool) (H2 : Heap) (s : Int) (u : Value) (dd : Bool) (n : Int), lk = .agg #[.int .i64 s, u, .bool dd] → u.oneCell' = true → (t = true → dd = false → lnV u = some (.int .i64 n) ∧ 0 ≤ n ∧ n ≤ 4096) → Keep no H H2 → (if !t || dd then 0 else (d.key.size : Int) + n) = wgt d.key d.ls →
      Gt (exV 0 (.tuple #[lk, .bool t])) fun x12 =>
      Gt (exV 1 (.tuple #[lk, .bool t])) fun x13 =>
      Nw (.cells z194.cells 194 (0, 0)) H2 fun b5 H3 =>
      Gt (stV 3 (.pointer (some ⟨b5, 0, none⟩)) x12 H3) fun H4 =>
      Gt (unV .not x13) fun x15 =>
      Gt (ifO x15 ((some (.bool true))) ((faV 2 (.pointer (some ⟨b5, 0, none⟩))).bind fun x17 =>
      (rdv x17 H4).bind fun x18 =>
      (some x18))) fun x19 =>
      If x19
      (R (.int .i64 0) H4)
      (Gt (lsV (.string d.key)) fun x21 =>
      Gt (faV 1 (.pointer (some ⟨b5, 0, none⟩))) fun x22 =>
      Gt (rdv x22 H4) fun x23 =>
      Gt (lnV x23) fun x24 =>
      Gt (binI .add x21 x24) fun x25 =>
      R x25 H4) := by
    intro lk t H2 s u dd n hlk hu hn k2 hwgt
    subst hlk
    have e2 : stV 3 (.pointer (some ⟨H2.size, 0, none⟩)) (.agg #[.int .i64 s, u, .bool dd]) (H2.push (.cells z194.cells 194 (0, 0))) = some ((H2.push (.cells z194.cells 194 (0, 0))).setIfInBounds H2.size (.cells #[.int .i64 s, u, .bool dd] 194 (0, 0))) := by
      rw [stV_of get_push_eq (by rfl) (by decide) (by decide) (by simp only [Value.cells, List.all_cons, List.all_nil, hu]; rfl)]; rfl
    generalize hH4 : (H2.push (.cells z194.cells 194 (0, 0))).setIfInBounds H2.size (.cells #[.int .i64 s, u, .bool dd] 194 (0, 0)) = H4 at e2
    have hb4 : H4[H2.size]? = some (.cells #[.int .i64 s, u, .bool dd] 194 (0, 0)) := by rw [← hH4]; exact get_set_eq (by simp)
    have k4 : Keep no H2 H4 := by
      rw [← hH4]
      exact ⟨by simp, fun b hb _ => (get_set_ne (by omega)).trans (get_push_lt hb)⟩
    have r1 : rdc H4 H2.size 1 = some u := by rw [rdc_of hb4]; rfl
    have r2 : rdc H4 H2.size 2 = some (.bool dd) := by rw [rdc_of hb4]; rfl
    have x0 : exV 0 (.tuple #[.agg #[.int .i64 s, u, .bool dd], .bool t]) = some (.agg #[.int .i64 s, u, .bool dd]) := rfl
    have x1 : exV 1 (.tuple #[.agg #[.int .i64 s, u, .bool dd], .bool t]) = some (.bool t) := rfl
    simp only [x0, x1, Gt_some, Nw_iff, e2, unV_not, faV_ptr, rdv_ptr, Nat.zero_add, Option.bind_some, r1, r2, ifO_or, lsV_str]
    have hR := hR H4 (k2.trans k4)
    rw [← hwgt] at hR
    cases ht : (!t || dd) with
    | true => rw [ht] at hR; simp only [If_true]; simpa using hR
    | false =>
      rw [ht] at hR
      simp only [Bool.or_eq_false_iff, Bool.not_eq_false'] at ht
      obtain ⟨hn1, hn2, hn3⟩ := hn ht.1 ht.2
      simp only [If_false, hn1, Gt_some, binI_add, i64_in ((d.key.size : Int) + n) (by omega)]
      simpa using hR
  refine ⟨c299 (h.ch d hd) hl (fun hz H2 k2 => ?_) fun j hj hj1 H2 k2 => ?_⟩
  · have hnil : d.ls = [] := List.eq_nil_of_length_eq_zero hz
    exact tail zlk false H2 0 (.slice none 0 0) false 0 rfl rfl (fun h => by cases h) k2 (by simp [wgt, hnil])
  · have hv := (h.ch d hd).vals j hj
    refine tail (lkA d.ls[j] _) true H2 d.ls[j].stamp _ d.ls[j].dead d.ls[j].val.length rfl hv.one.2 (fun _ _ => ⟨hv.len, by omega, by have := hw _ (List.getElem_mem hj); omega⟩) k2 ?_
    have : d.ls.getLast? = some d.ls[j] := by
      rw [List.getLast?_eq_getElem?, show d.ls.length - 1 = j by omega, List.getElem?_eq_getElem hj]
    simp [wgt, this]
end Go.Proofs.YtdoimhpmnmmffaaGreat

/- Contracts of the package entry: entries of writes. No condition but those in each statement. -/
namespace Go.Proofs.YtdoimhpmnmmffaaGreat
open Go IntWalk
variable {H : Heap} {R : Value → Heap → Prop} {X : List PanicEntry → Heap → Prop}

theorem c269 {k : ByteArray} {stamp : Int} {v : Value} {bs : List UInt8} {dead : Bool} (hv : Bs H v bs) (hb : bs.length ≤ 4096)
    (hD : dead = true → ∀ H', Keep no H H' → R (entV ⟨2, 0, 0, k, [], false⟩ (.slice none 0 0)) H')
    (hR : dead = false → ∀ w H', New H H' w bs → R (entV ⟨1, 0, 0, k, bs, false⟩ w) H') : Runs Tryz.prog 269 [verV k stamp v dead] H R X := by
  refine l269 ?_
  unfold i269
  have hc : (verV k stamp v dead).cells = #[.string k, .int .i64 stamp, v, .bool dead] := rfl
  have hz : z182.cells = #[.int .i64 0, .int .i64 0, .int .i64 0, .string ⟨#[]⟩, .slice none 0 0, .bool false] := rfl
  simp only [Nw_iff, hc]
  generalize hH1 : H.push (.cells #[.string k, .int .i64 stamp, v, .bool dead] 190 (0, 0)) = H1
  have hb1 : H1[H.size]? = some (.cells #[.string k, .int .i64 stamp, v, .bool dead] 190 (0, 0)) := by rw [← hH1]; exact get_push_eq
  have k1 : Keep no H H1 := by rw [← hH1]; exact .push
  generalize hH2 : H1.push (.cells z182.cells 182 (0, 0)) = H2
  have hb2 : H2[H1.size]? = some (.cells z182.cells 182 (0, 0)) := by rw [← hH2]; exact get_push_eq
  have k2 : Keep no H1 H2 := by rw [← hH2]; exact .push
  have k02 := k1.trans k2
  have r : ∀ {H'}, Keep no H2 H' → rdc H' H.size 0 = some (.string k) ∧ rdc H' H.size 2 = some v ∧ rdc H' H.size 3 = some (.bool dead) := fun kk => by
    have := (k2.trans kk).at hb1 fun h => h
    exact ⟨by rw [rdc_of this]; rfl, by rw [rdc_of this]; rfl, by rw [rdc_of this]; rfl⟩
  obtain ⟨r0, r2, r3⟩ := r (.refl H2)
  -- the answer is laid into the block of the result
  have put : ∀ (e : Ent) (w : Value) (H' : Heap), Keep no H2 H' → w.oneCell' = true → ∃ H3, stV 6 (.pointer (some ⟨H1.size, 0, none⟩)) (entV e w) H' = some H3 ∧ rda 6 (.pointer (some ⟨H1.size, 0, none⟩)) H3 = some (entV e w) ∧ Keep no H H3 ∧ Keep (fun b => b = H1.size) H' H3 := by
    intro e w H' kk hw
    have hb' := kk.at hb2 fun h => h
    have hce : (entV e w).cells = #[.int .i64 e.kind, .int .i64 e.stamp, .int .i64 e.count, .string e.key, w, .bool e.dead] := rfl
    refine ⟨H'.setIfInBounds H1.size (.cells (entV e w).cells 182 (0, 0)), ?_, ?_, ?_, .set rfl⟩
    · rw [stV_of hb' (by rw [hce]; rfl) (by decide) (by rw [hz]; decide) (by rw [hce]; simp only [List.all_cons, List.all_nil, hw]; rfl)]
      congr 3
    · have := get_set_eq (o := .cells (entV e w).cells 182 (0, 0)) (lt_of_get hb')
      rw [rda_ptr, rdn_at this 6 0 (by rw [hce]; simp)]; rfl
    · have ks := (k02.trans kk).size
      exact ⟨by simpa using ks, fun b hb hm => (get_set_ne (by have := k1.size; omega)).trans ((k02.trans kk).get b hb hm)⟩
  simp only [faV_ptr, rdv_ptr, Nat.zero_add, Gt_some, r0, r2, r3]
  cases hdd : dead with
  | true =>
    have e1 : bdV z182 [(0, 1), (1, 1), (2, 1), (3, 1), (4, 1), (5, 1)] [(0, .int .i64 2), (3, .string k)] = some (entV ⟨2, 0, 0, k, [], false⟩ (.slice none 0 0)) := rfl
    obtain ⟨H3, p1, p2, p3, _⟩ := put ⟨2, 0, 0, k, [], false⟩ (.slice none 0 0) H2 (.refl _) rfl
    simp only [If_true, e1, Gt_some, p1, p2]
    exact hD hdd H3 p3
  | false =>
    simp only [If_false]
    refine ⟨c155 (hv.rd.keep k02 fun _ _ h => h) (by omega) fun w H4 k4 f4 o4 => ?_⟩
    obtain ⟨q0, _, _⟩ := r k4
    have hwo := o4.one
    have e1 : bdV z182 [(0, 1), (1, 1), (2, 1), (3, 1), (4, 1), (5, 1)] [(0, .int .i64 1), (3, .string k), (4, w)] = some (entV ⟨1, 0, 0, k, bs, false⟩ w) := by
      obtain ⟨a, c, hw⟩ := o4.bs.sl
      rw [hw]; rfl
    obtain ⟨H3, p1, p2, p3, p4⟩ := put ⟨1, 0, 0, k, bs, false⟩ w H4 k4 hwo.2
    simp only [q0, Sm_some, e1, Gt_some, p1, p2]
    refine hR hdd w H3 ⟨p3, fun b hb => Nat.le_trans k02.size (f4 b hb), o4.keep p4 fun b hb hbe => ?_⟩
    have := f4 b hb
    have := lt_of_get hb2
    omega
end Go.Proofs.YtdoimhpmnmmffaaGreat

/- Appending one element to an owned slice; contracts of the package label: Leq. No condition but those in each statement. -/
namespace Go.Proofs.YtdoimhpmnmmffaaGreat
open Go IntWalk
variable {H : Heap} {R : Value → Heap → Prop} {X : List PanicEntry → Heap → Prop}

theorem ap_elem {z size bytes : Nat} {zero s : Value} {n : Nat} {cells c : List Value} {K : Value → Heap → Prop} (hs : Own z size H s n cells) (hc : c.length = size) (hone : c.all Value.oneCell' = true)
    (hz : zero.cells.size = size) (hfit : (n + 1) * bytes ≤ 140737488355328)
    (hK : ∀ v H', Keep (ob s) H H' → (∀ b, ob v b → ob s b ∨ H.size ≤ b) → Own z size H' v (n + 1) (cells ++ c) → K v H') :
    Ap z size bytes zero s (.slice (some ⟨H.size, 0, none⟩) 1 1) (H.push (.cells c.toArray z (0, 0))) K := by
  have hb : (H.push (.cells c.toArray z (0, 0)))[H.size]? = some (.cells c.toArray z (0, 0)) := get_push_eq
  have hsrc : srcC size (.slice (some ⟨H.size, 0, none⟩) 1 1) (H.push (.cells c.toArray z (0, 0))) = some (1, c) := by
    simp only [srcC, rdn_at hb (1 * size) 0 (by simp [hc])]
    simp [← hc]
  refine ap_own (n := n) (m := 1) (hs.keep (M := no) .push fun _ _ h => h) hsrc (by simp [hc]) hone hz hfit fun v H' k f o => hK v H' ?_ (fun b hb => ?_) o
  · exact ⟨Nat.le_trans (by simp) k.size, fun b hb hm => (k.get b (by simp; omega) hm).trans (get_push_lt hb)⟩
  · rcases f b hb with h | h
    · exact .inl h
    · exact .inr (by simp at h; omega)

/-- is a label at or below another one? -/
def leqL (a b : Nat) : Bool := (BitVec.ofNat 64 a &&& ~~~ (BitVec.ofNat 64 b)).toNat == 0
theorem c168 {a b : Nat} (hR : R (.bool (leqL a b)) H) : Runs Tryz.prog 168 [.int .u64 a, .int .u64 b] H R X := by
  refine l168 ?_
  have e : binI .andNot (.int .u64 a) (.int .u64 b) = some (.int .u64 ((BitVec.ofNat 64 a &&& ~~~ (BitVec.ofNat 64 b)).toNat : Nat)) := by
    simp only [binI, intV, bitV, if_true]
    have : (BitVec.ofInt IntKind.u64.bits (a : Int) &&& ~~~ BitVec.ofInt IntKind.u64.bits (b : Int)) = (BitVec.ofNat 64 a &&& ~~~ BitVec.ofNat 64 b) := by
      rw [BitVec.ofInt_natCast, BitVec.ofInt_natCast]; rfl
    rw [this, u64_in]
    · rfl
    · exact ⟨Int.natCast_nonneg _, Int.ofNat_le.2 (Nat.le_of_lt_succ (BitVec.ofNat 64 a &&& ~~~ BitVec.ofNat 64 b).isLt)⟩
  unfold i168
  simp only [e, Gt_some, binI_eql]
  have : (((BitVec.ofNat 64 a &&& ~~~ (BitVec.ofNat 64 b)).toNat : Int) == 0) = leqL a b := by
    unfold leqL
    rw [Bool.eq_iff_iff]; simp only [beq_iff_eq]; omega
  rw [this]; exact hR
end Go.Proofs.YtdoimhpmnmmffaaGreat

/- Contracts of the package label: the places at or below a label. No condition but those in each statement. -/
namespace Go.Proofs.YtdoimhpmnmmffaaGreat
open Go IntWalk
variable {H : Heap} {R : Value → Heap → Prop} {X : List PanicEntry → Heap → Prop}

def iv (n : Int) : Value := .int .i64 n
/-- a list of labels that is read -/
def LbSl (H : Heap) (x : Value) (ls : List Nat) : Prop := SlC H x 1 (ls.map fun (l : Nat) => [Value.int .u64 (l : Int)])
theorem SlC.at1 {H : Heap} {x : Value} {css : List (List Value)} (h : SlC H x 1 css) {j : Nat} (hj : j < css.length) {v : Value} (hv : css[j] = [v]) : ∃ p, iaV 1 x (.int .i64 j) = some p ∧ rdv p H = some v := by
  obtain ⟨b, o, h1, _, h3⟩ := h.els j hj
  refine ⟨_, h1, ?_⟩
  rw [hv] at h3
  simp only [rdn] at h3
  rw [rdv_ptr]
  split at h3
  · rename_i u us hu _
    cases h3; exact hu
  · cases h3
/-- the places, from a place on, of the labels at or below l -/
def downL (l : Nat) : List Nat → Nat → List Int
  | [], _ => []
  | x :: xs, i => if leqL x l then (i : Int) :: downL l xs (i + 1) else downL l xs (i + 1)
def DnI (H : Heap) (l : Nat) (ls : List Nat) (s y : Value) (H1 : Heap) : Prop :=
  ∃ (k : Nat) (ds : List Int), k ≤ ls.length ∧ y = .int .i64 k ∧ ds ++ downL l (ls.drop k) k = downL l ls 0 ∧ ds.length ≤ k ∧ Keep no H H1 ∧ (∀ b, ob s b → H.size ≤ b) ∧ Own 3 1 H1 s ds.length (ds.map iv)

theorem c103 {x : Value} {ls : List Nat} {l : Nat} (hx : LbSl H x ls) (hl : ls.length ≤ 1048576)
    (hR : ∀ w H', Keep no H H' → (∀ b, ob w b → H.size ≤ b) → Own 3 1 H' w (downL l ls 0).length ((downL l ls 0).map iv) → R w H') : Runs Tryz.prog 103 [x, .int .u64 l] H R X := by
  refine l103 ?_
  unfold i103
  have hc : (Value.int .u64 (l : Int)).cells = #[.int .u64 l] := rfl
  simp only [Nw_iff, hc]
  generalize hH1 : H.push (.cells #[.int .u64 l] 155 (0, 0)) = H0
  have hb0 : H0[H.size]? = some (.cells #[.int .u64 l] 155 (0, 0)) := by rw [← hH1]; exact get_push_eq
  have k0 : Keep no H H0 := by rw [← hH1]; exact .push
  have hx0 : LbSl H0 x ls := SlC.keep hx k0 fun _ _ h => h
  have hlen : (ls.map fun (l : Nat) => [Value.int .u64 (l : Int)]).length = ls.length := by simp
  refine ⟨l166 ?_⟩
  unfold i166
  have hln := hx0.len
  rw [hlen] at hln
  simp only [hln, Gt_some]
  refine ⟨fun (s y : Value) (H1 : Heap) => DnI H0 l ls s y H1, fun (_ y : Value) (_ : Heap) => decr ls.length y, ⟨0, [], by omega, rfl, by simp, by simp, .refl _, fun b hb => (ob_nil hb).elim, .nil⟩, ?_⟩
  rintro H1 s y ⟨k, ds, hk, rfl, hd, hdl, k1, f1, o1⟩
  simp only [binI_lss, Gt_some, If_iff, decide_eq_true_eq, decide_eq_false_iff_not]
  refine ⟨fun hlt => ?_, fun hge => ?_⟩
  · have hlt : k < ls.length := by omega
    have hx1 : LbSl H1 x ls := SlC.keep hx0 k1 fun _ _ h => h
    obtain ⟨p, hp1, hp2⟩ := SlC.at1 hx1 (j := k) (by rw [hlen]; exact hlt) (v := .int .u64 (ls[k] : Nat)) (by simp)
    have hb1 := k1.at hb0 fun h => h
    simp only [hp1, hp2, Gt_some]
    refine ⟨⟨rfl, l167 ?_⟩⟩
    have r0 : rdc H1 H.size 0 = some (.int .u64 l) := by rw [rdc_of hb1]; rfl
    simp only [i167, rdv_ptr, r0, Gt_some]
    refine ⟨c168 ?_⟩
    have e6 : IntKind.i64.wrap ((k : Int) + 1) = ((k + 1 : Nat) : Int) := by rw [i64_in _ (by omega)]; rfl
    have hdr : ls.drop k = ls[k] :: ls.drop (k + 1) := List.drop_eq_getElem_cons hlt
    rw [hdr] at hd
    cases hq : leqL ls[k] l with
    | true =>
      have e1 : bsV 1 1 z3 [(0, .int .i64 (k : Int))] = some [iv k] := bsV_one rfl rfl
      simp only [If_true, e1, Gt_some, Nw_iff]
      refine ap_elem o1 rfl (by rfl) rfl (by omega) fun w H2 k2 f2 o2 => ?_
      simp only [binI_add, e6, Gt_some]
      refine ⟨⟨k + 1, ds ++ [(k : Int)], by omega, rfl, ?_, by simp; omega, k1.trans' k2 fun b hb => .inr (f1 b hb), fun b hb => ?_, by simpa using o2⟩, decr_lt hlt⟩
      · rw [← hd]; simp [downL, hq]
      · rcases f2 b hb with h | h
        · exact f1 b h
        · exact Nat.le_trans k1.size h
    | false =>
      simp only [If_false, binI_add, e6, Gt_some]
      refine ⟨⟨k + 1, ds, by omega, rfl, ?_, by omega, k1, f1, o1⟩, decr_lt hlt⟩
      rw [← hd]; simp [downL, hq]
  · have : k = ls.length := by omega
    subst this
    simp only [List.drop_length, downL, List.append_nil] at hd
    subst hd
    exact hR s H1 (k0.trans k1) (fun b hb => Nat.le_trans k0.size (f1 b hb)) o1
end Go.Proofs.YtdoimhpmnmmffaaGreat

/- Contracts of slices.Index and slices.Contains of labels. No condition but those in each statement. -/
namespace Go.Proofs.YtdoimhpmnmmffaaGreat
open Go IntWalk
variable {H : Heap} {R : Value → Heap → Prop} {X : List PanicEntry → Heap → Prop}

def IxI (H : Heap) (ls : List Nat) (v : Nat) (y : Value) (H1 : Heap) : Prop := ∃ k : Nat, k ≤ ls.length ∧ y = .int .i64 k ∧ v ∉ ls.take k ∧ H1 = H
theorem LbSl.at {x : Value} {ls : List Nat} (h : LbSl H x ls) {j : Nat} (hj : j < ls.length) : ∃ p, iaV 1 x (.int .i64 j) = some p ∧ rdv p H = some (.int .u64 (ls[j] : Nat)) :=
  SlC.at1 h (by simpa using hj) (by simp)
theorem LbSl.len {x : Value} {ls : List Nat} (h : LbSl H x ls) : lnV x = some (.int .i64 ls.length) := by
  have := SlC.len h; simpa using this
theorem c235 {x : Value} {ls : List Nat} {v : Nat} (hx : LbSl H x ls) (hl : ls.length ≤ 1048576) (hR : ∀ r : Int, (0 ≤ r ↔ v ∈ ls) → R (.int .i64 r) H) : Runs Tryz.prog 235 [x, .int .u64 v] H R X := by
  refine l235 ?_
  unfold i235
  simp only [hx.len, Gt_some]
  refine ⟨fun (y : Value) (H1 : Heap) => IxI H ls v y H1, fun (y : Value) (_ : Heap) => decr ls.length y, ⟨0, by omega, rfl, by simp, rfl⟩, ?_⟩
  rintro H1 y ⟨k, hk, rfl, hn, rfl⟩
  simp only [binI_lss, Gt_some, If_iff, decide_eq_true_eq, decide_eq_false_iff_not]
  refine ⟨fun hlt => ?_, fun hge => ?_⟩
  · have hlt : k < ls.length := by omega
    obtain ⟨p, hp1, hp2⟩ := hx.at hlt
    have e6 : IntKind.i64.wrap ((k : Int) + 1) = ((k + 1 : Nat) : Int) := by rw [i64_in _ (by omega)]; rfl
    simp only [hp1, hp2, Gt_some, binI_eql]
    cases hq : ((v : Int) == ((ls[k] : Nat) : Int)) with
    | true =>
      simp only [If_true]
      have : v = ls[k] := by have := eq_of_beq hq; omega
      exact hR k ⟨fun _ => this ▸ List.getElem_mem hlt, fun _ => by omega⟩
    | false =>
      simp only [If_false, binI_add, e6, Gt_some]
      refine ⟨⟨k + 1, by omega, rfl, ?_, rfl⟩, decr_lt hlt⟩
      have hne : v ≠ ls[k] := fun e => by rw [← e] at hq; simp at hq
      rw [List.take_add_one, List.getElem?_eq_getElem hlt]
      rw [List.mem_append]
      rintro (h | h)
      · exact hn h
      · exact hne (by simpa using h)
  · have : k = ls.length := by omega
    subst this
    rw [List.take_length] at hn
    exact hR (-1) ⟨fun h => by omega, fun h => absurd h hn⟩
theorem c203 {x : Value} {ls : List Nat} {v : Nat} (hx : LbSl H x ls) (hl : ls.length ≤ 1048576) (hR : R (.bool (decide (v ∈ ls))) H) : Runs Tryz.prog 203 [x, .int .u64 v] H R X := by
  refine l203 ⟨c235 hx hl fun r hr => ?_⟩
  simp only [binI_geq, Gt_some]
  have : decide (r ≥ 0) = decide (v ∈ ls) := by rw [Bool.eq_iff_iff]; simp only [decide_eq_true_eq]; exact hr
  rw [this]; exact hR
end Go.Proofs.YtdoimhpmnmmffaaGreat

/- Contracts of slices.Clone. No condition but those in each statement. -/
namespace Go.Proofs.YtdoimhpmnmmffaaGreat
open Go IntWalk
variable {H : Heap} {R : Value → Heap → Prop} {X : List PanicEntry → Heap → Prop}

/-- a slice of n elements with these cells -/
structure Sc (H : Heap) (size : Nat) (x : Value) (n : Nat) (xs : List Value) : Prop where
  sl : ∃ a c, x = .slice a n c
  src : srcC size x H = some (n, xs)
  len : xs.length = n * size
  one : xs.all Value.oneCell' = true
theorem clone_ok {z size bytes : Nat} {zero x : Value} {n : Nat} {xs : List Value} (hx : Sc H size x n xs) (hz : zero.cells.size = size) (hsz : 0 < size) (hfit : n * bytes ≤ 140737488355328) (hbs : bsV size 0 zero [] = some [])
    (hR : ∀ w H', Keep no H H' → (∀ b, ob w b → H.size ≤ b) → Own z size H' w n xs → R w H') :
    Gt ((nilEq (.slice z) x (.slice none 0 0)).map Value.bool) fun x4 =>
     If x4 (R (.slice none 0 0) H)
     (Gt (bsV size 0 zero []) fun c5 =>
     Nw (.cells c5.toArray z (0, 0)) H fun b5_1 H1 =>
     Ap z size bytes zero (.slice (some ⟨b5_1, 0, none⟩) 0 0) x H1 (fun x7 H2 => R x7 H2)) := by
  obtain ⟨a, c, rfl⟩ := hx.sl
  cases a with
  | none =>
    have h1 := hx.src
    simp only [srcC, Option.some.injEq, Prod.mk.injEq, true_and] at h1
    have h2 := hx.len
    rw [← h1] at h2
    have hn : n = 0 := by
      rcases Nat.eq_zero_or_pos n with h | h
      · exact h
      · have := Nat.mul_pos h hsz; simp at h2; omega
    subst hn
    have e : nilEq (.slice z) (.slice none 0 c) (.slice none 0 0) = some true := rfl
    simp only [e, Option.map_some, Gt_some, If_true]
    exact hR _ H (.refl H) (fun b hb => (ob_nil hb).elim) (h1 ▸ .nil)
  | some ad =>
    have e : nilEq (.slice z) (.slice (some ad) n c) (.slice none 0 0) = some false := rfl
    simp only [e, Option.map_some, Gt_some, If_false, hbs, Nw_iff]
    have k1 : Keep no H (H.push (.cells ([] : List Value).toArray z (0, 0))) := .push
    have ho : Own z size (H.push (.cells ([] : List Value).toArray z (0, 0))) (.slice (some ⟨H.size, 0, none⟩) 0 0) 0 [] :=
      .blk _ _ _ _ _ get_push_eq (by simp) (by omega) (by simp) (by simp)
    refine ap_own (n := 0) (m := n) ho (srcC_keep hx.src k1 fun _ _ h => h) hx.len hx.one hz (by simpa using hfit) fun w H' k f o => hR w H' (k1.trans' k fun b hb => ?_) (fun b hb => ?_) (by simpa using o)
    · obtain ⟨_, _, _, he⟩ := hb; cases he; exact .inr (Nat.le_refl _)
    · rcases f b hb with h | h
      · obtain ⟨_, _, _, he⟩ := h; cases he; exact Nat.le_refl _
      · simp at h; omega
theorem c163 {x : Value} {n : Nat} {xs : List Value} (hx : Sc H 1 x n xs) (hfit : n ≤ 1099511627776) (hR : ∀ w H', Keep no H H' → (∀ b, ob w b → H.size ≤ b) → Own 155 1 H' w n xs → R w H') : Runs Tryz.prog 163 [x] H R X :=
  l163 (clone_ok (z := 155) (zero := z155) hx rfl (by decide) (by omega) (by simp [bsV, filL]) hR)
theorem c164 {x : Value} {n : Nat} {xs : List Value} (hx : Sc H 5 x n xs) (hfit : n ≤ 1099511627776) (hR : ∀ w H', Keep no H H' → (∀ b, ob w b → H.size ≤ b) → Own 104 5 H' w n xs → R w H') : Runs Tryz.prog 164 [x] H R X :=
  l164 (clone_ok (z := 104) (zero := z104) hx rfl (by decide) (by omega) (by simp [bsV, filL]) hR)
theorem c165 {x : Value} {n : Nat} {xs : List Value} (hx : Sc H 1 x n xs) (hfit : n ≤ 1099511627776) (hR : ∀ w H', Keep no H H' → (∀ b, ob w b → H.size ≤ b) → Own 3 1 H' w n xs → R w H') : Runs Tryz.prog 165 [x] H R X :=
  l165 (clone_ok (z := 3) (zero := z3) hx rfl (by decide) (by omega) (by simp [bsV, filL]) hR)
theorem c127 {x : Value} {n : Nat} {xs : List Value} (hx : Sc H 3 x n xs) (hfit : n ≤ 1099511627776) (hR : ∀ w H', Keep no H H' → (∀ b, ob w b → H.size ≤ b) → Own 194 3 H' w n xs → R w H') : Runs Tryz.prog 127 [x] H R X :=
  l127 (clone_ok (z := 194) (zero := z194) hx rfl (by decide) (by omega) (by simp [bsV, filL]) hR)
end Go.Proofs.YtdoimhpmnmmffaaGreat

/- Contracts: a new store, a new set of writes. No condition but those in each statement. -/
namespace Go.Proofs.YtdoimhpmnmmffaaGreat
open Go IntWalk
variable {H : Heap} {R : Value → Heap → Prop} {X : List PanicEntry → Heap → Prop}

theorem c209 (hR : ∀ S M H', Keep no H H' → H.size ≤ S → H.size ≤ M → StRep H' S M [] 0 → R (.pointer (some ⟨S, 0, none⟩)) H') : Runs Tryz.prog 209 [] H R X := by
  refine l209 ?_
  unfold i209
  have e : bdV z167 [(0, 1), (1, 1)] [(0, .map (some H.size))] = some (.agg #[.map (some H.size), .int .i64 0]) := rfl
  have hc : (Value.agg #[.map (some H.size), .int .i64 0]).cells = #[.map (some H.size), .int .i64 0] := rfl
  simp only [Nw_iff, e, Gt_some, hc]
  have hm : MpRep (H.push (.map #[] 0)) H.size [] := .new
  refine hR (H.push (.map #[] 0)).size H.size _ (Keep.push.trans .push) (by simp) (Nat.le_refl _) ⟨get_push_eq, hm.keep (N := no) .push fun h => h, fun c h => by (cases h), .nil, .nil, fun c h => by (cases h), ?_⟩
  simp
/-- a set of writes at block W, its map at M -/
structure WrRep (H : Heap) (W M : Nat) (kvs : List (ByteArray × Value)) (bytes : Int) : Prop where
  blk : H[W]? = some (.cells #[.map (some M), .int .i64 bytes] 322 (0, 0))
  map : MpRep H M kvs
  ne : W ≠ M
theorem c181 (hR : ∀ W M H', Keep no H H' → H.size ≤ W → H.size ≤ M → WrRep H' W M [] 0 → R (.pointer (some ⟨W, 0, none⟩)) H') : Runs Tryz.prog 181 [] H R X := by
  refine l181 ?_
  unfold i181
  have e : bdV z322 [(0, 1), (1, 1)] [(0, .map (some H.size))] = some (.agg #[.map (some H.size), .int .i64 0]) := rfl
  have hc : (Value.agg #[.map (some H.size), .int .i64 0]).cells = #[.map (some H.size), .int .i64 0] := rfl
  simp only [Nw_iff, e, Gt_some, hc]
  have hm : MpRep (H.push (.map #[] 0)) H.size [] := .new
  refine hR (H.push (.map #[] 0)).size H.size _ (Keep.push.trans .push) (by simp) (Nat.le_refl _) ⟨get_push_eq, hm.keep (N := no) .push fun h => h, ?_⟩
  simp
end Go.Proofs.YtdoimhpmnmmffaaGreat

/- Contracts of the package wset: a write is looked up. No condition but those in each statement. -/
namespace Go.Proofs.YtdoimhpmnmmffaaGreat
open Go IntWalk
variable {H : Heap} {R : Value → Heap → Prop} {X : List PanicEntry → Heap → Prop}

def wrV (v : Value) (dead : Bool) : Value := .agg #[v, .bool dead]
theorem lay2 {H : Heap} {b : Nat} {v : Value} {dead : Bool} {cs : Array Value} (hb : H[b]? = some (.cells cs 359 (0, 0))) (hcs : cs.size = 2) (hv : v.oneCell' = true) :
    ∃ H', stV 2 (.pointer (some ⟨b, 0, none⟩)) (wrV v dead) H = some H' ∧ rda 2 (.pointer (some ⟨b, 0, none⟩)) H' = some (wrV v dead) ∧ Keep (fun c => c = b) H H' ∧ H'[b]? = some (.cells (wrV v dead).cells 359 (0, 0)) := by
  have hc : (wrV v dead).cells = #[v, .bool dead] := rfl
  have hg := get_set_eq (o := .cells (wrV v dead).cells 359 (0, 0)) (lt_of_get hb)
  refine ⟨H.setIfInBounds b (.cells (wrV v dead).cells 359 (0, 0)), ?_, ?_, .set rfl, hg⟩
  · rw [stV_of hb (by rw [hc]; rfl) (by decide) (by omega) (by rw [hc]; simp only [List.all_cons, List.all_nil, hv]; rfl)]
    congr 3
    have : cs.toList.drop 2 = [] := List.drop_of_length_le (by simp [hcs])
    simp [putL, hc, this]
  · rw [rda_ptr, rdn_at hg 2 0 (by rw [hc]; simp)]; rfl

theorem c252 {W M : Nat} {kvs : List (ByteArray × Value)} {bytes : Int} (h : WrRep H W M kvs bytes) (hone : ∀ p ∈ kvs, ∃ v d, p.2 = wrV v d ∧ v.oneCell' = true) {k : ByteArray}
    (hN : (∀ p ∈ kvs, p.1 ≠ k) → ∀ H', Keep no H H' → R (.tuple #[wrV (.slice none 0 0) false, .bool false]) H')
    (hR : ∀ (j : Nat) (hj : j < kvs.length), kvs[j].1 = k → ∀ H', Keep no H H' → R (.tuple #[kvs[j].2, .bool true]) H') : Runs Tryz.prog 252 [.pointer (some ⟨W, 0, none⟩), .string k] H R X := by
  refine l252 ?_
  unfold i252
  simp only [Nw_iff, ptrEq_nil_r, Option.isNone_some, Option.map_some, Gt_some, If_false, ncV_ptr, faV_ptr, rdv_ptr, Nat.zero_add]
  generalize hH1 : H.push (.cells z359.cells 359 (0, 0)) = H1
  have hb1 : H1[H.size]? = some (.cells z359.cells 359 (0, 0)) := by rw [← hH1]; exact get_push_eq
  have k1 : Keep no H H1 := by rw [← hH1]; exact .push
  have r0 : rdc H1 W 0 = some (.map (some M)) := by rw [rdc_of (k1.at h.blk fun h => h)]; rfl
  have hm1 := h.map.keep k1 fun h => h
  simp only [r0, Gt_some]
  have fin : ∀ (v : Value) (d t : Bool), v.oneCell' = true → (∀ H', Keep no H H' → R (.tuple #[wrV v d, .bool t]) H') →
      Gt (exV 0 (.tuple #[wrV v d, .bool t])) fun x18 =>
      Gt (exV 1 (.tuple #[wrV v d, .bool t])) fun x19 =>
      Gt (stV 2 (.pointer (some ⟨H1.size, 0, none⟩)) x18 (H1.push (.cells z359.cells 359 (0, 0)))) fun H4 =>
      Gt (rda 2 (.pointer (some ⟨H1.size, 0, none⟩)) H4) fun x20 =>
      Gt (stV 2 (.pointer (some ⟨H.size, 0, none⟩)) x20 H4) fun H5 =>
      Gt (rda 2 (.pointer (some ⟨H.size, 0, none⟩)) H5) fun u2 =>
      R (.tuple #[u2, x19]) H5 := by
    intro v d t hv hr
    have x0 : exV 0 (.tuple #[wrV v d, .bool t]) = some (wrV v d) := rfl
    have x1 : exV 1 (.tuple #[wrV v d, .bool t]) = some (.bool t) := rfl
    obtain ⟨H4, p1, p2, p3, _⟩ := lay2 (H := H1.push (.cells z359.cells 359 (0, 0))) (v := v) (dead := d) get_push_eq rfl hv
    have hlt := lt_of_get hb1
    have hb4 : H4[H.size]? = some (.cells z359.cells 359 (0, 0)) := (p3.get _ (by simp; omega) (by omega)).trans ((get_push_lt hlt).trans hb1)
    obtain ⟨H5, q1, q2, q3, _⟩ := lay2 (v := v) (dead := d) hb4 rfl hv
    simp only [x0, x1, Gt_some, p1, p2, q1, q2]
    have s4 := p3.size
    simp only [Array.size_push] at s4
    refine hr H5 ⟨by have := q3.size; have := k1.size; omega, fun b hb _ => ?_⟩
    have hb' : b < H1.size := k1.lt hb
    exact (q3.get b (by omega) (by omega)).trans ((p3.get b (by simp; omega) (by omega)).trans ((get_push_lt hb').trans (k1.get b hb fun h => h)))
  rcases hm1.get z359 k with ⟨g1, _, g2⟩ | ⟨j, hj, g1, _, g2⟩
  · rw [g2]
    simp only [Gt_some]
    exact fin (.slice none 0 0) false false rfl (hN g1)
  · rw [g2]
    simp only [Gt_some]
    obtain ⟨v, d, e, hv⟩ := hone _ (List.getElem_mem hj)
    have := hR j hj g1
    rw [e] at this ⊢
    exact fin v d true hv this
end Go.Proofs.YtdoimhpmnmmffaaGreat

/- Contracts of the package wset: weights. No condition but those in each statement. -/
namespace Go.Proofs.YtdoimhpmnmmffaaGreat
open Go IntWalk
variable {H : Heap} {R : Value → Heap → Prop} {X : List PanicEntry → Heap → Prop}

theorem c261 {W M : Nat} {kvs : List (ByteArray × Value)} {bytes : Int} (h : WrRep H W M kvs bytes) (hone : ∀ p ∈ kvs, ∃ v d, p.2 = wrV v d ∧ v.oneCell' = true) {k : ByteArray} (hk : k.size ≤ 255)
    (hN : (∀ p ∈ kvs, p.1 ≠ k) → ∀ H', Keep no H H' → R (.int .i64 0) H')
    (hR : ∀ (j : Nat) (hj : j < kvs.length), kvs[j].1 = k → ∀ H', Keep no H H' → ∀ (v : Value) (d : Bool) (n : Nat), kvs[j].2 = wrV v d → lnV v = some (.int .i64 n) → n ≤ 4096 → R (.int .i64 (k.size + n)) H')
    (hlen : ∀ p ∈ kvs, ∀ v d, p.2 = wrV v d → ∃ n : Nat, lnV v = some (.int .i64 n) ∧ n ≤ 4096) : Runs Tryz.prog 261 [.pointer (some ⟨W, 0, none⟩), .string k] H R X := by
  have tail : ∀ (v : Value) (d t : Bool) (H1 : Heap) (n : Nat), v.oneCell' = true → (t = true → lnV v = some (.int .i64 n) ∧ n ≤ 4096) → Keep no H H1 → (∀ H', Keep no H H' → R (.int .i64 (if t then k.size + n else 0)) H') →
      Gt (exV 0 (.tuple #[wrV v d, .bool t])) fun x11 =>
      Gt (exV 1 (.tuple #[wrV v d, .bool t])) fun x12 =>
      Nw (.cells z359.cells 359 (0, 0)) H1 fun b5 H2 =>
      Gt (stV 2 (.pointer (some ⟨b5, 0, none⟩)) x11 H2) fun H3 =>
      Gt (unV .not x12) fun x14 =>
      If x14 (R (.int .i64 0) H3)
      (Gt (lsV (.string k)) fun x16 =>
      Gt (faV 0 (.pointer (some ⟨b5, 0, none⟩))) fun x17 =>
      Gt (rdv x17 H3) fun x18 =>
      Gt (lnV x18) fun x19 =>
      Gt (binI .add x16 x19) fun x20 => R x20 H3) := by
    intro v d t H1 n hv hn k1 hr
    have x0 : exV 0 (.tuple #[wrV v d, .bool t]) = some (wrV v d) := rfl
    have x1 : exV 1 (.tuple #[wrV v d, .bool t]) = some (.bool t) := rfl
    obtain ⟨H4, p1, p2, p3, p4⟩ := lay2 (H := H1.push (.cells z359.cells 359 (0, 0))) (v := v) (dead := d) get_push_eq rfl hv
    have s4 := p3.size
    simp only [Array.size_push] at s4
    have k4 : Keep no H H4 := ⟨by have := k1.size; omega, fun b hb hm => by
      have hb' : b < H1.size := k1.lt hb
      exact (p3.get b (by simp; omega) (by omega)).trans ((get_push_lt hb').trans (k1.get b hb hm))⟩
    have r0 : rdc H4 H1.size 0 = some v := by rw [rdc_of p4]; rfl
    have hr := hr H4 k4
    simp only [x0, x1, Gt_some, Nw_iff, p1, unV_not]
    cases t with
    | false => simp only [Bool.not_false, If_true]; exact hr
    | true =>
      obtain ⟨hn1, hn2⟩ := hn rfl
      simp only [Bool.not_true, If_false, lsV_str, faV_ptr, rdv_ptr, Nat.zero_add, r0, hn1, Gt_some, binI_add, i64_in ((k.size : Int) + (n : Int)) (by omega)]
      simpa using hr
  refine l261 ⟨c252 h hone (fun hn H1 k1 => ?_) fun j hj he H1 k1 => ?_⟩
  · exact tail (.slice none 0 0) false false H1 0 rfl (fun h => by cases h) k1 fun H' k' => hN hn H' k'
  · obtain ⟨v, d, e, hv⟩ := hone _ (List.getElem_mem hj)
    obtain ⟨n, hn1, hn2⟩ := hlen _ (List.getElem_mem hj) v d e
    rw [e]
    exact tail v d true H1 n hv (fun _ => ⟨hn1, hn2⟩) k1 fun H' k' => hR j hj he H' k' v d n e hn1 hn2
end Go.Proofs.YtdoimhpmnmmffaaGreat

/- Contracts of the package wset: a write is laid in. No condition but those in each statement. -/
namespace Go.Proofs.YtdoimhpmnmmffaaGreat
open Go IntWalk
variable {H : Heap} {R : Value → Heap → Prop} {X : List PanicEntry → Heap → Prop}

structure Wrt where
  key : ByteArray
  v : Value
  bs : List UInt8
  dead : Bool
def Wrt.p (w : Wrt) : ByteArray × Value := (w.key, wrV w.v w.dead)
def Wrt.n (w : Wrt) : Nat := w.key.size + w.bs.length
/-- a set of writes with its values, and how many bytes they are -/
structure WsRep (H : Heap) (W M : Nat) (ws : List Wrt) : Prop where
  wr : WrRep H W M (ws.map Wrt.p) ((ws.map Wrt.n).sum : Nat)
  vals : ∀ w ∈ ws, OB H w.v w.bs
  keys : (ws.map (·.key)).Nodup
  sep : ∀ w ∈ ws, ∀ b, ob w.v b → b ≠ W ∧ b ≠ M
  fit : ∀ w ∈ ws, (1 ≤ w.key.size ∧ w.key.size ≤ 255) ∧ w.bs.length ≤ 4096 ∧ (w.dead = true → w.bs.length = 0)
def wsF (W M : Nat) (ws : List Wrt) (b : Nat) : Prop := b = W ∨ b = M ∨ ∃ w ∈ ws, ob w.v b
theorem WsRep.keep {N : Nat → Prop} {H H' : Heap} {W M : Nat} {ws : List Wrt} (h : WsRep H W M ws) (k : Keep N H H') (hm : ∀ b, wsF W M ws b → ¬ N b) : WsRep H' W M ws :=
  ⟨⟨k.at h.wr.blk (hm W (.inl rfl)), h.wr.map.keep k (hm M (.inr (.inl rfl))), h.wr.ne⟩, fun w hw => (h.vals w hw).keep k fun b hb => hm b (.inr (.inr ⟨w, hw, hb⟩)), h.keys, h.sep, h.fit⟩
theorem WsRep.lt {H : Heap} {W M : Nat} {ws : List Wrt} (h : WsRep H W M ws) : ∀ b, wsF W M ws b → b < H.size := by
  rintro b (rfl | rfl | ⟨w, hw, hb⟩)
  · exact lt_of_get h.wr.blk
  · exact h.wr.map.lt
  · exact (h.vals w hw).lt hb
theorem WsRep.new {H : Heap} {W M : Nat} (h : WrRep H W M [] 0) : WsRep H W M [] := ⟨h, fun w h => by (cases h), .nil, fun w h => by (cases h), fun w h => by (cases h)⟩
def wtW : List Wrt → ByteArray → Nat
  | [], _ => 0
  | w :: ws, k => if w.key = k then w.n else wtW ws k
def layW : List Wrt → Wrt → List Wrt
  | [], w => [w]
  | x :: xs, w => if x.key = w.key then w :: xs else x :: layW xs w
theorem wtW_none : ∀ {ws : List Wrt} {k : ByteArray}, (∀ w ∈ ws, w.key ≠ k) → wtW ws k = 0
  | [], _, _ => rfl
  | w :: ws, k, h => by
    rw [wtW, if_neg (h w (List.mem_cons_self ..))]
    exact wtW_none fun x hx => h x (List.mem_cons_of_mem _ hx)
theorem layW_none : ∀ {ws : List Wrt} {w : Wrt}, (∀ x ∈ ws, x.key ≠ w.key) → layW ws w = ws ++ [w]
  | [], _, _ => rfl
  | x :: xs, w, h => by
    rw [layW, if_neg (h x (List.mem_cons_self ..)), layW_none fun y hy => h y (List.mem_cons_of_mem _ hy)]; rfl
theorem wtW_at : ∀ {ws : List Wrt} (j : Nat) (hj : j < ws.length), (ws.map (·.key)).Nodup → wtW ws ws[j].key = ws[j].n
  | w :: ws, 0, _, _ => by simp [wtW]
  | w :: ws, j + 1, hj, hn => by
    simp only [List.map_cons, List.nodup_cons] at hn
    have hj' : j < ws.length := by simpa using hj
    have : w.key ≠ ws[j].key := fun e => hn.1 (e ▸ List.mem_map.2 ⟨_, List.getElem_mem hj', rfl⟩)
    simp only [List.getElem_cons_succ, wtW, if_neg this]
    exact wtW_at j hj' hn.2
theorem layW_at : ∀ {ws : List Wrt} (j : Nat) (hj : j < ws.length) {w : Wrt}, ws[j].key = w.key → (ws.map (·.key)).Nodup → layW ws w = ws.set j w
  | x :: xs, 0, _, w, h, _ => by
    have h : x.key = w.key := h
    simp [layW, h]
  | x :: xs, j + 1, hj, w, h, hn => by
    simp only [List.map_cons, List.nodup_cons] at hn
    have hj' : j < xs.length := by simpa using hj
    simp only [List.getElem_cons_succ] at h
    have : x.key ≠ w.key := fun e => hn.1 (by rw [e, ← h]; exact List.mem_map.2 ⟨_, List.getElem_mem hj', rfl⟩)
    rw [layW, if_neg this, layW_at j hj' h hn.2]; rfl
theorem layW_sum : ∀ (ws : List Wrt) (w : Wrt), ((layW ws w).map Wrt.n).sum + wtW ws w.key = (ws.map Wrt.n).sum + w.n
  | [], w => by simp [layW, wtW]
  | x :: xs, w => by
    simp only [layW, wtW]
    split
    · simp; omega
    · have := layW_sum xs w
      simp only [List.map_cons, List.sum_cons]; omega
theorem layW_mem : ∀ {ws : List Wrt} {w x : Wrt}, x ∈ layW ws w → x = w ∨ x ∈ ws
  | [], w, x, h => by simpa [layW] using h
  | y :: ys, w, x, h => by
    simp only [layW] at h
    split at h
    · rcases List.mem_cons.1 h with h | h
      · exact .inl h
      · exact .inr (List.mem_cons_of_mem _ h)
    · rcases List.mem_cons.1 h with h | h
      · exact .inr (h ▸ List.mem_cons_self ..)
      · exact (layW_mem h).imp id fun h => List.mem_cons_of_mem _ h
theorem layW_keys : ∀ {ws : List Wrt} {w : Wrt}, (ws.map (·.key)).Nodup → ((layW ws w).map (·.key)).Nodup
  | [], w, _ => by simp [layW]
  | y :: ys, w, h => by
    simp only [List.map_cons, List.nodup_cons] at h
    simp only [layW]
    split
    · rename_i e
      simp only [List.map_cons, List.nodup_cons]
      exact ⟨e ▸ h.1, h.2⟩
    · rename_i e
      simp only [List.map_cons, List.nodup_cons]
      refine ⟨fun hm => ?_, layW_keys h.2⟩
      obtain ⟨x, hx, hxe⟩ := List.mem_map.1 hm
      rcases layW_mem hx with rfl | hx
      · exact e hxe.symm
      · exact h.1 (hxe ▸ List.mem_map.2 ⟨x, hx, rfl⟩)
theorem layW_wt : ∀ {ws : List Wrt} {w : Wrt}, wtW (layW ws w) w.key = w.n
  | [], w => by simp [layW, wtW]
  | y :: ys, w => by
    simp only [layW]
    split
    · simp [wtW]
    · rename_i e
      simp only [wtW, if_neg e]
      exact layW_wt
theorem layW_len : ∀ {ws : List Wrt} {w : Wrt}, (layW ws w).length ≤ ws.length + 1
  | [], w => by simp [layW]
  | y :: ys, w => by
    simp only [layW]
    split
    · simp
    · have := layW_len (ws := ys) (w := w)
      simp; omega
theorem sumW_le : ∀ {ws : List Wrt}, (∀ w ∈ ws, w.n ≤ 4351) → (ws.map Wrt.n).sum ≤ ws.length * 4351
  | [], _ => by simp
  | w :: ws, h => by
    have := sumW_le (ws := ws) fun x hx => h x (List.mem_cons_of_mem _ hx)
    have := h w (List.mem_cons_self ..)
    simp only [List.map_cons, List.sum_cons, List.length_cons]; omega
theorem WsRep.n_le {H : Heap} {W M : Nat} {ws : List Wrt} (h : WsRep H W M ws) : ∀ w ∈ ws, w.n ≤ 4351 := fun w hw => by
  have := h.fit w hw
  unfold Wrt.n; omega
theorem wtW_le : ∀ {ws : List Wrt} {k : ByteArray}, (∀ w ∈ ws, w.n ≤ 4351) → wtW ws k ≤ 4351
  | [], _, _ => by simp [wtW]
  | w :: ws, k, h => by
    simp only [wtW]
    split
    · exact h w (List.mem_cons_self ..)
    · exact wtW_le fun x hx => h x (List.mem_cons_of_mem _ hx)

/-- how heavy a key's write is, of what a map holds -/
theorem c261m {W M : Nat} {ws : List Wrt} {bytes : Int} (h : WrRep H W M (ws.map Wrt.p) bytes) (hv : ∀ w ∈ ws, OB H w.v w.bs) (hkeys : (ws.map (·.key)).Nodup) (hfit : ∀ w ∈ ws, w.bs.length ≤ 4096) {k : ByteArray} (hk : k.size ≤ 255)
    (hR : ∀ H', Keep no H H' → R (.int .i64 (wtW ws k : Nat)) H') : Runs Tryz.prog 261 [.pointer (some ⟨W, 0, none⟩), .string k] H R X := by
  have get : ∀ p ∈ ws.map Wrt.p, ∃ w ∈ ws, p = Wrt.p w := fun p hp => by
    obtain ⟨w, hw, rfl⟩ := List.mem_map.1 hp
    exact ⟨w, hw, rfl⟩
  refine c261 h (fun p hp => ?_) hk (fun hn H' k' => ?_) (fun j hj he H' k' v d n e hn hle => ?_) fun p hp v d e => ?_
  · obtain ⟨w, hw, rfl⟩ := get p hp
    exact ⟨w.v, w.dead, rfl, (hv w hw).one.2⟩
  · have : wtW ws k = 0 := wtW_none fun w hw => hn w.p (List.mem_map.2 ⟨w, hw, rfl⟩)
    have hh := hR H' k'
    rw [this] at hh
    exact hh
  · have hj' : j < ws.length := by simpa using hj
    have he' : ws[j].key = k := by simpa [Wrt.p] using he
    have hwt := wtW_at j hj' hkeys
    rw [he'] at hwt
    have hh := hR H' k'
    have e' : wrV ws[j].v ws[j].dead = wrV v d := by simpa [Wrt.p] using e
    simp only [wrV, Value.agg.injEq] at e'
    have e1 : ws[j].v = v := by
      have := congrArg (fun a : Array Value => a[0]?) e'
      simpa using this
    have hl := (hv ws[j] (List.getElem_mem hj')).bs.len
    rw [e1, hn] at hl
    have hn' : (n : Int) = ws[j].bs.length := by simpa using hl
    rw [hwt] at hh
    have : ((ws[j].n : Nat) : Int) = (k.size : Int) + n := by unfold Wrt.n; rw [he', hn']; simp
    rw [this] at hh
    exact hh
  · obtain ⟨w, hw, rfl⟩ := get p hp
    have e' : wrV w.v w.dead = wrV v d := e
    simp only [wrV, Value.agg.injEq] at e'
    have e1 : w.v = v := by
      have := congrArg (fun a : Array Value => a[0]?) e'
      simpa using this
    exact ⟨w.bs.length, e1 ▸ (hv w hw).bs.len, hfit w hw⟩

theorem c262 {W M : Nat} {ws : List Wrt} (h : WsRep H W M ws) (hlen : ws.length ≤ 1099511627776) {w : Wrt} (hw : OB H w.v w.bs) (hf : (1 ≤ w.key.size ∧ w.key.size ≤ 255) ∧ w.bs.length ≤ 4096 ∧ (w.dead = true → w.bs.length = 0)) (hs : ∀ b, ob w.v b → b ≠ W ∧ b ≠ M)
    (hR : ∀ H', Keep (fun b => b = W ∨ b = M) H H' → WsRep H' W M (layW ws w) → R (.int .i64 0) H') : Runs Tryz.prog 262 [.pointer (some ⟨W, 0, none⟩), .string w.key, wrV w.v w.dead] H R X := by
  refine l262 ?_
  unfold i262
  have hc : (wrV w.v w.dead).cells = #[w.v, .bool w.dead] := rfl
  simp only [Nw_iff, hc]
  generalize hH1 : H.push (.cells #[w.v, .bool w.dead] 359 (0, 0)) = H1
  have hb1 : H1[H.size]? = some (.cells #[w.v, .bool w.dead] 359 (0, 0)) := by rw [← hH1]; exact get_push_eq
  have k1 : Keep no H H1 := by rw [← hH1]; exact .push
  have h1 := h.keep k1 fun _ _ h => h
  have r0 : rdc H1 H.size 0 = some w.v := by rw [rdc_of hb1]; rfl
  have r1 : rdc H1 W 0 = some (.map (some M)) := by rw [rdc_of h1.wr.blk]; rfl
  have e1 : decide ((w.key.size : Int) < 1) = false := by simp; omega
  have e2 : decide ((w.key.size : Int) > 255) = false := by simp; omega
  have e3 : decide ((w.bs.length : Int) > 4096) = false := by simp; omega
  have e4 : nilEq (.map 9 359) (.map (some M)) (.map none) = some false := rfl
  simp only [ptrEq_nil_r, Option.isNone_some, Option.map_some, Gt_some, If_false, lsV_str, binI_lss, binI_gtr, Option.bind_some, e1, e2, ifO_or, Bool.or_false, faV_ptr, Nat.zero_add, rdv_ptr, r0, hw.bs.len, e3, ncV_ptr, r1, e4]
  refine Jo0 ?_
  simp only [If_false]
  have r2 : rdc H1 W 1 = some (.int .i64 ((ws.map Wrt.n).sum : Nat)) := by rw [rdc_of h1.wr.blk]; rfl
  simp only [r2, Gt_some]
  refine ⟨c261m h1.wr h1.vals h1.keys (fun x hx => (h1.fit x hx).2.1) hf.1.2 fun H2 k2 => ?_⟩
  have h2 := h1.keep k2 fun _ _ h => h
  have r3 : rdc H2 W 1 = some (.int .i64 ((ws.map Wrt.n).sum : Nat)) := by rw [rdc_of h2.wr.blk]; rfl
  have hsum := sumW_le h.n_le
  have hwt := wtW_le (k := w.key) h.n_le
  have hls := layW_sum ws w
  have hnl : w.n ≤ 4351 := by unfold Wrt.n; omega
  have e5 : IntKind.i64.wrap (((ws.map Wrt.n).sum : Nat) - (wtW ws w.key : Nat) : Int) = ((ws.map Wrt.n).sum : Nat) - (wtW ws w.key : Nat) := i64_in _ (by omega)
  have e6 := stV1 (o := 1) (v := .int .i64 (((ws.map Wrt.n).sum : Nat) - (wtW ws w.key : Nat) : Int)) h2.wr.blk (by simp) rfl rfl
  simp only [r3, Sm_some, binI_sub, e5, Gt_some, e6]
  generalize hH3 : H2.setIfInBounds W _ = H3
  have hb3 : H3[W]? = some (.cells #[.map (some M), .int .i64 (((ws.map Wrt.n).sum : Nat) - (wtW ws w.key : Nat) : Int)] 322 (0, 0)) := by rw [← hH3]; exact get_set_eq (lt_of_get h2.wr.blk)
  have k3 : Keep (fun b => b = W) H2 H3 := by rw [← hH3]; exact .set rfl
  have hltW := lt_of_get h.wr.blk
  have r4 : rdc H3 W 0 = some (.map (some M)) := by rw [rdc_of hb3]; rfl
  have hbw : H3[H.size]? = some (.cells #[w.v, .bool w.dead] 359 (0, 0)) := k3.at (k2.at hb1 fun h => h) (by omega)
  have r5 : rda 2 (.pointer (some ⟨H.size, 0, none⟩)) H3 = some (wrV w.v w.dead) := by
    rw [rda_ptr, rdn_at hbw 2 0 (by simp)]; rfl
  simp only [r4, Gt_some, r5]
  have hm3 := h2.wr.map.keep k3 fun e => h.wr.ne e.symm
  -- the map holds the write
  have goal : ∀ H4, muV .string (.map (some M)) (.string w.key) (wrV w.v w.dead) H3 = some H4 → Keep (fun b => b = M) H3 H4 → H4.size = H3.size → MpRep H4 M ((layW ws w).map Wrt.p) →
      Gt (muV .string (.map (some M)) (.string w.key) (wrV w.v w.dead) H3) fun H7 =>
      Gt (rdc H7 W 1) fun x52_2 =>
      Ca Tryz.prog 261 [.pointer (some ⟨W, 0, none⟩), .string w.key] H7 (fun x55_2 H8 =>
      Sm (rdc H8 W 1) x52_2 <|
      Gt (binI .add x52_2 x55_2) fun x56_2 =>
      Gt (stV 1 (.pointer (some ⟨W, 1, none⟩)) x56_2 H8) fun H9 =>
      R (.int .i64 0) H9) X := by
    intro H4 q1 k4 s4 hm4
    have hb4 := k4.at hb3 h.wr.ne
    have r6 : rdc H4 W 1 = some (.int .i64 (((ws.map Wrt.n).sum : Nat) - (wtW ws w.key : Nat) : Int)) := by rw [rdc_of hb4]; rfl
    simp only [q1, Gt_some, r6]
    have k04 : Keep (fun b => b = W ∨ b = M) H H4 := (((k1.trans k2).mono fun _ _ h => h.elim).trans (k3.mono fun _ _ h => .inl h)).trans (k4.mono fun _ _ h => .inr h)
    have vals4 : ∀ x ∈ layW ws w, OB H4 x.v x.bs := fun x hx => by
      rcases layW_mem hx with rfl | hx
      · exact hw.keep k04 fun b hb hm => by rcases hm with hm | hm; exact (hs b hb).1 hm; exact (hs b hb).2 hm
      · exact (h.vals x hx).keep k04 fun b hb hm => by rcases hm with hm | hm; exact (h.sep x hx b hb).1 hm; exact (h.sep x hx b hb).2 hm
    have fit4 : ∀ x ∈ layW ws w, (1 ≤ x.key.size ∧ x.key.size ≤ 255) ∧ x.bs.length ≤ 4096 ∧ (x.dead = true → x.bs.length = 0) := fun x hx => by
      rcases layW_mem hx with rfl | hx
      · exact hf
      · exact h.fit x hx
    refine ⟨c261m (ws := layW ws w) ⟨hb4, hm4, h.wr.ne⟩ vals4 (layW_keys h.keys) (fun x hx => (fit4 x hx).2.1) hf.1.2 fun H5 k5 => ?_⟩
    have hb5 := k5.at hb4 fun h => h
    have r7 : rdc H5 W 1 = some (.int .i64 (((ws.map Wrt.n).sum : Nat) - (wtW ws w.key : Nat) : Int)) := by rw [rdc_of hb5]; rfl
    have e7 : IntKind.i64.wrap ((((ws.map Wrt.n).sum : Nat) - (wtW ws w.key : Nat) : Int) + (w.n : Nat)) = (((layW ws w).map Wrt.n).sum : Nat) := by rw [i64_in _ (by omega)]; omega
    have e8 := stV1 (o := 1) (v := .int .i64 (((layW ws w).map Wrt.n).sum : Nat)) hb5 (by simp) rfl rfl
    simp only [r7, Sm_some, layW_wt, binI_add, e7, Gt_some, e8]
    have k6 : Keep (fun b => b = W ∨ b = M) H5 _ := (Keep.set (H := H5) (b := W) (o := .cells ((#[.map (some M), .int .i64 (((ws.map Wrt.n).sum : Nat) - (wtW ws w.key : Nat) : Int)] : Array Value).setIfInBounds 1 (.int .i64 (((layW ws w).map Wrt.n).sum : Nat))) 322 (0, 0)) (.inl rfl))
    refine hR _ ((k04.trans (k5.mono fun _ _ h => h.elim)).trans k6) ⟨⟨get_set_eq (lt_of_get hb5), (hm4.keep k5 fun h => h).keep (N := fun b => b = W) (.set rfl) fun e => h.wr.ne e.symm, h.wr.ne⟩, fun x hx => ?_, layW_keys h.keys, fun x hx => ?_, fit4⟩
    · refine ((vals4 x hx).keep k5 fun _ _ h => h).keep k6 fun b hb hm => ?_
      rcases layW_mem hx with rfl | hx
      · rcases hm with hm | hm; exact (hs b hb).1 hm; exact (hs b hb).2 hm
      · rcases hm with hm | hm; exact (h.sep x hx b hb).1 hm; exact (h.sep x hx b hb).2 hm
    · rcases layW_mem hx with rfl | hx
      · exact hs
      · exact h.sep x hx
  rcases hm3.put w.key (wrV w.v w.dead) with ⟨g1, H4, g2, g3, g4, g5⟩ | ⟨j, hj, g1, H4, g2, g3, g4, g5⟩
  · refine goal H4 g2 g3 g4 ?_
    rw [layW_none fun x hx => g1 x.p (List.mem_map.2 ⟨x, hx, rfl⟩)]
    simpa [Wrt.p] using g5
  · refine goal H4 g2 g3 g4 ?_
    have hj' : j < ws.length := by simpa using hj
    rw [layW_at j hj' (by simpa [Wrt.p] using g1) h.keys, List.map_set]
    exact g5

theorem c220 {W M : Nat} {ws : List Wrt} (h : WsRep H W M ws) (hlen : ws.length ≤ 1099511627776) {k : ByteArray} {x : Value} {bs : List UInt8} (hx : By H x bs) (hk : 1 ≤ k.size ∧ k.size ≤ 255) (hb : bs.length ≤ 4096)
    (hR : ∀ v H', Keep (fun b => b = W ∨ b = M) H H' → (∀ b, ob v b → H.size ≤ b) → WsRep H' W M (layW ws ⟨k, v, bs, false⟩) → R (.int .i64 0) H') : Runs Tryz.prog 220 [.pointer (some ⟨W, 0, none⟩), .string k, x] H R X := by
  refine l220 ⟨c263 hx (by omega) fun v H1 k1 f1 o1 => ?_⟩
  have e : bdV z359 [(0, 1), (1, 1)] [(0, v)] = some (wrV v false) := by
    obtain ⟨a, c, rfl⟩ := o1.bs.sl
    rfl
  simp only [e, Gt_some]
  have h1 := h.keep k1 fun _ _ h => h
  refine ⟨c262 (w := ⟨k, v, bs, false⟩) h1 hlen o1 ⟨hk, hb, fun h => by cases h⟩ (fun b hb => ?_) fun H2 k2 h2 => hR v H2 ((k1.mono fun _ _ h => h.elim).trans k2) f1 h2⟩
  have := f1 b hb
  have := lt_of_get h.wr.blk
  have := h.wr.map.lt
  exact ⟨by show b ≠ W; omega, by show b ≠ M; omega⟩
end Go.Proofs.YtdoimhpmnmmffaaGreat

/- The store as lists of versions by key; chains more, chains longer. No condition but those in each statement. -/
namespace Go.Proofs.YtdoimhpmnmmffaaGreat
open Go IntWalk
variable {H : Heap} {R : Value → Heap → Prop} {X : List PanicEntry → Heap → Prop}

abbrev SM := List (ByteArray × List Link)
def Chn.m (c : Chn) : ByteArray × List Link := (c.key, c.ls)
def addS : SM → ByteArray → Link → SM
  | [], k, l => [(k, [l])]
  | p :: r, k, l => if p.1 = k then (p.1, p.2 ++ [l]) :: r else p :: addS r k l
def getS : SM → ByteArray → List Link
  | [], _ => []
  | p :: r, k => if p.1 = k then p.2 else getS r k
def liveS (m : SM) : Int := (m.map fun p => wgt p.1 p.2).sum
theorem addS_none : ∀ {m : SM} {k : ByteArray} {l : Link}, (∀ p ∈ m, p.1 ≠ k) → addS m k l = m ++ [(k, [l])]
  | [], _, _, _ => rfl
  | p :: r, k, l, h => by
    rw [addS, if_neg (h p (List.mem_cons_self ..)), addS_none fun y hy => h y (List.mem_cons_of_mem _ hy)]; rfl
theorem getS_none : ∀ {m : SM} {k : ByteArray}, (∀ p ∈ m, p.1 ≠ k) → getS m k = []
  | [], _, _ => rfl
  | p :: r, k, h => by
    rw [getS, if_neg (h p (List.mem_cons_self ..)), getS_none fun y hy => h y (List.mem_cons_of_mem _ hy)]
theorem getS_at : ∀ {m : SM} (j : Nat) (hj : j < m.length) {k : ByteArray}, m[j].1 = k → (m.map (·.1)).Nodup → getS m k = m[j].2
  | p :: r, 0, _, k, h, _ => by
    have h : p.1 = k := h
    simp [getS, h]
  | p :: r, j + 1, hj, k, h, hn => by
    simp only [List.map_cons, List.nodup_cons] at hn
    have hj' : j < r.length := by simpa using hj
    simp only [List.getElem_cons_succ] at h
    have : p.1 ≠ k := fun e => hn.1 (by rw [e, ← h]; exact List.mem_map.2 ⟨_, List.getElem_mem hj', rfl⟩)
    rw [getS, if_neg this, getS_at j hj' h hn.2]; rfl
theorem addS_at : ∀ {m : SM} (j : Nat) (hj : j < m.length) {k : ByteArray} {l : Link}, m[j].1 = k → (m.map (·.1)).Nodup → addS m k l = m.set j (k, m[j].2 ++ [l])
  | p :: r, 0, _, k, l, h, _ => by
    have h : p.1 = k := h
    simp [addS, h]
  | p :: r, j + 1, hj, k, l, h, hn => by
    simp only [List.map_cons, List.nodup_cons] at hn
    have hj' : j < r.length := by simpa using hj
    simp only [List.getElem_cons_succ] at h
    have : p.1 ≠ k := fun e => hn.1 (by rw [e, ← h]; exact List.mem_map.2 ⟨_, List.getElem_mem hj', rfl⟩)
    rw [addS, if_neg this, addS_at j hj' h hn.2]; rfl
theorem liveS_add : ∀ (m : SM) (k : ByteArray) (l : Link), liveS (addS m k l) = liveS m + (wgt k (getS m k ++ [l]) - wgt k (getS m k))
  | [], k, l => by simp [addS, getS, liveS, wgt]
  | p :: r, k, l => by
    have ih := liveS_add r k l
    simp only [addS, getS]
    split
    · rename_i e
      subst e
      simp only [liveS, List.map_cons, List.sum_cons]; omega
    · simp only [liveS, List.map_cons, List.sum_cons] at ih ⊢; omega
theorem addS_keys : ∀ {m : SM} {k : ByteArray} {l : Link} {p : ByteArray × List Link}, p ∈ addS m k l → p.1 = k ∨ p ∈ m
  | [], k, l, p, h => by
    simp only [addS, List.mem_singleton] at h
    exact .inl (h ▸ rfl)
  | q :: r, k, l, p, h => by
    simp only [addS] at h
    split at h
    · rename_i e
      rcases List.mem_cons.1 h with h | h
      · exact .inl (h ▸ e)
      · exact .inr (List.mem_cons_of_mem _ h)
    · rcases List.mem_cons.1 h with h | h
      · exact .inr (h ▸ List.mem_cons_self ..)
      · exact (addS_keys h).imp id fun h => List.mem_cons_of_mem _ h

theorem pw_set {α : Type} {r : α → α → Prop} {l : List α} {j : Nat} (hj : j < l.length) {x : α} (h : l.Pairwise r) (h1 : ∀ i (hi : i < l.length), i ≠ j → r l[i] x ∧ r x l[i]) : (l.set j x).Pairwise r := by
  rw [List.pairwise_iff_getElem]
  intro a b ha hb hab
  have ha' : a < l.length := by simpa using ha
  have hb' : b < l.length := by simpa using hb
  rw [List.getElem_set, List.getElem_set]
  have := List.pairwise_iff_getElem.1 h a b ha' hb' hab
  split
  · rename_i e
    rw [if_neg (by omega)]
    exact (h1 b hb' (by omega)).2
  · split
    · exact (h1 a ha' (by omega)).1
    · exact this
theorem StRep.apart' {S M : Nat} {cs : List Chn} {live : Int} (h : StRep H S M cs live) {i j : Nat} (hi : i < cs.length) (hj : j < cs.length) (hij : i ≠ j) : ∀ b, cs[i].F b → ¬ cs[j].F b := by
  have key := List.pairwise_iff_getElem.1 h.apart
  rcases Nat.lt_or_gt_of_ne hij with h1 | h1
  · exact key i j hi hj h1
  · exact fun b hb hb' => key j i hj hi h1 b hb' hb
/-- a chain got longer -/
theorem StRep.setC {H' : Heap} {S M : Nat} {cs : List Chn} {live : Int} (h : StRep H S M cs live) {j : Nat} (hj : j < cs.length) {w x : Value} {ls : List Link} (k : Keep (chM cs[j].C cs[j].v) H H') (hw : ∀ b, ob w b → ob cs[j].v b ∨ H.size ≤ b)
    (hx : ∀ b, ob x b → ¬ stF S M cs b ∧ b < H.size) (hc : ChRep H' cs[j].C w ls (cs[j].vs ++ [x])) : StRep H' S M (cs.set j ⟨cs[j].key, cs[j].C, w, ls, cs[j].vs ++ [x]⟩) live := by
  have hown := h.own cs[j] (List.getElem_mem hj)
  have hlt := h.lt
  -- what the chain holds now
  have hF : ∀ b, chF cs[j].C w (cs[j].vs ++ [x]) b → cs[j].F b ∨ H.size ≤ b ∨ ¬ stF S M cs b := by
    rintro b ((rfl | hb) | ⟨u, hu, hb⟩)
    · exact .inl (.inl (.inl rfl))
    · rcases hw b hb with h1 | h1
      · exact .inl (.inl (.inr h1))
      · exact .inr (.inl h1)
    · rcases List.mem_append.1 hu with hu | hu
      · exact .inl (.inr ⟨u, hu, hb⟩)
      · simp only [List.mem_singleton] at hu; subst hu
        exact .inr (.inr (hx b hb).1)
  have hapart : ∀ i (hi : i < cs.length), i ≠ j → ∀ b, cs[i].F b → ¬ chF cs[j].C w (cs[j].vs ++ [x]) b := by
    intro i hi hij b hb hb'
    rcases hF b hb' with h1 | h1 | h1
    · exact h.apart' hi hj hij b hb h1
    · have := hlt b (.inr (.inr ⟨_, List.getElem_mem hi, hb⟩)); omega
    · exact h1 (.inr (.inr ⟨_, List.getElem_mem hi, hb⟩))
  refine ⟨k.at h.blk fun e => (hown S (.inl e)).1 rfl, ?_, ?_, ?_, ?_, ?_, h.ne⟩
  · have := h.map.keep k fun e => (hown M (.inl e)).2.1 rfl
    have e : (cs.set j ⟨cs[j].key, cs[j].C, w, ls, cs[j].vs ++ [x]⟩).map Chn.p = cs.map Chn.p := by
      rw [List.map_set]
      apply List.ext_getElem?
      intro i
      rw [List.getElem?_set]
      split
      · rename_i e; subst e; simp [hj, Chn.p]
      · rfl
    rw [e]; exact this
  · intro c hc'
    obtain ⟨i, hi, rfl⟩ := List.getElem_of_mem hc'
    have hi' : i < cs.length := by simpa using hi
    rw [List.getElem_set]
    split
    · exact hc
    · rename_i e
      exact (h.ch _ (List.getElem_mem hi')).keep k fun b hb hm => h.apart' hi' hj (Ne.symm e) b hb (.inl hm)
  · have e : (cs.set j ⟨cs[j].key, cs[j].C, w, ls, cs[j].vs ++ [x]⟩).map (·.key) = cs.map (·.key) := by
      rw [List.map_set]
      apply List.ext_getElem?
      intro i
      rw [List.getElem?_set]
      split
      · rename_i e; subst e; simp [hj]
      · rfl
    rw [e]; exact h.keys
  · refine pw_set hj h.apart fun i hi hij => ⟨hapart i hi hij, fun b hb hb' => hapart i hi hij b hb' hb⟩
  · intro c hc' b hb
    obtain ⟨i, hi, rfl⟩ := List.getElem_of_mem hc'
    have hi' : i < cs.length := by simpa using hi
    rw [List.getElem_set] at hb
    split at hb
    · have hS := lt_of_get h.blk
      have hM := h.map.lt
      rcases hb with (rfl | hb) | ⟨u, hu, hb⟩
      · have := hown cs[j].C (.inl (.inl rfl))
        exact ⟨this.1, this.2.1, k.lt this.2.2⟩
      · rcases hw b hb with h1 | h1
        · have := hown b (.inl (.inr h1))
          exact ⟨this.1, this.2.1, k.lt this.2.2⟩
        · refine ⟨by omega, by omega, hc.own.lt hb⟩
      · rcases List.mem_append.1 hu with hu | hu
        · have := hown b (.inr ⟨u, hu, hb⟩)
          exact ⟨this.1, this.2.1, k.lt this.2.2⟩
        · simp only [List.mem_singleton] at hu; subst hu
          have := hx b hb
          exact ⟨fun e => this.1 (.inl e), fun e => this.1 (.inr (.inl e)), k.lt this.2⟩
    · have := h.own _ (List.getElem_mem hi') b hb
      exact ⟨this.1, this.2.1, k.lt this.2.2⟩
/-- a chain more -/
theorem StRep.addC {S M : Nat} {cs : List Chn} {live : Int} (h : StRep H S M cs live) {c : Chn} (hc : ChRep H c.C c.v c.ls c.vs) (hs : ∀ b, c.F b → ¬ stF S M cs b ∧ b < H.size) (hk : ∀ d ∈ cs, d.key ≠ c.key) :
    ∃ H', muV .string (.map (some M)) (.string c.key) (.pointer (some ⟨c.C, 0, none⟩)) H = some H' ∧ Keep (fun b => b = M) H H' ∧ H'.size = H.size ∧ StRep H' S M (cs ++ [c]) live := by
  rcases h.map.put c.key (.pointer (some ⟨c.C, 0, none⟩)) with ⟨_, H', g2, g3, g4, g5⟩ | ⟨j, hj, g1, _⟩
  · refine ⟨H', g2, g3, g4, g3.at h.blk h.ne, by simpa [Chn.p] using g5, ?_, ?_, ?_, ?_, h.ne⟩
    · intro d hd
      rcases List.mem_append.1 hd with hd | hd
      · exact (h.ch d hd).keep g3 fun b hb e => (h.own d hd b hb).2.1 e
      · simp only [List.mem_singleton] at hd; subst hd
        exact hc.keep g3 fun b hb e => (hs b hb).1 (.inr (.inl e))
    · rw [List.map_append, List.nodup_append]
      refine ⟨h.keys, by simp, fun x hx y hy e => ?_⟩
      obtain ⟨d, hd, rfl⟩ := List.mem_map.1 hx
      simp only [List.map_cons, List.map_nil, List.mem_singleton] at hy
      exact hk d hd (e.trans hy)
    · rw [List.pairwise_append]
      refine ⟨h.apart, by simp, fun d hd y hy b hb hb' => ?_⟩
      simp only [List.mem_singleton] at hy; subst hy
      exact (hs b hb').1 (.inr (.inr ⟨d, hd, hb⟩))
    · intro d hd b hb
      rw [g4]
      rcases List.mem_append.1 hd with hd | hd
      · exact h.own d hd b hb
      · simp only [List.mem_singleton] at hd; subst hd
        have := hs b hb
        exact ⟨fun e => this.1 (.inl e), fun e => this.1 (.inr (.inl e)), this.2⟩
  · have hj' : j < cs.length := by simpa using hj
    exact absurd (by simpa [Chn.p] using g1) (hk _ (List.getElem_mem hj'))
/-- a chain's pointer is laid in anew -/
theorem StRep.again {S M : Nat} {cs : List Chn} {live : Int} (h : StRep H S M cs live) {c : Chn} (hc : c ∈ cs) :
    ∃ H', muV .string (.map (some M)) (.string c.key) (.pointer (some ⟨c.C, 0, none⟩)) H = some H' ∧ Keep (fun b => b = M) H H' ∧ H'.size = H.size ∧ StRep H' S M cs live := by
  have fin : ∀ H', Keep (fun b => b = M) H H' → H'.size = H.size → MpRep H' M (cs.map Chn.p) → StRep H' S M cs live := fun H' g3 g4 g5 =>
    ⟨g3.at h.blk h.ne, g5, fun d hd => (h.ch d hd).keep g3 fun b hb e => (h.own d hd b hb).2.1 e, h.keys, h.apart, fun d hd b hb => g4 ▸ h.own d hd b hb, h.ne⟩
  rcases h.map.put c.key (.pointer (some ⟨c.C, 0, none⟩)) with ⟨g1, _⟩ | ⟨j, hj, g1, H', g2, g3, g4, g5⟩
  · exact absurd rfl (g1 c.p (List.mem_map.2 ⟨c, hc, rfl⟩))
  · refine ⟨H', g2, g3, g4, fin H' g3 g4 ?_⟩
    have hj' : j < cs.length := by simpa using hj
    obtain ⟨i, hi, rfl⟩ := List.getElem_of_mem hc
    have hij : i = j := by
      rcases Nat.lt_trichotomy i j with h1 | h1 | h1
      · exact absurd (show _ = _ by rw [List.getElem_map, List.getElem_map]; simpa [Chn.p] using g1.symm) (List.pairwise_iff_getElem.1 h.keys i j (by simpa using hi) (by simpa using hj') h1)
      · exact h1
      · exact absurd (show _ = _ by rw [List.getElem_map, List.getElem_map]; simpa [Chn.p] using g1) (List.pairwise_iff_getElem.1 h.keys j i (by simpa using hj') (by simpa using hi) h1)
    subst hij
    have e : (cs.map Chn.p).set i (cs[i].key, .pointer (some ⟨cs[i].C, 0, none⟩)) = cs.map Chn.p := by
      apply List.ext_getElem?
      intro n
      rw [List.getElem?_set]
      split
      · rename_i e; subst e; simp [hi, Chn.p]
      · rfl
    rw [e] at g5; exact g5
/-- the links do not matter to the number of bytes that is held in the store's block -/
theorem StRep.setLive {H' : Heap} {S M : Nat} {cs : List Chn} {live l2 : Int} (h : StRep H S M cs live) (e : H' = H.setIfInBounds S (.cells #[.map (some M), .int .i64 l2] 167 (0, 0))) : StRep H' S M cs l2 := by
  subst e
  have k : Keep (fun b => b = S) H (H.setIfInBounds S (.cells #[.map (some M), .int .i64 l2] 167 (0, 0))) := .set rfl
  exact ⟨get_set_eq (lt_of_get h.blk), h.map.keep k fun e => h.ne e.symm, fun d hd => (h.ch d hd).keep k fun b hb e => (h.own d hd b hb).1 e, h.keys, h.apart, fun d hd b hb => ⟨(h.own d hd b hb).1, (h.own d hd b hb).2.1, k.lt (h.own d hd b hb).2.2⟩, h.ne⟩
end Go.Proofs.YtdoimhpmnmmffaaGreat

/- Contracts of the package store: a version more; the newest stamp of a key. No condition but those in each statement. -/
namespace Go.Proofs.YtdoimhpmnmmffaaGreat
open Go IntWalk
variable {H : Heap} {R : Value → Heap → Prop} {X : List PanicEntry → Heap → Prop}

theorem addS_mem : ∀ {m : SM} {k : ByteArray} {l : Link} {p : ByteArray × List Link}, p ∈ addS m k l → p ∈ m ∨ (p.1 = k ∧ p.2 = getS m k ++ [l])
  | [], k, l, p, h => by
    simp only [addS, List.mem_singleton] at h
    subst h; exact .inr ⟨rfl, rfl⟩
  | q :: r, k, l, p, h => by
    simp only [addS] at h
    split at h
    · rename_i e
      rcases List.mem_cons.1 h with h | h
      · subst h; exact .inr ⟨e, by simp [getS, e]⟩
      · exact .inl (List.mem_cons_of_mem _ h)
    · rename_i e
      rcases List.mem_cons.1 h with h | h
      · exact .inl (h ▸ List.mem_cons_self ..)
      · rw [getS, if_neg e]
        exact (addS_mem h).imp (fun h => List.mem_cons_of_mem _ h) id
theorem getS_add : ∀ {m : SM} {k : ByteArray} {l : Link}, getS (addS m k l) k = getS m k ++ [l]
  | [], k, l => by simp [addS, getS]
  | q :: r, k, l => by
    simp only [addS, getS]
    split
    · rename_i e; simp [getS, e]
    · rename_i e; rw [getS, if_neg e]; exact getS_add
theorem m_keys {cs : List Chn} : (cs.map Chn.m).map (·.1) = cs.map (·.key) := by simp [Chn.m]
theorem m_at {cs : List Chn} (hn : (cs.map (·.key)).Nodup) {c : Chn} (hc : c ∈ cs) : getS (cs.map Chn.m) c.key = c.ls := by
  obtain ⟨j, hj, rfl⟩ := List.getElem_of_mem hc
  rw [getS_at j (by simpa using hj) (by simp [Chn.m]) (by rw [m_keys]; exact hn)]
  simp [Chn.m]
theorem m_none {cs : List Chn} {k : ByteArray} (h : ∀ c ∈ cs, c.key ≠ k) : ∀ p ∈ cs.map Chn.m, p.1 ≠ k := by
  intro p hp
  obtain ⟨c, hc, rfl⟩ := List.mem_map.1 hp
  exact h c hc
theorem m_mem {cs : List Chn} {k : ByteArray} {l : Link} (h : l ∈ getS (cs.map Chn.m) k) (hn : (cs.map (·.key)).Nodup) : ∃ c ∈ cs, c.key = k ∧ l ∈ c.ls := by
  by_cases hc : ∃ c ∈ cs, c.key = k
  · obtain ⟨c, hc, rfl⟩ := hc
    rw [m_at hn hc] at h
    exact ⟨c, hc, rfl, h⟩
  · rw [getS_none (m_none fun c h1 h2 => hc ⟨c, h1, h2⟩)] at h
    cases h
/-- the weight of a key -/
theorem c271g {S M : Nat} {cs : List Chn} {live : Int} (h : StRep H S M cs live) {k : ByteArray} (hl : (getS (cs.map Chn.m) k).length ≤ 1099511627776) (hw : ∀ l ∈ getS (cs.map Chn.m) k, l.val.length ≤ 4096) (hk : k.size ≤ 255)
    (hR : ∀ H', Keep no H H' → R (.int .i64 (wgt k (getS (cs.map Chn.m) k))) H') : Runs Tryz.prog 271 [.pointer (some ⟨S, 0, none⟩), .string k] H R X := by
  by_cases hc : ∃ c ∈ cs, c.key = k
  · obtain ⟨c, hc, rfl⟩ := hc
    rw [m_at h.keys hc] at hl hw hR
    exact c271 h hc hl hw hk hR
  · have hN : ∀ c ∈ cs, c.key ≠ k := fun c h1 h2 => hc ⟨c, h1, h2⟩
    rw [getS_none (m_none hN)] at hR
    exact c271n h hN hR

/-- a store -/
structure SoRep (H : Heap) (S M : Nat) (cs : List Chn) : Prop where
  st : StRep H S M cs (liveS (cs.map Chn.m))
  fit : ∀ c ∈ cs, (1 ≤ c.key.size ∧ c.key.size ≤ 255) ∧ c.ls.length ≤ 1099511627776 ∧ ∀ l ∈ c.ls, l.val.length ≤ 4096
theorem SoRep.keep {N : Nat → Prop} {H H' : Heap} {S M : Nat} {cs : List Chn} (h : SoRep H S M cs) (k : Keep N H H') (hm : ∀ b, stF S M cs b → ¬ N b) : SoRep H' S M cs := ⟨h.st.keep k hm, h.fit⟩
theorem SoRep.new {H : Heap} {S M : Nat} (h : StRep H S M [] 0) : SoRep H S M [] := ⟨h, fun c h => by cases h⟩
theorem wgt_fit {k : ByteArray} {ls : List Link} (hk : k.size ≤ 255) (hw : ∀ l ∈ ls, l.val.length ≤ 4096) : 0 ≤ wgt k ls ∧ wgt k ls ≤ 4351 := by
  unfold wgt
  split
  · rename_i l hl
    have := hw l (List.mem_of_getLast? hl)
    split <;> omega
  · omega

theorem c93g {S M : Nat} {cs : List Chn} {live : Int} (h : StRep H S M cs live) {k : ByteArray}
    (hR : ∀ a, (a = none ∧ (∀ c ∈ cs, c.key ≠ k)) ∨ (∃ (j : Nat) (hj : j < cs.length), cs[j].key = k ∧ a = some ⟨cs[j].C, 0, none⟩) → R (.pointer a) H) : Runs Tryz.prog 93 [.pointer (some ⟨S, 0, none⟩), .string k] H R X := by
  refine c93 h (fun hN => hR none (.inl ⟨rfl, hN⟩)) fun c hc he => ?_
  obtain ⟨j, hj, rfl⟩ := List.getElem_of_mem hc
  exact hR _ (.inr ⟨j, hj, he, rfl⟩)
def AppI (H1 : Heap) (S M : Nat) (cs : List Chn) (k : ByteArray) (x6 : Value) (H5 : Heap) : Prop :=
  ∃ C v vs, x6 = .pointer (some ⟨C, 0, none⟩) ∧ Keep no H1 H5 ∧ ChRep H5 C v (getS (cs.map Chn.m) k) vs ∧ (∀ b, chF C v vs b → b < H5.size) ∧
    ((∃ (j : Nat) (hj : j < cs.length), cs[j].key = k ∧ cs[j].C = C ∧ cs[j].v = v ∧ cs[j].vs = vs ∧ cs[j].ls = getS (cs.map Chn.m) k) ∨ ((∀ c ∈ cs, c.key ≠ k) ∧ vs = [] ∧ v = .slice none 0 0 ∧ H1.size ≤ C))

theorem c227 {S M : Nat} {cs : List Chn} (h : SoRep H S M cs) {k : ByteArray} {stamp : Int} {v : Value} {bs : List UInt8} {dead : Bool} (hv : Bs H v bs) (hk : 1 ≤ k.size ∧ k.size ≤ 255) (hb : bs.length ≤ 4096) (hd : dead = true → bs.length = 0) (hs : 0 ≤ stamp ∧ stamp ≤ 4611686018427387904)
    (hlast : ∀ l, (getS (cs.map Chn.m) k).getLast? = some l → l.stamp < stamp) (hlen : (getS (cs.map Chn.m) k).length < 1099511627776) (hlive : 0 ≤ liveS (cs.map Chn.m) ∧ liveS (cs.map Chn.m) ≤ 1152921504606846976)
    (hR : ∀ cs' H', Keep (stF S M cs) H H' → (∀ b, stF S M cs' b → stF S M cs b ∨ H.size ≤ b) → cs'.map Chn.m = addS (cs.map Chn.m) k ⟨stamp, bs, dead⟩ → SoRep H' S M cs' → R (.int .i64 0) H') :
    Runs Tryz.prog 227 [.pointer (some ⟨S, 0, none⟩), verV k stamp v dead] H R X := by
  refine l227 ?_
  unfold i227
  have hc : (verV k stamp v dead).cells = #[.string k, .int .i64 stamp, v, .bool dead] := rfl
  simp only [Nw_iff, hc]
  generalize hH1 : H.push (.cells #[.string k, .int .i64 stamp, v, .bool dead] 190 (0, 0)) = H1
  have hb1 : H1[H.size]? = some (.cells #[.string k, .int .i64 stamp, v, .bool dead] 190 (0, 0)) := by rw [← hH1]; exact get_push_eq
  have k1 : Keep no H H1 := by rw [← hH1]; exact .push
  have h1 := h.keep k1 fun _ _ h => h
  have hlt := h.st.lt
  have rd : rda 4 (.pointer (some ⟨H.size, 0, none⟩)) H1 = some (verV k stamp v dead) := by
    rw [rda_ptr, rdn_at hb1 4 0 (by simp)]; rfl
  have hsn := h.st.keys
  have hml : ∀ l ∈ getS (cs.map Chn.m) k, l.val.length ≤ 4096 := fun l hl => by
    obtain ⟨c, hc, _, hl⟩ := m_mem hl hsn
    exact (h.fit c hc).2.2 l hl
  simp only [ptrEq_nil_r, Option.isNone_some, Option.map_some, Gt_some, If_false, rd]
  refine ⟨c270 (hv.keep k1 fun _ _ h => h) hk hb hd hs fun H2 k2 => ?_⟩
  have hb2 := k2.at hb1 fun h => h
  have h2 := h1.keep k2 fun _ _ h => h
  have r0 : rdc H2 H.size 0 = some (.string k) := by rw [rdc_of hb2]; rfl
  have e0 : ((0 : Int) != 0) = false := rfl
  simp only [binI_neq, e0, Gt_some, If_false, faV_ptr, Nat.zero_add, rdv_ptr, r0]
  refine ⟨c93g h2.st fun a ha => ?_⟩
  simp only [ptrEq_nil_r, Option.map_some, Gt_some]
  refine ⟨AppI H2 S M cs k, fun H5 x6 hI => ?_, ?_⟩
  rotate_left
  · rcases ha with ⟨rfl, hN⟩ | ⟨j, hj, he, rfl⟩
    · have eb : bdV z236 [(0, 1)] [] = some (.agg #[.slice none 0 0]) := rfl
      simp only [Option.isNone_none, If_true, eb, Gt_some, Nw_iff]
      refine ⟨H2.size, .slice none 0 0, [], rfl, .push, ?_, ?_, .inr ⟨hN, rfl, rfl, Nat.le_refl _⟩⟩
      · rw [getS_none (m_none hN)]
        exact ⟨get_push_eq, rfl, .nil, fun j hj => by simp at hj, ob_nil, fun w hw => by cases hw⟩
      · rintro b ((rfl | hb) | ⟨u, hu, hb⟩)
        · simp
        · exact (ob_nil hb).elim
        · cases hu
    · simp only [Option.isNone_some, If_false]
      have hg := m_at h.st.keys (List.getElem_mem hj)
      rw [he] at hg
      refine ⟨cs[j].C, cs[j].v, cs[j].vs, rfl, .refl _, ?_, fun b hb => (h2.st.own _ (List.getElem_mem hj) b hb).2.2, .inl ⟨j, hj, he, rfl, rfl, rfl, hg.symm⟩⟩
      rw [hg]; exact h2.st.ch _ (List.getElem_mem hj)
  obtain ⟨C, cv, vs, rfl, k5, hch, hclt, hcase⟩ := hI
  have hb5 := k5.at hb2 fun h => h
  have h5 := h2.keep k5 fun _ _ h => h
  have r5 : rdc H5 H.size 0 = some (.string k) := by rw [rdc_of hb5]; rfl
  simp only [ncV_ptr, faV_ptr, rdv_ptr, Nat.zero_add, r5, Gt_some]
  refine ⟨c271g h5.st (by omega) hml hk.2 fun H6 k6 => ?_⟩
  have hb6 := k6.at hb5 fun h => h
  have h6 := h5.keep k6 fun _ _ h => h
  have r61 : rdc H6 H.size 1 = some (.int .i64 stamp) := by rw [rdc_of hb6]; rfl
  have r62 : rdc H6 H.size 2 = some v := by rw [rdc_of hb6]; rfl
  have r63 : rdc H6 H.size 3 = some (.bool dead) := by rw [rdc_of hb6]; rfl
  have k06 : Keep no H H6 := ((k1.trans k2).trans k5).trans k6
  simp only [ncV_ptr, faV_ptr, rdv_ptr, Nat.zero_add, r61, r62, r63, Gt_some]
  refine ⟨c95 (hv.rd.keep k06 fun _ _ h => h) (by omega) fun x H7 k7 f7 o7 => ?_⟩
  have hb7 := k7.at hb6 fun h => h
  have h7 := h6.keep k7 fun _ _ h => h
  have r71 : rdc H7 H.size 1 = some (.int .i64 stamp) := by rw [rdc_of hb7]; rfl
  have r73 : rdc H7 H.size 3 = some (.bool dead) := by rw [rdc_of hb7]; rfl
  have eb : bdV z194 [(0, 1), (1, 1), (2, 1)] [(0, .int .i64 stamp), (1, x), (2, .bool dead)] = some (lkA ⟨stamp, bs, dead⟩ x) := by
    obtain ⟨a, c, rfl⟩ := o7.bs.sl
    rfl
  simp only [ncV_ptr, faV_ptr, rdv_ptr, Nat.zero_add, r71, r73, Sm_some, eb, Gt_some]
  have hch7 : ChRep H7 C cv (getS (cs.map Chn.m) k) vs := (hch.keep k6 fun _ _ h => h).keep k7 fun _ _ h => h
  have k57 : Keep no H5 H7 := k6.trans k7
  have hxf : ∀ b, ob x b → H5.size ≤ b := fun b hb => Nat.le_trans k6.size (f7 b hb)
  have hxs : ∀ b, ob x b → b ≠ C ∧ ¬ ob cv b ∧ b < H7.size := fun b hb => by
    have h1 := hxf b hb
    refine ⟨fun e => ?_, fun e => ?_, o7.lt hb⟩
    · have := hclt C (.inl (.inl rfl)); omega
    · have := hclt b (.inl (.inr e)); omega
  refine ⟨c272 (l := ⟨stamp, bs, dead⟩) hch7 (by omega) o7.bs hxs hs.1 (fun j hj hj1 => ?_) fun w H8 k8 f8 ch8 => ?_⟩
  · refine hlast _ ?_
    rw [List.getLast?_eq_getElem?, show (getS (cs.map Chn.m) k).length - 1 = j by omega, List.getElem?_eq_getElem hj]
  -- the block of the argument, and the store's
  have hk07 : Keep no H H7 := k06.trans k7
  have hHC : H.size ≠ C ∧ ¬ ob cv H.size := by
    rcases hcase with ⟨j, hj, h1, h2, h3, h4, h5⟩ | ⟨n1, n2, n3, n4⟩
    · subst h2 h3
      refine ⟨fun e => ?_, fun e => ?_⟩
      · have := hlt cs[j].C (.inr (.inr ⟨_, List.getElem_mem hj, .inl (.inl rfl)⟩)); omega
      · have := hlt H.size (.inr (.inr ⟨_, List.getElem_mem hj, .inl (.inr e)⟩)); omega
    · subst n3
      refine ⟨fun e => ?_, ob_nil⟩
      have := lt_of_get hb2; omega
  have hSC : S ≠ C ∧ ¬ ob cv S := by
    rcases hcase with ⟨j, hj, h1, h2, h3, h4, h5⟩ | ⟨n1, n2, n3, n4⟩
    · subst h2 h3
      refine ⟨fun e => ?_, fun e => ?_⟩
      · exact (h.st.own cs[j] (List.getElem_mem hj) S (.inl (.inl e))).1 rfl
      · exact (h.st.own cs[j] (List.getElem_mem hj) S (.inl (.inr e))).1 rfl
    · subst n3
      refine ⟨fun e => ?_, ob_nil⟩
      have := lt_of_get h2.st.blk; omega
  have hb8 := k8.at hb7 (fun hm => by rcases hm with hm | hm; exact hHC.1 hm; exact hHC.2 hm)
  have hS8 := k8.at h7.st.blk (fun hm => by rcases hm with hm | hm; exact hSC.1 hm; exact hSC.2 hm)
  have r80 : rdc H8 H.size 0 = some (.string k) := by rw [rdc_of hb8]; rfl
  have rS8 : rdc H8 S 0 = some (.map (some M)) := by rw [rdc_of hS8]; rfl
  have en : nilEq (.map 9 168) (.map (some M)) (.map none) = some false := rfl
  simp only [ncV_ptr, faV_ptr, rdv_ptr, Nat.zero_add, binI_neq, e0, Gt_some, If_false, rS8, en, Option.map_some]
  refine Jo0 ?_
  simp only [ncV_ptr, faV_ptr, rdv_ptr, Nat.zero_add, If_false, rS8, r80, Gt_some]
  -- the map's entry
  have put : ∃ cs' H12, muV .string (.map (some M)) (.string k) (.pointer (some ⟨C, 0, none⟩)) H8 = some H12 ∧ Keep (fun b => b = M) H8 H12 ∧ StRep H12 S M cs' (liveS (cs.map Chn.m)) ∧ cs'.map Chn.m = addS (cs.map Chn.m) k ⟨stamp, bs, dead⟩ ∧
      (∀ b, stF S M cs' b → stF S M cs b ∨ H.size ≤ b) ∧ (∀ b, chM C cv b → stF S M cs b ∨ H.size ≤ b) := by
    have hxn : ∀ b, ob x b → ¬ stF S M cs b ∧ b < H7.size := fun b hb => ⟨fun hf => by
      have := hlt b hf; have := hxf b hb; have := k5.size; have := k2.size; have := k1.size; omega, o7.lt hb⟩
    rcases hcase with ⟨j, hj, h1, h2, h3, h4, h5⟩ | ⟨n1, n2, n3, n4⟩
    · subst h1 h2 h3 h4
      have hset := h7.st.setC hj k8 f8 hxn ch8
      have hm : (⟨cs[j].key, cs[j].C, w, getS (cs.map Chn.m) cs[j].key ++ [⟨stamp, bs, dead⟩], cs[j].vs ++ [x]⟩ : Chn) ∈ cs.set j ⟨cs[j].key, cs[j].C, w, getS (cs.map Chn.m) cs[j].key ++ [⟨stamp, bs, dead⟩], cs[j].vs ++ [x]⟩ := by
        rw [List.mem_iff_getElem]
        exact ⟨j, by simpa using hj, by simp⟩
      obtain ⟨H12, q1, q2, q3, q4⟩ := hset.again hm
      refine ⟨_, H12, q1, q2, q4, ?_, ?_, ?_⟩
      · rw [addS_at j (by simpa using hj) (by simp [Chn.m]) (by rw [m_keys]; exact h.st.keys), List.map_set]
        simp [Chn.m, h5]
      · rintro b (rfl | rfl | ⟨c, hc, hb⟩)
        · exact .inl (.inl rfl)
        · exact .inl (.inr (.inl rfl))
        · obtain ⟨i, hi, rfl⟩ := List.getElem_of_mem hc
          have hi' : i < cs.length := by simpa using hi
          rw [List.getElem_set] at hb
          split at hb
          · rcases hb with (rfl | hb) | ⟨u, hu, hb⟩
            · exact .inl (.inr (.inr ⟨_, List.getElem_mem hj, .inl (.inl rfl)⟩))
            · rcases f8 b hb with hb | hb
              · exact .inl (.inr (.inr ⟨_, List.getElem_mem hj, .inl (.inr hb)⟩))
              · exact .inr (Nat.le_trans hk07.size hb)
            · rcases List.mem_append.1 hu with hu | hu
              · exact .inl (.inr (.inr ⟨_, List.getElem_mem hj, .inr ⟨u, hu, hb⟩⟩))
              · simp only [ncV_ptr, faV_ptr, rdv_ptr, Nat.zero_add, List.mem_singleton] at hu; subst hu
                have := hxf b hb; have := k5.size; have := k2.size; have := k1.size
                exact .inr (by omega)
          · exact .inl (.inr (.inr ⟨_, List.getElem_mem hi', hb⟩))
      · exact fun b hb => .inl (.inr (.inr ⟨_, List.getElem_mem hj, .inl hb⟩))
    · subst n2 n3
      have hg : getS (cs.map Chn.m) k = [] := getS_none (m_none n1)
      rw [hg] at ch8
      have hC : H.size ≤ C := by have := k2.size; have := k1.size; omega
      have h8 := h7.st.keep k8 fun b hb hm => by
        have := hlt b hb
        rcases hm with hm | hm
        · omega
        · exact ob_nil hm
      have hCF : ∀ b, chF C w ([] ++ [x]) b → H.size ≤ b ∧ b < H8.size := by
        rintro b ((rfl | hb) | ⟨u, hu, hb⟩)
        · exact ⟨hC, lt_of_get ch8.blk⟩
        · rcases f8 b hb with hb' | hb'
          · exact (ob_nil hb').elim
          · exact ⟨Nat.le_trans hk07.size hb', ch8.own.lt hb⟩
        · simp only [ncV_ptr, faV_ptr, rdv_ptr, Nat.zero_add, List.nil_append, List.mem_singleton] at hu; subst hu
          have := hxf b hb; have := k5.size; have := k2.size; have := k1.size
          exact ⟨by omega, k8.lt (o7.lt hb)⟩
      obtain ⟨H12, q1, q2, q3, q4⟩ := h8.addC (c := ⟨k, C, w, [] ++ [⟨stamp, bs, dead⟩], [] ++ [x]⟩) ch8 (fun b hb => ⟨fun hf => by have := hlt b hf; have := (hCF b hb).1; omega, (hCF b hb).2⟩) n1
      refine ⟨_, H12, q1, q2, q4, ?_, ?_, ?_⟩
      · rw [addS_none (m_none n1)]; simp [Chn.m]
      · rintro b (rfl | rfl | ⟨c, hc, hb⟩)
        · exact .inl (.inl rfl)
        · exact .inl (.inr (.inl rfl))
        · rcases List.mem_append.1 hc with hc | hc
          · exact .inl (.inr (.inr ⟨c, hc, hb⟩))
          · simp only [ncV_ptr, faV_ptr, rdv_ptr, Nat.zero_add, List.mem_singleton] at hc; subst hc
            exact .inr (hCF b hb).1
      · rintro b (rfl | hb)
        · exact .inr hC
        · exact (ob_nil hb).elim
  obtain ⟨cs', H12, q1, q2, q3, q4, q5, q6⟩ := put
  have hMH : H.size ≠ M := by have := h.st.map.lt; omega
  have hb12 := q2.at hb8 hMH
  have r12 : rdc H12 H.size 0 = some (.string k) := by rw [rdc_of hb12]; rfl
  have rS12 : rdc H12 S 1 = some (.int .i64 (liveS (cs.map Chn.m))) := by rw [rdc_of q3.blk]; rfl
  have hg' : getS (cs'.map Chn.m) k = getS (cs.map Chn.m) k ++ [⟨stamp, bs, dead⟩] := by rw [q4, getS_add]
  simp only [ncV_ptr, faV_ptr, rdv_ptr, Nat.zero_add, q1, rS12, r12, Gt_some]
  have hw' : ∀ l ∈ getS (cs.map Chn.m) k ++ [(⟨stamp, bs, dead⟩ : Link)], l.val.length ≤ 4096 := fun l hl => by
    rcases List.mem_append.1 hl with hl | hl
    · exact hml l hl
    · simp only [ncV_ptr, faV_ptr, rdv_ptr, Nat.zero_add, List.mem_singleton] at hl; subst hl; exact hb
  refine ⟨c271g q3 (by rw [hg']; simp; omega) (by rw [hg']; exact hw') hk.2 fun H13 k13 => ?_⟩
  rw [hg']
  have q3' := q3.keep k13 fun _ _ h => h
  have rS13 : rdc H13 S 1 = some (.int .i64 (liveS (cs.map Chn.m))) := by rw [rdc_of q3'.blk]; rfl
  have w1 := wgt_fit hk.2 hml
  have w2 := wgt_fit hk.2 hw'
  have hla := liveS_add (cs.map Chn.m) k ⟨stamp, bs, dead⟩
  have e1 : IntKind.i64.wrap (wgt k (getS (cs.map Chn.m) k ++ [⟨stamp, bs, dead⟩]) - wgt k (getS (cs.map Chn.m) k)) = wgt k (getS (cs.map Chn.m) k ++ [⟨stamp, bs, dead⟩]) - wgt k (getS (cs.map Chn.m) k) := i64_in _ (by omega)
  have e2 : IntKind.i64.wrap (liveS (cs.map Chn.m) + (wgt k (getS (cs.map Chn.m) k ++ [⟨stamp, bs, dead⟩]) - wgt k (getS (cs.map Chn.m) k))) = liveS (cs'.map Chn.m) := by rw [q4, hla]; exact i64_in _ (by omega)
  have e3 := stV1 (o := 1) (v := .int .i64 (liveS (cs'.map Chn.m))) q3'.blk (by simp) rfl rfl
  simp only [ncV_ptr, faV_ptr, rdv_ptr, Nat.zero_add, rS13, Sm_some, binI_sub, e1, Gt_some, binI_add, e2, e3]
  have hset := q3'.setLive (l2 := liveS (cs'.map Chn.m)) rfl
  have kS : Keep (stF S M cs) H13 (H13.setIfInBounds S (.cells #[.map (some M), .int .i64 (liveS (cs'.map Chn.m))] 167 (0, 0))) := .set (.inl rfl)
  refine hR cs' _ ?_ q5 q4 ⟨hset, fun c hc => ?_⟩
  · have kA : Keep (stF S M cs) H H8 := (hk07.mono (M' := stF S M cs) fun _ _ h => h.elim).trans' k8 q6
    exact ((kA.trans (q2.mono fun b _ e => .inr (.inl e))).trans (k13.mono fun _ _ h => h.elim)).trans kS
  · have : c.m ∈ addS (cs.map Chn.m) k ⟨stamp, bs, dead⟩ := q4 ▸ List.mem_map.2 ⟨c, hc, rfl⟩
    rcases addS_mem this with hm | ⟨hm1, hm2⟩
    · obtain ⟨d, hd, he⟩ := List.mem_map.1 hm
      have e1 : d.key = c.key := congrArg Prod.fst he
      have e2 : d.ls = c.ls := congrArg Prod.snd he
      have := h.fit d hd
      rw [e1, e2] at this; exact this
    · have hm1 : c.key = k := hm1
      have hm2 : c.ls = getS (cs.map Chn.m) k ++ [⟨stamp, bs, dead⟩] := hm2
      rw [hm1, hm2]
      exact ⟨hk, by simp; omega, hw'⟩
end Go.Proofs.YtdoimhpmnmmffaaGreat

/- Contracts: the newest stamp of a key; a vector of what clocks say. No condition but those in each statement. -/
namespace Go.Proofs.YtdoimhpmnmmffaaGreat
open Go IntWalk
variable {H : Heap} {R : Value → Heap → Prop} {X : List PanicEntry → Heap → Prop}

def nwS (ls : List Link) : Int × Bool := match ls.getLast? with
  | some l => (l.stamp, true)
  | none => (0, false)
theorem c298 {S M : Nat} {cs : List Chn} (h : SoRep H S M cs) {k : ByteArray}
    (hR : ∀ H', Keep no H H' → R (.tuple #[.int .i64 (nwS (getS (cs.map Chn.m) k)).1, .bool (nwS (getS (cs.map Chn.m) k)).2]) H') : Runs Tryz.prog 298 [.pointer (some ⟨S, 0, none⟩), .string k] H R X := by
  have tail : ∀ (lk : Value) (t : Bool) (H2 : Heap) (s : Int) (u : Value) (d : Bool), lk = .agg #[.int .i64 s, u, .bool d] → u.oneCell' = true → Keep no H H2 → (∀ H', Keep no H H' → R (.tuple #[.int .i64 s, .bool t]) H') →
      Gt (exV 0 (.tuple #[lk, .bool t])) fun x13 =>
      Gt (exV 1 (.tuple #[lk, .bool t])) fun x14 =>
      Nw (.cells z194.cells 194 (0, 0)) H2 fun b6 H3 =>
      Gt (stV 3 (.pointer (some ⟨b6, 0, none⟩)) x13 H3) fun H4 =>
      Gt (faV 0 (.pointer (some ⟨b6, 0, none⟩))) fun x15 =>
      Gt (rdv x15 H4) fun x16 =>
      R (.tuple #[x16, x14]) H4 := by
    intro lk t H2 s u d hlk hu k2 hr
    subst hlk
    have e2 : stV 3 (.pointer (some ⟨H2.size, 0, none⟩)) (.agg #[.int .i64 s, u, .bool d]) (H2.push (.cells z194.cells 194 (0, 0))) = some ((H2.push (.cells z194.cells 194 (0, 0))).setIfInBounds H2.size (.cells #[.int .i64 s, u, .bool d] 194 (0, 0))) := by
      rw [stV_of get_push_eq (by rfl) (by decide) (by decide) (by simp only [Value.cells, List.all_cons, List.all_nil, hu]; rfl)]; rfl
    generalize hH4 : (H2.push (.cells z194.cells 194 (0, 0))).setIfInBounds H2.size (.cells #[.int .i64 s, u, .bool d] 194 (0, 0)) = H4 at e2
    have hb4 : H4[H2.size]? = some (.cells #[.int .i64 s, u, .bool d] 194 (0, 0)) := by rw [← hH4]; exact get_set_eq (by simp)
    have k4 : Keep no H2 H4 := by
      rw [← hH4]
      exact ⟨by simp, fun b hb _ => (get_set_ne (by omega)).trans (get_push_lt hb)⟩
    have r0 : rdc H4 H2.size 0 = some (.int .i64 s) := by rw [rdc_of hb4]; rfl
    have x0 : exV 0 (.tuple #[.agg #[.int .i64 s, u, .bool d], .bool t]) = some (.agg #[.int .i64 s, u, .bool d]) := rfl
    have x1 : exV 1 (.tuple #[.agg #[.int .i64 s, u, .bool d], .bool t]) = some (.bool t) := rfl
    simp only [x0, x1, Gt_some, Nw_iff, e2, faV_ptr, rdv_ptr, Nat.zero_add, r0]
    exact hr H4 (k2.trans k4)
  refine l298 ⟨c93 h.st (fun hN => ?_) fun c hc he => ?_⟩
  · rw [getS_none (m_none hN)] at hR
    exact ⟨c299n fun H2 k2 => tail zlk false H2 0 (.slice none 0 0) false rfl rfl k2 hR⟩
  · have hg := m_at h.st.keys hc
    rw [he] at hg
    rw [hg] at hR
    have hf := h.fit c hc
    refine ⟨c299 (h.st.ch c hc) hf.2.1 (fun hz H2 k2 => ?_) fun j hj hj1 H2 k2 => ?_⟩
    · have hnil : c.ls = [] := List.eq_nil_of_length_eq_zero hz
      rw [hnil] at hR
      exact tail zlk false H2 0 (.slice none 0 0) false rfl rfl k2 hR
    · have hv := (h.st.ch c hc).vals j hj
      have hl : c.ls.getLast? = some c.ls[j] := by
        rw [List.getLast?_eq_getElem?, show c.ls.length - 1 = j by omega, List.getElem?_eq_getElem hj]
      simp only [nwS, hl] at hR
      exact tail (lkA c.ls[j] _) true H2 c.ls[j].stamp _ c.ls[j].dead rfl hv.one.2 k2 hR

/-! ### vectors -/
theorem iv_set {b n c : Nat} {t : Nat} {vs : List Int} (h : H[b]? = some (.cells (vs.map iv).toArray t (0, 0))) (hn : n = vs.length) {i : Nat} (hi : i < vs.length) {x : Int} :
    ∃ p, iaV 1 (.slice (some ⟨b, 0, none⟩) n c) (.int .i64 i) = some p ∧ stV 1 p (iv x) H = some (H.setIfInBounds b (.cells ((vs.set i x).map iv).toArray t (0, 0))) := by
  subst hn
  refine ⟨.pointer (some ⟨b, 0 + i * 1, none⟩), ?_, ?_⟩
  · simp only [iaV]; rw [if_pos (by omega)]; simp
  · rw [stV1 h (by simpa using hi) rfl rfl]
    congr 3
    apply Array.ext'
    simp [List.map_set]
theorem iv_get {b n c : Nat} {t : Nat} {vs : List Int} (h : H[b]? = some (.cells (vs.map iv).toArray t (0, 0))) (hn : n = vs.length) {i : Nat} (hi : i < vs.length) :
    ∃ p, iaV 1 (.slice (some ⟨b, 0, none⟩) n c) (.int .i64 i) = some p ∧ rdv p H = some (iv vs[i]) := by
  subst hn
  refine ⟨.pointer (some ⟨b, 0 + i * 1, none⟩), ?_, ?_⟩
  · simp only [iaV]; rw [if_pos (by omega)]; simp
  · rw [rdv_ptr, rdc_of h]; simp [hi]
theorem mkC_rep {v : Value} {n : Nat} (hv : v.cells = #[v]) : (mkC 1 v n).toList = List.replicate n v := by
  unfold mkC
  rw [hv]
  apply List.ext_getElem
  · simp
  · intro i h1 h2
    simp [Nat.mod_one]
theorem mkC_iv {n : Nat} : mkC 1 z3 n = ((List.replicate n (0 : Int)).map iv).toArray := by
  apply Array.ext'
  rw [mkC_rep rfl]; simp [z3, iv]

/-- pointers that are read -/
def ptV : Option Nat → Value
  | some b => .pointer (some ⟨b, 0, none⟩)
  | none => .pointer none
def PtSl (H : Heap) (x : Value) (ps : List (Option Nat)) : Prop := SlC H x 1 (ps.map fun p => [ptV p])
def IvSl (H : Heap) (x : Value) (ds : List Int) : Prop := SlC H x 1 (ds.map fun d => [iv d])
theorem PtSl.len {x : Value} {ps : List (Option Nat)} (h : PtSl H x ps) : lnV x = some (.int .i64 ps.length) := by
  have := SlC.len h; simpa using this
theorem IvSl.len {x : Value} {ps : List Int} (h : IvSl H x ps) : lnV x = some (.int .i64 ps.length) := by
  have := SlC.len h; simpa using this
theorem PtSl.at {x : Value} {ps : List (Option Nat)} (h : PtSl H x ps) {j : Nat} (hj : j < ps.length) : ∃ p, iaV 1 x (.int .i64 j) = some p ∧ rdv p H = some (ptV ps[j]) := SlC.at1 h (by simpa using hj) (by simp)
theorem IvSl.at {x : Value} {ps : List Int} (h : IvSl H x ps) {j : Nat} (hj : j < ps.length) : ∃ p, iaV 1 x (.int .i64 j) = some p ∧ rdv p H = some (iv ps[j]) := SlC.at1 h (by simpa using hj) (by simp)
theorem PtSl.keep {M : Nat → Prop} {H' : Heap} {x : Value} {ps : List (Option Nat)} (h : PtSl H x ps) (k : Keep M H H') (hm : ∀ b, ob x b → ¬ M b) : PtSl H' x ps := SlC.keep h k hm
theorem IvSl.keep {M : Nat → Prop} {H' : Heap} {x : Value} {ps : List Int} (h : IvSl H x ps) (k : Keep M H H') (hm : ∀ b, ob x b → ¬ M b) : IvSl H' x ps := SlC.keep h k hm

/-- what the clocks at some places say -/
def takeL (ps : List (Option Nat)) (now : Nat → Int) : List Int → List Int → List Int
  | vs, [] => vs
  | vs, d :: ds => takeL ps now (match ps[d.toNat]? with
    | some (some b) => vs.set d.toNat (now b)
    | _ => vs) ds
theorem takeL_len {ps : List (Option Nat)} {now : Nat → Int} : ∀ {ds vs : List Int}, (takeL ps now vs ds).length = vs.length
  | [], _ => rfl
  | d :: ds, vs => by
    rw [takeL, takeL_len]
    split <;> simp
def TkI (H : Heap) (b n : Nat) (y : Value) (H1 : Heap) : Prop := ∃ k, k ≤ n ∧ y = .int .i64 k ∧ Keep (fun c => c = b) H H1 ∧ H1[b]? = some (.cells ((List.replicate k (-1) ++ List.replicate (n - k) (0 : Int)).map iv).toArray 3 (0, 0))
def TkJ (H : Heap) (b : Nat) (ps : List (Option Nat)) (now : Nat → Int) (ds : List Int) (y : Value) (H1 : Heap) : Prop :=
  ∃ (k : Nat) (vs : List Int), k ≤ ds.length ∧ y = .int .i64 k ∧ vs.length = ps.length ∧ takeL ps now vs (ds.drop k) = takeL ps now (List.replicate ps.length (-1)) ds ∧ Keep (fun c => c = b) H H1 ∧ H1[b]? = some (.cells (vs.map iv).toArray 3 (0, 0))
theorem c130 {x y : Value} {ps : List (Option Nat)} {ds : List Int} {now : Nat → Int} (hx : PtSl H x ps) (hy : IvSl H y ds) (hp : ps.length ≤ 1048576) (hds : ds.length ≤ 1048576) (hd : ∀ d ∈ ds, 0 ≤ d ∧ d < ps.length) (hc : ∀ b, some b ∈ ps → ∃ w, H[b]? = some (ckO (now b) w))
    (hR : ∀ b H', Keep no H H' → H.size ≤ b → H'[b]? = some (.cells ((takeL ps now (List.replicate ps.length (-1)) ds).map iv).toArray 3 (0, 0)) → R (.slice (some ⟨b, 0, none⟩) ps.length ps.length) H') : Runs Tryz.prog 130 [x, y] H R X := by
  refine l130 ?_
  unfold i130
  have em : mkV 8 (.int .i64 ps.length) (.int .i64 ps.length) = some (ps.length, ps.length) := by
    simp only [mkV]; rw [if_pos (by omega)]; simp
  simp only [hx.len, Gt_some, em, Nw_iff, lnV_slice, mkC_iv]
  generalize hH1 : H.push (.cells ((List.replicate ps.length (0 : Int)).map iv).toArray 3 (0, 0)) = H1
  have hb1 : H1[H.size]? = some (.cells ((List.replicate ps.length (0 : Int)).map iv).toArray 3 (0, 0)) := by rw [← hH1]; exact get_push_eq
  have k1 : Keep no H H1 := by rw [← hH1]; exact .push
  refine ⟨fun (y : Value) (H2 : Heap) => TkI H1 H.size ps.length y H2, fun (y : Value) (_ : Heap) => decr ps.length y, ⟨0, by omega, rfl, .refl _, by simpa using hb1⟩, ?_⟩
  rintro H2 _ ⟨k, hk, rfl, k2, hb2⟩
  simp only [binI_lss, Gt_some, If_iff, decide_eq_true_eq, decide_eq_false_iff_not]
  refine ⟨fun hlt => ?_, fun hge => ?_⟩
  · have hlt : k < ps.length := by omega
    obtain ⟨p, q1, q2⟩ := iv_set (n := ps.length) (c := ps.length) hb2 (by simp; omega) (i := k) (by simp; omega) (x := -1)
    have e6 : IntKind.i64.wrap ((k : Int) + 1) = ((k + 1 : Nat) : Int) := by rw [i64_in _ (by omega)]; rfl
    simp only [iv] at q2
    simp only [q1, Gt_some, q2, binI_add, e6]
    refine ⟨⟨k + 1, by omega, rfl, k2.trans (.set rfl), ?_⟩, decr_lt hlt⟩
    rw [get_set_eq (lt_of_get hb2)]
    congr 3
    have h1 : ps.length - k = (ps.length - (k + 1)) + 1 := by omega
    rw [h1, List.replicate_succ, List.set_append_right _ _ (by simp)]
    simp [List.replicate_succ', iv]
  · have hke : k = ps.length := by omega
    subst hke
    simp only [Nat.sub_self, List.replicate_zero, List.append_nil] at hb2
    simp only [hy.len, Gt_some]
    refine ⟨fun (y : Value) (H2 : Heap) => TkJ H1 H.size ps now ds y H2, fun (y : Value) (_ : Heap) => decr ds.length y, ⟨0, List.replicate ps.length (-1), by omega, rfl, by simp, rfl, k2, hb2⟩, ?_⟩
    rintro H3 _ ⟨k, vs, hk, rfl, hvl, hvs, k3, hb3⟩
    have k03 : Keep no H H3 := k1.trans' k3 fun b hb => .inr (by omega)
    simp only [binI_lss, Gt_some, If_iff, decide_eq_true_eq, decide_eq_false_iff_not]
    refine ⟨fun hlt => ?_, fun hge => ?_⟩
    · have hlt : k < ds.length := by omega
      have hy3 := hy.keep k03 fun _ _ h => h
      have hx3 := hx.keep k03 fun _ _ h => h
      obtain ⟨p, q1, q2⟩ := hy3.at hlt
      have hdk := hd ds[k] (List.getElem_mem hlt)
      have e6 : IntKind.i64.wrap ((k : Int) + 1) = ((k + 1 : Nat) : Int) := by rw [i64_in _ (by omega)]; rfl
      obtain ⟨d, hdn⟩ : ∃ d : Nat, ds[k] = d := ⟨ds[k].toNat, by omega⟩
      have hdr : ds.drop k = ds[k] :: ds.drop (k + 1) := List.drop_eq_getElem_cons hlt
      rw [hdr, takeL, hdn, Int.toNat_natCast] at hvs
      rw [hdn] at hdk
      have hdp : d < ps.length := by omega
      rw [List.getElem?_eq_getElem hdp] at hvs
      obtain ⟨p', q3, q4⟩ := hx3.at hdp
      have e7 : decide ((d : Int) ≥ 0) = true := by simp
      have e8 : decide ((d : Int) < (ps.length : Nat)) = true := by simp; omega
      simp only [q1, q2, iv, hdn, Gt_some, binI_geq, binI_lss, hx.len, e7, Option.bind_some, ifO_true, e8, q3, q4]
      cases hpd : ps[d] with
      | none =>
        rw [hpd] at hvs
        simp only [ptV, ptrEq_nil_r, Option.isNone_none, Option.map_some, Bool.not_true, Option.bind_some, ifO_true, Gt_some, If_false, binI_add, e6, q3, q4, hpd]
        exact ⟨⟨k + 1, vs, by omega, rfl, hvl, hvs, k3, hb3⟩, decr_lt hlt⟩
      | some b =>
        rw [hpd] at hvs
        obtain ⟨w, hbw⟩ := hc b (hpd ▸ List.getElem_mem hdp)
        have hbw3 := k03.at hbw fun h => h
        simp only [ptV, ptrEq_nil_r, Option.isNone_some, Option.map_some, Bool.not_false, Option.bind_some, ifO_true, Gt_some, If_true, q3, q4, hpd]
        refine ⟨c60 hbw3 ?_⟩
        obtain ⟨p'', q5, q6⟩ := iv_set (n := ps.length) (c := ps.length) hb3 hvl.symm (i := d) (by omega) (x := now b)
        simp only [iv] at q6
        simp only [q5, Gt_some, q6, binI_add, e6]
        refine ⟨⟨k + 1, vs.set d (now b), by omega, rfl, by simpa using hvl, hvs, k3.trans (.set rfl), ?_⟩, decr_lt hlt⟩
        rw [get_set_eq (lt_of_get hb3)]
    · have : k = ds.length := by omega
      subst this
      simp only [List.drop_length, takeL] at hvs
      subst hvs
      exact hR H.size H3 k03 (Nat.le_refl _) hb3
end Go.Proofs.YtdoimhpmnmmffaaGreat

/- Maps whose keys are numbers: looking up, laying in, taking away. No condition but those in each statement. -/
namespace Go.Proofs.YtdoimhpmnmmffaaGreat
open Go IntWalk
variable {H : Heap} {R : Value → Heap → Prop} {X : List PanicEntry → Heap → Prop}

def MiE (es : List MapEntry) (kvs : List (Int × Value)) : Prop := es.map (fun e => (e.key, e.val)) = kvs.map fun p => (iv p.1, p.2)
theorem find_int : ∀ (es : List MapEntry) (kvs : List (Int × Value)) (i : Nat) (k : Int), MiE es kvs →
    (Instr.findNow (.int .i64) (iv k) es i = some none ∧ ∀ p ∈ kvs, p.1 ≠ k) ∨ ∃ (j : Nat) (h : j < kvs.length), kvs[j].1 = k ∧ (∀ p ∈ kvs.take j, p.1 ≠ k) ∧ Instr.findNow (.int .i64) (iv k) es i = some (some (i + j, kvs[j].2))
  | [], [], i, k, _ => .inl ⟨rfl, fun _ h => by cases h⟩
  | [], _ :: _, _, _, h => by simp [MiE] at h
  | _ :: _, [], _, _, h => by simp [MiE] at h
  | e :: es, p :: kvs, i, k, h => by
    simp only [MiE, List.map_cons, List.cons.injEq, Prod.mk.injEq] at h
    obtain ⟨⟨h1, h2⟩, h3⟩ := h
    have hs : Instr.sameNow (.int .i64) (iv k) e.key = some (k == p.1) := by rw [h1]; simp [Instr.sameNow, iv]
    simp only [Instr.findNow, hs]
    by_cases hk : k = p.1
    · have : (k == p.1) = true := by simpa using hk
      simp only [this]
      exact .inr ⟨0, by simp, hk.symm, by simp, by simp [h2]⟩
    · have : (k == p.1) = false := by simpa using hk
      simp only [this]
      rcases find_int es kvs (i + 1) k h3 with ⟨h4, h5⟩ | ⟨j, hj, h4, h6, h5⟩
      · refine .inl ⟨h4, fun q hq => ?_⟩
        rcases List.mem_cons.1 hq with rfl | hq
        · exact fun e => hk e.symm
        · exact h5 q hq
      · refine .inr ⟨j + 1, by simp; omega, by simpa using h4, fun q hq => ?_, ?_⟩
        · simp only [List.take_succ_cons] at hq
          rcases List.mem_cons.1 hq with rfl | hq
          · exact fun e => hk e.symm
          · exact h6 q hq
        · rw [h5]; simp; omega

/-- a map at block M -/
structure MiRep (H : Heap) (M : Nat) (kvs : List (Int × Value)) : Prop where
  blk : ∃ es clock, H[M]? = some (.map es clock) ∧ MiE es.toList kvs
theorem MiRep.keep {N : Nat → Prop} {H H' : Heap} {M : Nat} {kvs : List (Int × Value)} (h : MiRep H M kvs) (k : Keep N H H') (hm : ¬ N M) : MiRep H' M kvs := by
  obtain ⟨es, c, h1, h2⟩ := h.blk
  exact ⟨es, c, k.at h1 hm, h2⟩
theorem MiRep.lt {H : Heap} {M : Nat} {kvs : List (Int × Value)} (h : MiRep H M kvs) : M < H.size := by
  obtain ⟨es, c, h1, h2⟩ := h.blk
  exact lt_of_get h1
theorem MiRep.new {H : Heap} : MiRep (H.push (.map #[] 0)) H.size [] := ⟨#[], 0, get_push_eq, rfl⟩
def getI : List (Int × Value) → Int → Option Value
  | [], _ => none
  | p :: r, k => if p.1 = k then some p.2 else getI r k
def delI : List (Int × Value) → Int → List (Int × Value)
  | [], _ => []
  | p :: r, k => if p.1 = k then r else p :: delI r k
theorem getI_none : ∀ {m : List (Int × Value)} {k : Int}, (∀ p ∈ m, p.1 ≠ k) → getI m k = none
  | [], _, _ => rfl
  | p :: r, k, h => by
    rw [getI, if_neg (h p (List.mem_cons_self ..)), getI_none fun y hy => h y (List.mem_cons_of_mem _ hy)]
theorem getI_at : ∀ {m : List (Int × Value)} (j : Nat) (hj : j < m.length) {k : Int}, m[j].1 = k → (∀ p ∈ m.take j, p.1 ≠ k) → getI m k = some m[j].2
  | p :: r, 0, _, k, h, _ => by
    have h : p.1 = k := h
    simp [getI, h]
  | p :: r, j + 1, hj, k, h, hn => by
    simp only [List.take_succ_cons] at hn
    simp only [List.getElem_cons_succ] at h
    rw [getI, if_neg (hn p (List.mem_cons_self ..)), getI_at j (by simpa using hj) h fun y hy => hn y (List.mem_cons_of_mem _ hy)]; rfl
theorem delI_none : ∀ {m : List (Int × Value)} {k : Int}, (∀ p ∈ m, p.1 ≠ k) → delI m k = m
  | [], _, _ => rfl
  | p :: r, k, h => by
    rw [delI, if_neg (h p (List.mem_cons_self ..)), delI_none fun y hy => h y (List.mem_cons_of_mem _ hy)]
theorem delI_at : ∀ {m : List (Int × Value)} (j : Nat) (hj : j < m.length) {k : Int}, m[j].1 = k → (∀ p ∈ m.take j, p.1 ≠ k) → delI m k = m.eraseIdx j
  | p :: r, 0, _, k, h, _ => by
    have h : p.1 = k := h
    simp [delI, h]
  | p :: r, j + 1, hj, k, h, hn => by
    simp only [List.take_succ_cons] at hn
    simp only [List.getElem_cons_succ] at h
    rw [delI, if_neg (hn p (List.mem_cons_self ..)), delI_at j (by simpa using hj) h fun y hy => hn y (List.mem_cons_of_mem _ hy)]; rfl
/-- m[k] -/
theorem MiRep.get {H : Heap} {M : Nat} {kvs : List (Int × Value)} (h : MiRep H M kvs) (z : Value) (k : Int) :
    lkV (.int .i64) z true (.map (some M)) (.int .i64 k) H = some (.tuple #[(getI kvs k).getD z, .bool (getI kvs k).isSome]) := by
  obtain ⟨es, c, h1, h2⟩ := h.blk
  rcases find_int es.toList kvs 0 k h2 with ⟨h4, h5⟩ | ⟨j, hj, h4, h6, h5⟩
  · rw [getI_none h5]
    simp only [iv] at h4
    simp only [lkV, h1, h4]; rfl
  · rw [getI_at j hj h4 h6]
    simp only [iv] at h5
    simp only [lkV, h1, h5]; rfl
/-- m[k] = v of a key that is not there -/
theorem MiRep.put {H : Heap} {M : Nat} {kvs : List (Int × Value)} (h : MiRep H M kvs) {k : Int} (v : Value) (hn : ∀ p ∈ kvs, p.1 ≠ k) :
    ∃ H', muV (.int .i64) (.map (some M)) (.int .i64 k) v H = some H' ∧ Keep (fun b => b = M) H H' ∧ H'.size = H.size ∧ MiRep H' M (kvs ++ [(k, v)]) := by
  obtain ⟨es, c, h1, h2⟩ := h.blk
  have hlt := lt_of_get h1
  rcases find_int es.toList kvs 0 k h2 with ⟨h4, h5⟩ | ⟨j, hj, h4, _⟩
  · simp only [iv] at h4
    refine ⟨_, by simp only [muV, h1, h4]; rfl, .set rfl, by simp, ⟨_, _, get_set_eq hlt, ?_⟩⟩
    unfold MiE at h2 ⊢; simp [h2, iv]
  · exact absurd h4 (hn _ (List.getElem_mem hj))
theorem map_erase {α β : Type} (f : α → β) : ∀ (l : List α) (j : Nat), (l.eraseIdx j).map f = (l.map f).eraseIdx j
  | [], _ => rfl
  | _ :: _, 0 => rfl
  | a :: l, j + 1 => by simp [map_erase f l j]
/-- delete(m, k) -/
theorem MiRep.del {H : Heap} {M : Nat} {kvs : List (Int × Value)} (h : MiRep H M kvs) (k : Int) :
    ∃ H', dlV (.int .i64) (.map (some M)) (.int .i64 k) H = some H' ∧ Keep (fun b => b = M) H H' ∧ H'.size = H.size ∧ MiRep H' M (delI kvs k) := by
  obtain ⟨es, c, h1, h2⟩ := h.blk
  have hlt := lt_of_get h1
  rcases find_int es.toList kvs 0 k h2 with ⟨h4, h5⟩ | ⟨j, hj, h4, h6, h5⟩
  · simp only [iv] at h4
    rw [delI_none h5]
    exact ⟨_, by simp only [dlV, h1, h4]; rfl, .set rfl, by simp, ⟨_, _, get_set_eq hlt, h2⟩⟩
  · simp only [iv] at h5
    rw [delI_at j hj h4 h6]
    refine ⟨_, by simp only [dlV, h1, h5]; rfl, .set rfl, by simp, ⟨_, _, get_set_eq hlt, ?_⟩⟩
    have hlen : es.toList.length = kvs.length := by have := congrArg List.length h2; simpa using this
    unfold MiE at h2 ⊢
    rw [Nat.zero_add, Array.toList_eraseIdxIfInBounds, map_erase, h2, map_erase]
end Go.Proofs.YtdoimhpmnmmffaaGreat

/- Contracts of the package table. No condition but those in each statement. -/
namespace Go.Proofs.YtdoimhpmnmmffaaGreat
open Go IntWalk
variable {H : Heap} {R : Value → Heap → Prop} {X : List PanicEntry → Heap → Prop}

abbrev MI := Nat × List (Int × Value)
def mpV (m : MI) : Value := .map (some m.1)
structure TbRep (H : Heap) (T : Nat) (life : Int) (A G : Nat) (ms : List MI) (gs : List Int) : Prop where
  blk : H[T]? = some (.cells #[iv life, .slice (some ⟨A, 0, none⟩) ms.length ms.length, .slice (some ⟨G, 0, none⟩) ms.length ms.length] 244 (0, 0))
  len : gs.length = ms.length
  ses : H[A]? = some (.cells (ms.map mpV).toArray 246 (0, 0))
  giv : H[G]? = some (.cells (gs.map iv).toArray 3 (0, 0))
  maps : ∀ m ∈ ms, MiRep H m.1 m.2
  nd : (ms.map (·.1)).Nodup
def tbF (T A G : Nat) (ms : List MI) (b : Nat) : Prop := b = T ∨ b = A ∨ b = G ∨ b ∈ ms.map (·.1)
section
variable {T A G : Nat} {life : Int} {ms : List MI} {gs : List Int}
theorem TbRep.TA (h : TbRep H T life A G ms gs) : T ≠ A := fun e => by
  have := h.blk; rw [e, h.ses] at this; simp at this
theorem TbRep.TG (h : TbRep H T life A G ms gs) : T ≠ G := fun e => by
  have := h.blk; rw [e, h.giv] at this; simp at this
theorem TbRep.AG (h : TbRep H T life A G ms gs) : A ≠ G := fun e => by
  have := h.ses; rw [e, h.giv] at this; simp at this
theorem TbRep.mne (h : TbRep H T life A G ms gs) {b : Nat} (hb : b ∈ ms.map (·.1)) : b ≠ T ∧ b ≠ A ∧ b ≠ G := by
  obtain ⟨m, hm, rfl⟩ := List.mem_map.1 hb
  obtain ⟨es, c, h1, _⟩ := (h.maps m hm).blk
  refine ⟨fun e => ?_, fun e => ?_, fun e => ?_⟩
  · have := h.blk; rw [← e, h1] at this; simp at this
  · have := h.ses; rw [← e, h1] at this; simp at this
  · have := h.giv; rw [← e, h1] at this; simp at this
theorem TbRep.lt (h : TbRep H T life A G ms gs) : ∀ b, tbF T A G ms b → b < H.size := by
  rintro b (rfl | rfl | rfl | hb)
  · exact lt_of_get h.blk
  · exact lt_of_get h.ses
  · exact lt_of_get h.giv
  · obtain ⟨m, hm, rfl⟩ := List.mem_map.1 hb
    exact (h.maps m hm).lt
theorem TbRep.keep {N : Nat → Prop} {H' : Heap} (h : TbRep H T life A G ms gs) (k : Keep N H H') (hm : ∀ b, tbF T A G ms b → ¬ N b) : TbRep H' T life A G ms gs :=
  ⟨k.at h.blk (hm _ (.inl rfl)), h.len, k.at h.ses (hm _ (.inr (.inl rfl))), k.at h.giv (hm _ (.inr (.inr (.inl rfl)))), fun m hm' => (h.maps m hm').keep k (hm _ (.inr (.inr (.inr (List.mem_map.2 ⟨m, hm', rfl⟩))))), h.nd⟩
/-- a session's map changed -/
theorem TbRep.setM {H' : Heap} (h : TbRep H T life A G ms gs) {j : Nat} (hj : j < ms.length) {kvs : List (Int × Value)} (k : Keep (fun b => b = ms[j].1) H H') (hm : MiRep H' ms[j].1 kvs) : TbRep H' T life A G (ms.set j (ms[j].1, kvs)) gs := by
  have hmem : ms[j].1 ∈ ms.map (·.1) := List.mem_map.2 ⟨_, List.getElem_mem hj, rfl⟩
  have hne := h.mne hmem
  have e1 : (ms.set j (ms[j].1, kvs)).map (·.1) = ms.map (·.1) := by
    rw [List.map_set]
    apply List.ext_getElem?
    intro i
    rw [List.getElem?_set]
    split
    · rename_i e; subst e; simp [hj]
    · rfl
  have e2 : (ms.set j (ms[j].1, kvs)).map mpV = ms.map mpV := by
    have : ∀ l : List MI, l.map mpV = (l.map (·.1)).map fun b => Value.map (some b) := fun l => by simp [mpV]
    rw [this, e1, ← this]
  refine ⟨by simpa using k.at h.blk (Ne.symm hne.1), by simpa using h.len, by rw [e2]; exact k.at h.ses (Ne.symm hne.2.1), k.at h.giv (Ne.symm hne.2.2), ?_, by rw [e1]; exact h.nd⟩
  intro m hm'
  obtain ⟨i, hi, rfl⟩ := List.getElem_of_mem hm'
  have hi' : i < ms.length := by simpa using hi
  rw [List.getElem_set]
  split
  · exact hm
  · rename_i e
    refine (h.maps _ (List.getElem_mem hi')).keep k fun e' => ?_
    have hn := List.pairwise_iff_getElem.1 h.nd
    rcases Nat.lt_or_gt_of_ne e with h1 | h1
    · exact hn j i (by simpa using hj) (by simpa using hi') h1 (by simp [e'])
    · exact hn i j (by simpa using hi') (by simpa using hj) h1 (by simp [e'])

theorem c132 (h : TbRep H T life A G ms gs) {s : Int} (hR : R (.bool (decide (s ≥ 0) && decide (s < ms.length))) H) : Runs Tryz.prog 132 [.pointer (some ⟨T, 0, none⟩), .int .i64 s] H R X := by
  refine l132 ?_
  unfold i132
  have r2 : rdc H T 2 = some (.slice (some ⟨G, 0, none⟩) ms.length ms.length) := by rw [rdc_of h.blk]; rfl
  simp only [binI_geq, Gt_some, ncV_ptr, Option.bind_some, faV_ptr, Nat.zero_add, rdv_ptr, r2, lnV_slice, binI_lss, ifO_and]
  exact hR
theorem mpV_get {b n c : Nat} {ms : List MI} (h : H[b]? = some (.cells (ms.map mpV).toArray 246 (0, 0))) (hn : n = ms.length) {i : Nat} (hi : i < ms.length) :
    ∃ p, iaV 1 (.slice (some ⟨b, 0, none⟩) n c) (.int .i64 i) = some p ∧ rdv p H = some (mpV ms[i]) := by
  subst hn
  refine ⟨.pointer (some ⟨b, 0 + i * 1, none⟩), ?_, ?_⟩
  · simp only [iaV]; rw [if_pos (by omega)]; simp
  · rw [rdv_ptr, rdc_of h]; simp [hi]
def hnV (l n : Int) : Value := .agg #[iv l, iv n]

theorem c131 (h : TbRep H T life A G ms gs) {j : Nat} (hj : j < ms.length) {v : Value} {g : Int} (hg : gs[j]? = some g) (hn : ∀ p ∈ ms[j].2, p.1 ≤ g) (hgb : 0 ≤ g ∧ g < 4611686018427387904)
    (hR : ∀ H', Keep (tbF T A G ms) H H' → TbRep H' T life A G (ms.set j (ms[j].1, ms[j].2 ++ [(g + 1, v)])) (gs.set j (g + 1)) → R (.tuple #[hnV life (g + 1), .int .i64 0]) H') : Runs Tryz.prog 131 [.pointer (some ⟨T, 0, none⟩), .int .i64 j, v] H R X := by
  refine l131 ?_
  unfold i131
  simp only [Nw_iff]
  have hz : z44.cells = #[.int .i64 0, .int .i64 0] := rfl
  generalize hH1 : H.push (.cells z44.cells 44 (0, 0)) = H1
  have hb1 : H1[H.size]? = some (.cells z44.cells 44 (0, 0)) := by rw [← hH1]; exact get_push_eq
  have k1 : Keep no H H1 := by rw [← hH1]; exact .push
  have h1 := h.keep k1 fun _ _ h => h
  have hlt := h.lt
  simp only [ptrEq_nil_r, Option.isNone_some, Option.map_some, Gt_some, If_false]
  refine ⟨c132 h1 ?_⟩
  have e1 : (decide ((j : Int) ≥ 0) && decide ((j : Int) < ms.length)) = true := by simp; omega
  have r1 : ∀ {H' : Heap} {ms' : List MI} {gs' : List Int}, TbRep H' T life A G ms' gs' → ms'.length = ms.length → rdc H' T 1 = some (.slice (some ⟨A, 0, none⟩) ms.length ms.length) ∧ rdc H' T 2 = some (.slice (some ⟨G, 0, none⟩) ms.length ms.length) ∧ rdc H' T 0 = some (iv life) := fun h' e => by
    refine ⟨?_, ?_, ?_⟩ <;> rw [rdc_of h'.blk] <;> simp [e]
  have hgl : j < gs.length := by rw [h.len]; exact hj
  have hgj : gs[j] = g := by rw [List.getElem?_eq_getElem hgl] at hg; exact Option.some.inj hg
  obtain ⟨p, q1, q2⟩ := iv_get (n := ms.length) (c := ms.length) h1.giv h.len.symm hgl
  have e2 : IntKind.i64.wrap (g + 1) = g + 1 := i64_in _ (by omega)
  obtain ⟨p', q3, q4⟩ := iv_set (n := ms.length) (c := ms.length) h1.giv h.len.symm hgl (x := g + 1)
  rw [q1] at q3; cases q3
  simp only [iv] at q2 q4
  rw [hgj] at q2
  simp only [e1, unV_not, Gt_some, Bool.not_true, If_false, ncV_ptr, faV_ptr, Nat.zero_add, rdv_ptr, (r1 h1 rfl).2.1, q1, q2, binI_add, e2, q4]
  generalize hH2 : H1.setIfInBounds G _ = H2
  have k2 : Keep (fun b => b = G) H1 H2 := by rw [← hH2]; exact .set rfl
  have hg2 : H2[G]? = some (.cells ((gs.set j (g + 1)).map iv).toArray 3 (0, 0)) := by rw [← hH2]; exact get_set_eq (lt_of_get h1.giv)
  have h2 : TbRep H2 T life A G ms (gs.set j (g + 1)) := ⟨k2.at h1.blk h1.TG, by simpa using h.len, k2.at h1.ses h1.AG, hg2, fun m hm => (h1.maps m hm).keep k2 (h1.mne (List.mem_map.2 ⟨m, hm, rfl⟩)).2.2, h.nd⟩
  obtain ⟨p2, q5, q6⟩ := iv_get (n := ms.length) (c := ms.length) h2.giv h2.len.symm (i := j) (by simpa using hgl)
  rw [q1] at q5; cases q5
  obtain ⟨p3, q7, q8⟩ := mpV_get (n := ms.length) (c := ms.length) h2.ses rfl hj
  simp only [List.getElem_set_self, iv] at q6
  obtain ⟨H3, m1, m2, m3, m4⟩ := (h2.maps _ (List.getElem_mem hj)).put (k := g + 1) v fun p hp => by have := hn p hp; omega
  simp only [(r1 h2 rfl).2.1, (r1 h2 rfl).1, q1, q6, q7, q8, Gt_some, mpV, m1]
  have h3 := h2.setM hj m2 m4
  have hb3 : H3[H.size]? = some (.cells z44.cells 44 (0, 0)) := m2.at (k2.at hb1 (by have := hlt G (.inr (.inr (.inl rfl))); omega)) (by have := hlt ms[j].1 (.inr (.inr (.inr (List.mem_map.2 ⟨_, List.getElem_mem hj, rfl⟩)))); omega)
  have r3 := (r1 h3 (by simp)).2.2
  have e3 : bdV z44 [(0, 1), (1, 1)] [(0, iv life), (1, .int .i64 (g + 1))] = some (hnV life (g + 1)) := rfl
  have hc : (hnV life (g + 1)).cells = #[iv life, iv (g + 1)] := rfl
  have e4 : stV 2 (.pointer (some ⟨H.size, 0, none⟩)) (hnV life (g + 1)) H3 = some (H3.setIfInBounds H.size (.cells #[iv life, iv (g + 1)] 44 (0, 0))) := by
    rw [stV_of hb3 (by rfl) (by decide) (by decide) (by rfl)]; rfl
  have e5 := rdn_at (get_set_eq (o := .cells #[iv life, iv (g + 1)] 44 (0, 0)) (lt_of_get hb3)) 2 0 (by simp)
  simp only [r3, Gt_some, e3, e4, rda_ptr, e5, Option.map_some]
  have k4 : Keep (fun b => b = H.size) H3 (H3.setIfInBounds H.size (.cells #[iv life, iv (g + 1)] 44 (0, 0))) := .set rfl
  have k03 : Keep (tbF T A G ms) H H3 := ((k1.mono (M' := tbF T A G ms) fun _ _ h => h.elim).trans (k2.mono fun b _ e => .inr (.inr (.inl e)))).trans (m2.mono fun b _ e => .inr (.inr (.inr (e ▸ List.mem_map.2 ⟨_, List.getElem_mem hj, rfl⟩))))
  refine hR _ (k03.trans' k4 fun b e => .inr (Nat.le_of_eq e.symm)) (h3.keep k4 fun b hb e => ?_)
  have : b < H.size := by
    apply hlt
    rcases hb with hb | hb | hb | hb
    · exact .inl hb
    · exact .inr (.inl hb)
    · exact .inr (.inr (.inl hb))
    · refine .inr (.inr (.inr ?_))
      obtain ⟨m, hm, rfl⟩ := List.mem_map.1 hb
      obtain ⟨i, hi, rfl⟩ := List.getElem_of_mem hm
      rw [List.getElem_set]
      split
      · exact List.mem_map.2 ⟨_, List.getElem_mem hj, rfl⟩
      · exact List.mem_map.2 ⟨_, List.getElem_mem (by simpa using hi), rfl⟩
  omega

/-- what Find answers of a session's handle -/
def findC (life g : Int) (kvs : List (Int × Value)) (l n : Int) : Int := if 1 ≤ l ∧ l < life then 180 else if l ≠ life ∨ n < 1 ∨ n > g then 181 else if (getI kvs n).isSome then 0 else 182
theorem c83 (h : TbRep H T life A G ms gs) {j : Nat} (hj : j < ms.length) {g : Int} (hg : gs[j]? = some g) {l n : Int}
    (hE : findC life g ms[j].2 l n ≠ 0 → ∀ H', Keep no H H' → R (.tuple #[.pointer none, .int .i64 (findC life g ms[j].2 l n)]) H')
    (hR : ∀ v, getI ms[j].2 n = some v → 1 ≤ n ∧ n ≤ g → findC life g ms[j].2 l n = 0 → ∀ H', Keep no H H' → R (.tuple #[v, .int .i64 0]) H') : Runs Tryz.prog 83 [.pointer (some ⟨T, 0, none⟩), .int .i64 j, hnV l n] H R X := by
  refine l83 ?_
  unfold i83
  have hc : (hnV l n).cells = #[.int .i64 l, .int .i64 n] := rfl
  simp only [Nw_iff, hc]
  generalize hH1 : H.push (.cells #[.int .i64 l, .int .i64 n] 44 (0, 0)) = H1
  have hb1 : H1[H.size]? = some (.cells #[.int .i64 l, .int .i64 n] 44 (0, 0)) := by rw [← hH1]; exact get_push_eq
  have k1 : Keep no H H1 := by rw [← hH1]; exact .push
  have h1 := h.keep k1 fun _ _ h => h
  have hgl : j < gs.length := by rw [h.len]; exact hj
  have hgj : gs[j] = g := by rw [List.getElem?_eq_getElem hgl] at hg; exact Option.some.inj hg
  have e1 : (decide ((j : Int) ≥ 0) && decide ((j : Int) < ms.length)) = true := by simp; omega
  have r0 : rdc H1 H.size 0 = some (.int .i64 l) := by rw [rdc_of hb1]; rfl
  have r1 : rdc H1 H.size 1 = some (.int .i64 n) := by rw [rdc_of hb1]; rfl
  have t0 : rdc H1 T 0 = some (.int .i64 life) := by rw [rdc_of h1.blk]; rfl
  have t1 : rdc H1 T 1 = some (.slice (some ⟨A, 0, none⟩) ms.length ms.length) := by rw [rdc_of h1.blk]; rfl
  have t2 : rdc H1 T 2 = some (.slice (some ⟨G, 0, none⟩) ms.length ms.length) := by rw [rdc_of h1.blk]; rfl
  obtain ⟨p, q1, q2⟩ := iv_get (n := ms.length) (c := ms.length) h1.giv h.len.symm hgl
  obtain ⟨p3, q7, q8⟩ := mpV_get (n := ms.length) (c := ms.length) h1.ses rfl hj
  have hget := (h1.maps _ (List.getElem_mem hj)).get z119 n
  rw [hgj] at q2
  simp only [iv] at q2
  have hE' := fun he => hE he H1 k1
  refine Jo0 ?_
  simp only [ptrEq_nil_r, Option.isNone_some, Option.map_some, Gt_some, If_false]
  refine ⟨c132 h1 ?_⟩
  simp only [e1, unV_not, Gt_some, Bool.not_true, If_false]
  refine Jo1 ?_
  simp only [faV_ptr, Nat.zero_add, rdv_ptr, r0, r1, t0, t1, t2, ncV_ptr, binI_geq, binI_lss, binI_neq, binI_gtr, Gt_some, q1, q2, q7, q8, mpV, hget, If_true, If_if]
  have last : ¬ (1 ≤ l ∧ l < life) → If (.bool (l != life)) (R (.tuple #[.pointer none, .int .i64 181]) H1) (If (.bool (decide (n < 1))) (R (.tuple #[.pointer none, .int .i64 181]) H1) (If (.bool (decide (n > g))) (R (.tuple #[.pointer none, .int .i64 181]) H1)
      (Gt (exV 0 (.tuple #[(getI ms[j].2 n).getD z119, .bool (getI ms[j].2 n).isSome])) fun x72_3 =>
       Gt (exV 1 (.tuple #[(getI ms[j].2 n).getD z119, .bool (getI ms[j].2 n).isSome])) fun x73_3 =>
       Gt (unV .not x73_3) fun x75_3 =>
       If x75_3
       (R (.tuple #[(.pointer none), (.int .i64 182)]) H1)
       (R (.tuple #[x72_3, (.int .i64 0)]) H1)))) := by
    intro hs
    have x0 : exV 0 (.tuple #[(getI ms[j].2 n).getD z119, .bool (getI ms[j].2 n).isSome]) = some ((getI ms[j].2 n).getD z119) := rfl
    have x1 : exV 1 (.tuple #[(getI ms[j].2 n).getD z119, .bool (getI ms[j].2 n).isSome]) = some (.bool (getI ms[j].2 n).isSome) := rfl
    simp only [If_iff, x0, x1, Gt_some, unV_not]
    have hbad : (l ≠ life ∨ n < 1 ∨ n > g) → R (.tuple #[.pointer none, .int .i64 181]) H1 := fun hb => by
      have e : findC life g ms[j].2 l n = 181 := by unfold findC; rw [if_neg hs, if_pos hb]
      rw [e] at hE'; exact hE' (by decide)
    refine ⟨fun h1 => hbad (.inl (by simpa using h1)), fun h1 => ⟨fun h2 => hbad (.inr (.inl (by simpa using h2))), fun h2 => ⟨fun h3 => hbad (.inr (.inr (by simpa using h3))), fun h3 => ?_⟩⟩⟩
    have hgood : ¬ (l ≠ life ∨ n < 1 ∨ n > g) := by
      have h1 : l = life := by simpa using h1
      have h2 : ¬ n < 1 := by simpa using h2
      have h3 : ¬ n > g := by simpa using h3
      rintro (h | h | h)
      · exact h h1
      · exact h2 h
      · exact h3 h
    cases hq : getI ms[j].2 n with
    | none =>
      have e : findC life g ms[j].2 l n = 182 := by unfold findC; rw [if_neg hs, if_neg hgood, hq]; rfl
      rw [e] at hE'
      exact ⟨fun _ => hE' (by decide), fun h => by cases h⟩
    | some v =>
      have e : findC life g ms[j].2 l n = 0 := by unfold findC; rw [if_neg hs, if_neg hgood, hq]; rfl
      exact ⟨fun h => (by cases h), fun _ => hR v hq (by omega) e H1 k1⟩
  refine If_iff.2 ⟨fun hl1 => ?_, fun hl1 => ?_⟩
  · have hl1 : 1 ≤ l := by simpa using hl1
    refine If_iff.2 ⟨fun hl2 => ?_, fun hl2 => ?_⟩
    · have hl2 : l < life := by simpa using hl2
      have e : findC life g ms[j].2 l n = 180 := by unfold findC; rw [if_pos ⟨hl1, hl2⟩]
      rw [e] at hE'
      exact hE' (by decide)
    · have hl2 : ¬ l < life := by simpa using hl2
      exact last fun h => hl2 h.2
  · have hl1 : ¬ 1 ≤ l := by simpa using hl1
    exact If_false.2 (last fun h => hl1 h.1)

theorem c230 (h : TbRep H T life A G ms gs) {j : Nat} (hj : j < ms.length) {g : Int} (hg : gs[j]? = some g) {l n : Int} (hf : findC life g ms[j].2 l n = 0)
    (hR : ∀ H', Keep (tbF T A G ms) H H' → TbRep H' T life A G (ms.set j (ms[j].1, delI ms[j].2 n)) gs → R (.int .i64 0) H') : Runs Tryz.prog 230 [.pointer (some ⟨T, 0, none⟩), .int .i64 j, hnV l n] H R X := by
  refine l230 ?_
  unfold i230
  have hc : (hnV l n).cells = #[.int .i64 l, .int .i64 n] := rfl
  simp only [Nw_iff, hc]
  generalize hH1 : H.push (.cells #[.int .i64 l, .int .i64 n] 44 (0, 0)) = H1
  have hb1 : H1[H.size]? = some (.cells #[.int .i64 l, .int .i64 n] 44 (0, 0)) := by rw [← hH1]; exact get_push_eq
  have k1 : Keep no H H1 := by rw [← hH1]; exact .push
  have h1 := h.keep k1 fun _ _ h => h
  have rd : rda 2 (.pointer (some ⟨H.size, 0, none⟩)) H1 = some (hnV l n) := by
    rw [rda_ptr, rdn_at hb1 2 0 (by simp)]; rfl
  simp only [rd, Gt_some]
  refine ⟨c83 h1 hj hg (fun he => absurd hf he) fun v hv _ _ H2 k2 => ?_⟩
  have hb2 := k2.at hb1 fun h => h
  have h2 := h1.keep k2 fun _ _ h => h
  have x0 : exV 0 (.tuple #[v, .int .i64 0]) = some v := rfl
  have x1 : exV 1 (.tuple #[v, .int .i64 0]) = some (.int .i64 0) := rfl
  have e0 : ((0 : Int) != 0) = false := rfl
  have r1 : rdc H2 H.size 1 = some (.int .i64 n) := by rw [rdc_of hb2]; rfl
  have t1 : rdc H2 T 1 = some (.slice (some ⟨A, 0, none⟩) ms.length ms.length) := by rw [rdc_of h2.blk]; rfl
  obtain ⟨p3, q7, q8⟩ := mpV_get (n := ms.length) (c := ms.length) h2.ses rfl hj
  obtain ⟨H3, m1, m2, m3, m4⟩ := (h2.maps _ (List.getElem_mem hj)).del n
  simp only [x0, x1, Gt_some, binI_neq, e0, If_false, ncV_ptr, faV_ptr, Nat.zero_add, rdv_ptr, t1, q7, q8, r1, mpV, m1]
  refine hR H3 ?_ (h2.setM hj m2 m4)
  exact ((k1.trans k2).mono (M' := tbF T A G ms) fun _ _ h => h.elim).trans (m2.mono fun b _ e => .inr (.inr (.inr (e ▸ List.mem_map.2 ⟨_, List.getElem_mem hj, rfl⟩))))
end
end Go.Proofs.YtdoimhpmnmmffaaGreat

/- Contracts of the package txn. No condition but those in each statement. -/
namespace Go.Proofs.YtdoimhpmnmmffaaGreat
open Go IntWalk
variable {H : Heap} {R : Value → Heap → Prop} {X : List PanicEntry → Heap → Prop}

theorem flat1 {α β : Type} (f : α → β) : ∀ l : List α, (l.map fun d => [f d]).flatten = l.map f
  | [] => rfl
  | a :: l => by rw [List.map_cons, List.flatten_cons, flat1 f l]; rfl
/-- an owned list of numbers -/
def OI (H : Heap) (v : Value) (l : List Int) : Prop := Own 3 1 H v l.length (l.map iv)
theorem OI.keep {M : Nat → Prop} {H H' : Heap} {v : Value} {l : List Int} (h : OI H v l) (k : Keep M H H') (hm : ∀ b, ob v b → ¬ M b) : OI H' v l := Own.keep h k hm
theorem OI.sl {H : Heap} {v : Value} {l : List Int} (h : OI H v l) : IvSl H v l := by
  refine Own.slc (z := 3) (size := 1) ?_ fun c hc => ?_
  · have e : (l.map fun d => [iv d]).flatten = l.map iv := flat1 iv l
    have h : Own 3 1 H v l.length (l.map iv) := h
    rw [e]; simpa using h
  · obtain ⟨d, _, rfl⟩ := List.mem_map.1 hc
    rfl
theorem OI.sc {H : Heap} {v : Value} {l : List Int} (h : OI H v l) : Sc H 1 v l.length (l.map iv) := by
  obtain ⟨a, c, e⟩ := h.sl.sl
  refine ⟨⟨a, c, by simpa using e⟩, Own.src h, by simp, ?_⟩
  simp [iv, Value.oneCell']
theorem OI.lt {H : Heap} {v : Value} {l : List Int} (h : OI H v l) {b : Nat} (hb : ob v b) : b < H.size := Own.lt h hb
theorem Own.typ {z size n : Nat} {H : Heap} {v : Value} {xs : List Value} (h : Own z size H v n xs) {b : Nat} (hb : ob v b) : ∃ cs, H[b]? = some (.cells cs z (0, 0)) := by
  cases h with
  | nil => exact (ob_nil hb).elim
  | blk b' n c cs xs h => obtain ⟨_, _, _, he⟩ := hb; cases he; exact ⟨cs, h⟩
theorem OI.typ {H : Heap} {v : Value} {l : List Int} (h : OI H v l) {b : Nat} (hb : ob v b) : ∃ cs, H[b]? = some (.cells cs 3 (0, 0)) := Own.typ h hb
theorem OB.typ {H : Heap} {v : Value} {l : List UInt8} (h : OB H v l) {b : Nat} (hb : ob v b) : ∃ cs, H[b]? = some (.cells cs 5 (0, 0)) := Own.typ h hb

/-- a transaction at block B -/
structure TxRep (H : Heap) (B : Nat) (place : Nat) (sv : Value) (snap : List Int) (W M : Nat) (ws : List Wrt) (ended : Bool) : Prop where
  blk : H[B]? = some (.cells #[iv place, sv, .pointer (some ⟨W, 0, none⟩), .bool ended] 290 (0, 0))
  sna : OI H sv snap
  set : WsRep H W M ws
  at_ : place < snap.length
def txF (B : Nat) (sv : Value) (W M : Nat) (ws : List Wrt) (b : Nat) : Prop := b = B ∨ ob sv b ∨ wsF W M ws b
section
variable {B place W M : Nat} {sv : Value} {snap : List Int} {ws : List Wrt} {ended : Bool}
theorem TxRep.keep {N : Nat → Prop} {H' : Heap} (h : TxRep H B place sv snap W M ws ended) (k : Keep N H H') (hm : ∀ b, txF B sv W M ws b → ¬ N b) : TxRep H' B place sv snap W M ws ended :=
  ⟨k.at h.blk (hm B (.inl rfl)), h.sna.keep k fun b hb => hm b (.inr (.inl hb)), h.set.keep k fun b hb => hm b (.inr (.inr hb)), h.at_⟩
theorem TxRep.lt (h : TxRep H B place sv snap W M ws ended) : ∀ b, txF B sv W M ws b → b < H.size := by
  rintro b (rfl | hb | hb)
  · exact lt_of_get h.blk
  · exact h.sna.lt hb
  · exact h.set.lt b hb
theorem TxRep.neB (h : TxRep H B place sv snap W M ws ended) : B ≠ W ∧ B ≠ M ∧ ¬ ob sv B := by
  refine ⟨fun e => ?_, fun e => ?_, fun hb => ?_⟩
  · have := h.blk; rw [e, h.set.wr.blk] at this; simp at this
  · obtain ⟨es, c, h1, _⟩ := h.set.wr.map.blk
    have := h.blk; rw [e, h1] at this; simp at this
  · obtain ⟨cs, h1⟩ := h.sna.typ hb
    have := h.blk; rw [h1] at this; simp at this
theorem TxRep.neS (h : TxRep H B place sv snap W M ws ended) {b : Nat} (hb : ob sv b) : b ≠ W ∧ b ≠ M := by
  obtain ⟨cs, h1⟩ := h.sna.typ hb
  refine ⟨fun e => ?_, fun e => ?_⟩
  · have := h.set.wr.blk; rw [← e, h1] at this; simp at this
  · obtain ⟨es, c, h2, _⟩ := h.set.wr.map.blk
    rw [← e, h1] at h2; simp at h2

theorem c129 {x : Value} {p : Nat} (hx : OI H x snap) (hp : p < snap.length) (h0 : 0 ≤ snap[p]) (hl : snap.length ≤ 1048576)
    (hR : ∀ B sv W M H', Keep no H H' → (∀ b, txF B sv W M [] b → H.size ≤ b) → TxRep H' B p sv snap W M [] false → R (.tuple #[.pointer (some ⟨B, 0, none⟩), .int .i64 0]) H') : Runs Tryz.prog 129 [.int .i64 p, x] H R X := by
  refine l129 ?_
  unfold i129
  obtain ⟨q, q1, q2⟩ := hx.sl.at hp
  have e1 : decide ((p : Int) < 0) = false := by simp
  have e2 : decide ((p : Int) ≥ (snap.length : Nat)) = false := by simp; omega
  have e3 : decide (snap[p] < 0) = false := by simp; omega
  simp only [iv] at q2
  simp only [binI_lss, e1, Gt_some, hx.sl.len, Option.bind_some, binI_geq, e2, ifO_false, q1, q2, e3, If_false]
  refine ⟨c165 hx.sc (by omega) fun sv H1 k1 f1 o1 => ?_⟩
  refine ⟨c181 fun W M H2 k2 hW hM wr => ?_⟩
  have o1 : OI H1 sv snap := o1
  obtain ⟨a, c, es⟩ := o1.sl.sl
  have eb : bdV z290 [(0, 1), (1, 1), (2, 1), (3, 1)] [(0, .int .i64 p), (1, sv), (2, .pointer (some ⟨W, 0, none⟩))] = some (.agg #[iv p, sv, .pointer (some ⟨W, 0, none⟩), .bool false]) := by
    rw [es]; rfl
  have hc : (Value.agg #[iv p, sv, .pointer (some ⟨W, 0, none⟩), .bool false]).cells = #[iv p, sv, .pointer (some ⟨W, 0, none⟩), .bool false] := rfl
  simp only [eb, Gt_some, Nw_iff, hc]
  have k3 : Keep no H2 (H2.push (.cells #[iv p, sv, .pointer (some ⟨W, 0, none⟩), .bool false] 290 (0, 0))) := .push
  refine hR H2.size sv W M _ ((k1.trans k2).trans k3) ?_ ⟨get_push_eq, (o1.keep k2 fun _ _ h => h).keep k3 fun _ _ h => h, (WsRep.new wr).keep k3 fun _ _ h => h, hp⟩
  have s1 := k1.size
  have s2 := k2.size
  rintro b (rfl | hb | rfl | rfl | ⟨w, hw, hb⟩)
  · omega
  · exact f1 b hb
  · omega
  · omega
  · cases hw
theorem c251 (h : TxRep H B place sv snap W M ws ended) (hR : R (.bool ended) H) : Runs Tryz.prog 251 [.pointer (some ⟨B, 0, none⟩)] H R X := by
  refine l251 ?_
  unfold i251
  have r3 : rdc H B 3 = some (.bool ended) := by rw [rdc_of h.blk]; rfl
  simp only [ptrEq_nil_r, Option.isNone_some, Option.map_some, Gt_some, ncV_ptr, Option.bind_some, faV_ptr, Nat.zero_add, rdv_ptr, r3, ifO_or, Bool.false_or]
  exact hR
theorem c213 (h : TxRep H B place sv snap W M ws ended) {p : Int} (hR : R (.int .i64 (if ended then 173 else if p < 0 ∨ p ≥ snap.length then 2 else 0)) H) : Runs Tryz.prog 213 [.pointer (some ⟨B, 0, none⟩), .int .i64 p] H R X := by
  refine l213 ⟨c251 h ?_⟩
  cases ended with
  | true => simp only [If_true]; exact hR
  | false =>
    have r1 : rdc H B 1 = some sv := by rw [rdc_of h.blk]; rfl
    simp only [If_false, binI_lss, Gt_some, ncV_ptr, Option.bind_some, faV_ptr, Nat.zero_add, rdv_ptr, r1, h.sna.sl.len, binI_geq, ifO_or]
    rw [if_neg (by decide)] at hR
    refine If_iff.2 ⟨fun h1 => ?_, fun h1 => ?_⟩
    · have : p < 0 ∨ p ≥ (snap.length : Nat) := by simpa using h1
      rw [if_pos this] at hR; exact hR
    · have : ¬ (p < 0 ∨ p ≥ (snap.length : Nat)) := by simpa using h1
      rw [if_neg this] at hR; exact hR
theorem c214 {k : ByteArray} (hR : R (.bool (decide ((k.size : Int) ≥ 1) && decide ((k.size : Int) ≤ 255))) H) : Runs Tryz.prog 214 [.string k] H R X := by
  refine l214 ?_
  unfold i214
  simp only [lsV_str, Gt_some, binI_geq, binI_leq, Option.bind_some, ifO_and]
  exact hR

/-- what a Put answers -/
def putE (ended : Bool) (p : Int) (n own ks vl : Nat) (over : Prop) [Decidable over] : Int :=
  if ended then 173 else if p < 0 ∨ p ≥ n then 2 else if ¬ (1 ≤ ks ∧ ks ≤ 255) then 140 else if vl > 4096 then 141 else if p ≠ own then 171 else if over then 150 else 0
theorem c190 (h : TxRep H B place sv snap W M ws ended) (hl : snap.length ≤ 1048576) (hR : ∀ v H', Keep no H H' → (∀ b, ob v b → H.size ≤ b) → OI H' v snap → R v H') : Runs Tryz.prog 190 [.pointer (some ⟨B, 0, none⟩)] H R X := by
  refine l190 ?_
  unfold i190
  have r1 : rdc H B 1 = some sv := by rw [rdc_of h.blk]; rfl
  simp only [ptrEq_nil_r, Option.isNone_some, Option.map_some, Gt_some, If_false, ncV_ptr, faV_ptr, Nat.zero_add, rdv_ptr, r1]
  exact ⟨c165 h.sna.sc (by omega) fun v H1 k1 f1 o1 => hR v H1 k1 f1 o1⟩
end
end Go.Proofs.YtdoimhpmnmmffaaGreat

/- Contracts of the package txn: a key is put; a transaction ends. No condition but those in each statement. -/
namespace Go.Proofs.YtdoimhpmnmmffaaGreat
open Go IntWalk
variable {H : Heap} {R : Value → Heap → Prop} {X : List PanicEntry → Heap → Prop}

theorem bne0 : ((0 : Int) != 0) = false := rfl
section
variable {B place W M A : Nat} {sv : Value} {snap : List Int} {ws : List Wrt} {ended : Bool} {q0 q1 q2 q3 op : Int}

theorem c186 (h : TxRep H B place sv snap W M ws ended) (ha : H[A]? = some (acO q0 q1 q2 q3 op)) (hlen : ws.length ≤ 1099511627775) {k : ByteArray} (hq : wtW ws k ≤ q3) (hqb : 0 ≤ q2 ∧ q2 ≤ 4611686018427387904 ∧ q3 ≤ 1152921504606846976) {p : Int} {v : Value} {bs : List UInt8} (hv : Bs H v bs) (hvA : ∀ b, ob v b → b ≠ A)
    (hR : ∀ H', (putE ended p snap.length place k.size bs.length (q0 < q2 + q3 - (wtW ws k : Nat) + (k.size + bs.length : Nat)) ≠ 0 ∧ Keep no H H') ∨
       (putE ended p snap.length place k.size bs.length (q0 < q2 + q3 - (wtW ws k : Nat) + (k.size + bs.length : Nat)) = 0 ∧ ∃ u, Keep (fun b => b = W ∨ b = M ∨ b = A) H H' ∧ (∀ b, ob u b → H.size ≤ b) ∧ TxRep H' B place sv snap W M (layW ws ⟨k, u, bs, false⟩) ended ∧ H'[A]? = some (acO q0 q1 q2 (q3 + ((k.size + bs.length : Nat) - (wtW ws k : Nat))) op)) →
       R (.int .i64 (putE ended p snap.length place k.size bs.length (q0 < q2 + q3 - (wtW ws k : Nat) + (k.size + bs.length : Nat)))) H') :
    Runs Tryz.prog 186 [.pointer (some ⟨B, 0, none⟩), .int .i64 p, .string k, v, .pointer (some ⟨A, 0, none⟩)] H R X := by
  refine l186 ?_
  unfold i186
  have hc1 : (Value.pointer (some ⟨B, 0, none⟩)).cells = #[.pointer (some ⟨B, 0, none⟩)] := rfl
  have hc2 : (Value.string k).cells = #[.string k] := rfl
  have hc3 : v.cells = #[v] := by obtain ⟨a, c, rfl⟩ := hv.sl; rfl
  simp only [Nw_iff, hc1, hc2, hc3]
  generalize hH1 : H.push (.cells #[.pointer (some ⟨B, 0, none⟩)] 119 (0, 0)) = H1
  have hb1 : H1[H.size]? = some (.cells #[.pointer (some ⟨B, 0, none⟩)] 119 (0, 0)) := by rw [← hH1]; exact get_push_eq
  have k1 : Keep no H H1 := by rw [← hH1]; exact .push
  generalize hH2 : H1.push (.cells #[.string k] 9 (0, 0)) = H2
  have hb2 : H2[H1.size]? = some (.cells #[.string k] 9 (0, 0)) := by rw [← hH2]; exact get_push_eq
  have k2 : Keep no H1 H2 := by rw [← hH2]; exact .push
  generalize hH3 : H2.push (.cells #[v] 45 (0, 0)) = H3
  have hb3 : H3[H2.size]? = some (.cells #[v] 45 (0, 0)) := by rw [← hH3]; exact get_push_eq
  have k3 : Keep no H2 H3 := by rw [← hH3]; exact .push
  have k03 : Keep no H H3 := (k1.trans k2).trans k3
  have f1 : ∀ {H'}, Keep no H3 H' → rdc H' H.size 0 = some (.pointer (some ⟨B, 0, none⟩)) := fun kk => by
    rw [rdc_of (((k2.trans k3).trans kk).at hb1 fun h => h)]; rfl
  have f2 : ∀ {H'}, Keep no H3 H' → rdc H' H1.size 0 = some (.string k) := fun kk => by
    rw [rdc_of ((k3.trans kk).at hb2 fun h => h)]; rfl
  have f3 : ∀ {H'}, Keep no H3 H' → rdc H' H2.size 0 = some v := fun kk => by
    rw [rdc_of (kk.at hb3 fun h => h)]; rfl
  have hv3 := hv.keep k03 fun _ _ h => h
  have h3 := h.keep k03 fun _ _ h => h
  have ha3 := k03.at ha fun h => h
  simp only [rdv_ptr, f1 (.refl H3), f2 (.refl H3), f3 (.refl H3), Gt_some, lsV_str, hv3.len, binI_add]
  refine ⟨l218 ?_⟩
  unfold i218
  simp only [ptrEq_nil_r, Option.isNone_some, Option.map_some, Gt_some, Option.bind_some, ifO_or, Bool.or_false, If_false]
  -- a refusal
  have bad : ∀ (e : Int) (H' : Heap), Keep no H3 H' → e ≠ 0 → putE ended p snap.length place k.size bs.length (q0 < q2 + q3 - (wtW ws k : Nat) + (k.size + bs.length : Nat)) = e → R (.int .i64 e) H' := by
    intro e H' kk he hp
    subst hp
    exact hR H' (.inl ⟨he, k03.trans kk⟩)
  refine ⟨c213 h3 ?_⟩
  cases hend : ended with
  | true =>
    subst hend
    have e0 : ((173 : Int) != 0) = true := rfl
    simp only [if_true, binI_neq, e0, Gt_some, If_true]
    exact bad 173 H3 (.refl _) (by decide) rfl
  | false =>
  subst hend
  by_cases hp1 : p < 0 ∨ p ≥ (snap.length : Nat)
  · have e0 : ((2 : Int) != 0) = true := rfl
    simp only [if_pos hp1, binI_neq, e0, Gt_some, If_true, Bool.false_eq_true, if_false]
    refine bad 2 H3 (.refl _) (by decide) ?_
    unfold putE; rw [if_neg (by decide), if_pos hp1]
  simp only [if_neg hp1, binI_neq, bne0, Gt_some, If_false, Bool.false_eq_true, if_false]
  refine ⟨c214 ?_⟩
  by_cases hp2 : 1 ≤ k.size ∧ k.size ≤ 255
  case neg =>
    have e0 : (decide ((k.size : Int) ≥ 1) && decide ((k.size : Int) ≤ 255)) = false := by
      rw [Bool.and_eq_false_iff, decide_eq_false_iff_not, decide_eq_false_iff_not]; omega
    simp only [e0, unV_not, Gt_some, Bool.not_false, If_true]
    refine bad 140 H3 (.refl _) (by decide) ?_
    unfold putE; rw [if_neg (by decide), if_neg hp1, if_pos hp2]
  have e1 : (decide ((k.size : Int) ≥ 1) && decide ((k.size : Int) ≤ 255)) = true := by
    rw [Bool.and_eq_true, decide_eq_true_eq, decide_eq_true_eq]; omega
  simp only [e1, unV_not, Gt_some, Bool.not_true, If_false, hv3.len, binI_gtr]
  by_cases hp3 : bs.length > 4096
  · have e2 : decide ((bs.length : Int) > 4096) = true := by rw [decide_eq_true_eq]; omega
    simp only [e2, If_true]
    refine bad 141 H3 (.refl _) (by decide) ?_
    unfold putE; rw [if_neg (by decide), if_neg hp1, if_neg (by simpa using hp2), if_pos hp3]
  have e2 : decide ((bs.length : Int) > 4096) = false := by rw [decide_eq_false_iff_not]; omega
  have r0 : rdc H3 B 0 = some (.int .i64 place) := by rw [rdc_of h3.blk]; rfl
  have r2 : rdc H3 B 2 = some (.pointer (some ⟨W, 0, none⟩)) := by rw [rdc_of h3.blk]; rfl
  simp only [e2, If_false, ncV_ptr, Gt_some, faV_ptr, Nat.zero_add, rdv_ptr, r0, r2, binI_neq]
  by_cases hp4 : p = place
  case neg =>
    have e3 : (p != (place : Int)) = true := by rw [bne_iff_ne]; exact hp4
    simp only [e3, If_true]
    refine bad 171 H3 (.refl _) (by decide) ?_
    unfold putE; rw [if_neg (by decide), if_neg hp1, if_neg (by simpa using hp2), if_neg hp3, if_pos hp4]
  have e3 : (p != (place : Int)) = false := by rw [hp4]; simp
  simp only [e3, If_false]
  refine ⟨c261m h3.set.wr h3.set.vals h3.set.keys (fun x hx => (h3.set.fit x hx).2.1) hp2.2 fun H4 k4 => ?_⟩
  have h4 := h3.keep k4 fun _ _ h => h
  have ha4 := k4.at ha3 fun h => h
  have e4 : IntKind.i64.wrap ((k.size : Int) + (bs.length : Nat)) = ((k.size + bs.length : Nat) : Int) := by rw [i64_in _ (by omega)]; simp
  rw [e4]
  have hwt := wtW_le (k := k) h.set.n_le
  refine ⟨c260 ha4 ⟨by omega, hq⟩ (by omega) hqb (fun hfit => ?_) (fun hover => ?_)⟩
  · simp only [binI_neq, bne0, Gt_some, If_false]
    generalize hH5 : H4.setIfInBounds A _ = H5
    have k5 : Keep (fun b => b = A) H4 H5 := by rw [← hH5]; exact .set rfl
    have ha5 : H5[A]? = some (acO q0 q1 q2 (q3 + ((k.size + bs.length : Nat) - (wtW ws k : Nat))) op) := by rw [← hH5]; exact get_set_eq (lt_of_get ha4)
    have hnA : ∀ b, txF B sv W M ws b → b ≠ A := by
      rintro b (rfl | hb | rfl | rfl | ⟨w, hw, hb⟩) rfl
      · have := h4.blk; rw [ha4] at this; simp [acO] at this
      · obtain ⟨cs, h1⟩ := h4.sna.typ hb
        rw [ha4] at h1; simp [acO] at h1
      · have := h4.set.wr.blk; rw [ha4] at this; simp [acO] at this
      · obtain ⟨es, c, h2, _⟩ := h4.set.wr.map.blk
        rw [ha4] at h2; simp [acO] at h2
      · obtain ⟨cs, h1⟩ := (h4.set.vals w hw).typ hb
        rw [ha4] at h1; simp [acO] at h1
    have h5 := h4.keep k5 hnA
    have nf : ∀ b, b < H3.size → H.size ≤ b → b ≠ A := fun b _ hb e => by have := lt_of_get ha; omega
    have g1 : rdc H5 H.size 0 = some (.pointer (some ⟨B, 0, none⟩)) := by
      rw [rdc_of (k5.at ((k4.at ((k2.trans k3).at hb1 fun h => h)) fun h => h) (by have := lt_of_get ha; omega))]; rfl
    have g2 : rdc H5 H1.size 0 = some (.string k) := by
      rw [rdc_of (k5.at ((k4.at (k3.at hb2 fun h => h)) fun h => h) (by have := lt_of_get ha; have := k1.size; omega))]; rfl
    have g3 : rdc H5 H2.size 0 = some v := by
      rw [rdc_of (k5.at (k4.at hb3 fun h => h) (by have := lt_of_get ha; have := k1.size; have := k2.size; omega))]; rfl
    have gB : rdc H5 B 2 = some (.pointer (some ⟨W, 0, none⟩)) := by rw [rdc_of h5.blk]; rfl
    refine ⟨⟨rfl, l219 ?_⟩⟩
    simp only [i219, rdv_ptr, g1, g2, g3, ncV_ptr, Gt_some, faV_ptr, Nat.zero_add, gB]
    have hv5 : Bs H5 v bs := (hv3.keep k4 fun _ _ h => h).keep k5 hvA
    refine ⟨c220 h5.set (by omega) hv5.rd hp2 (by omega) fun u H6 k6 f6 h6 => ?_⟩
    have e0 : putE false p snap.length place k.size bs.length (q0 < q2 + q3 - (wtW ws k : Nat) + (k.size + bs.length : Nat)) = 0 := by
      unfold putE; rw [if_neg (by decide), if_neg hp1, if_neg (by simpa using hp2), if_neg hp3, if_neg (by simpa using hp4), if_neg (by omega)]
    have hr := hR H6 (.inr ⟨e0, u, ?_, ?_, ?_, ?_⟩)
    · rw [e0] at hr; exact hr
    · have k05 : Keep (fun b => b = W ∨ b = M ∨ b = A) H H5 := ((k03.trans k4).mono fun _ _ h => h.elim).trans (k5.mono fun _ _ e => .inr (.inr e))
      exact k05.trans (k6.mono fun b _ e => e.imp id .inl)
    · exact fun b hb => Nat.le_trans (Nat.le_trans (k03.trans k4).size k5.size) (f6 b hb)
    · refine ⟨k6.at h5.blk ?_, h5.sna.keep k6 ?_, h6, h5.at_⟩
      · rintro (e | e)
        · exact h5.neB.1 e
        · exact h5.neB.2.1 e
      · rintro b hb (e | e)
        · exact (h5.neS hb).1 e
        · exact (h5.neS hb).2 e
    · refine k6.at ha5 ?_
      rintro (e | e)
      · exact hnA W (.inr (.inr (.inl rfl))) e.symm
      · exact hnA M (.inr (.inr (.inr (.inl rfl)))) e.symm
  · have e5 : ((150 : Int) != 0) = true := rfl
    simp only [binI_neq, e5, Gt_some, If_true]
    refine bad 150 H4 k4 (by decide) ?_
    unfold putE; rw [if_neg (by decide), if_neg hp1, if_neg (by simpa using hp2), if_neg hp3, if_neg (by simpa using hp4), if_pos hover]

/-- a transaction ends -/
theorem c229 (h : TxRep H B place sv snap W M ws false) (ha : H[A]? = some (acO q0 q1 q2 q3 op)) (ho : 0 < op ∧ op ≤ 1000) (hp : (ws.map Wrt.n).sum ≤ q3) (h3 : q3 ≤ 4611686018427387904)
    (hR : ∀ H', Keep (fun b => b = B ∨ b = A) H H' → TxRep H' B place sv snap W M ws true → H'[A]? = some (acO q0 q1 q2 (q3 - ((ws.map Wrt.n).sum : Nat)) (op - 1)) → R (.int .i64 0) H') :
    Runs Tryz.prog 229 [.pointer (some ⟨B, 0, none⟩), .pointer (some ⟨A, 0, none⟩)] H R X := by
  refine l229 ?_
  unfold i229
  simp only [ptrEq_nil_r, Option.isNone_some, Option.map_some, Gt_some, Option.bind_some, ifO_or, Bool.or_false, If_false]
  refine ⟨c251 h ?_⟩
  have r2 : rdc H B 2 = some (.pointer (some ⟨W, 0, none⟩)) := by rw [rdc_of h.blk]; rfl
  simp only [If_false, ncV_ptr, Gt_some, faV_ptr, Nat.zero_add, rdv_ptr, r2]
  refine ⟨c275 h.set.wr.blk ?_⟩
  refine ⟨c274 ha ho (by omega) h3 ?_⟩
  simp only [binI_neq, bne0, Gt_some, If_false]
  generalize hH1 : H.setIfInBounds A _ = H1
  have k1 : Keep (fun b => b = A) H H1 := by rw [← hH1]; exact .set rfl
  have ha1 : H1[A]? = some (acO q0 q1 q2 (q3 - ((ws.map Wrt.n).sum : Nat)) (op - 1)) := by rw [← hH1]; exact get_set_eq (lt_of_get ha)
  have hnA : ∀ b, txF B sv W M ws b → b ≠ A := by
    rintro b (rfl | hb | rfl | rfl | ⟨w, hw, hb⟩) rfl
    · have := h.blk; rw [ha] at this; simp [acO] at this
    · obtain ⟨cs, h1⟩ := h.sna.typ hb
      rw [ha] at h1; simp [acO] at h1
    · have := h.set.wr.blk; rw [ha] at this; simp [acO] at this
    · obtain ⟨es, c, h2, _⟩ := h.set.wr.map.blk
      rw [ha] at h2; simp [acO] at h2
    · obtain ⟨cs, h1⟩ := (h.set.vals w hw).typ hb
      rw [ha] at h1; simp [acO] at h1
  have h1 := h.keep k1 hnA
  have e3 := stV1 (o := 3) (v := .bool true) h1.blk (by simp) rfl rfl
  simp only [e3, Gt_some]
  generalize hH2 : H1.setIfInBounds B _ = H2
  have k2 : Keep (fun b => b = B) H1 H2 := by rw [← hH2]; exact .set rfl
  have hb2 : H2[B]? = some (.cells #[iv place, sv, .pointer (some ⟨W, 0, none⟩), .bool true] 290 (0, 0)) := by rw [← hH2]; exact get_set_eq (lt_of_get h1.blk)
  refine hR H2 ((k1.mono fun _ _ e => .inr e).trans (k2.mono fun _ _ e => .inl e)) ⟨hb2, h1.sna.keep k2 fun b hb e => h1.neB.2.2 (e ▸ hb), h1.set.keep k2 ?_, h1.at_⟩ (k2.at ha1 fun e => hnA B (.inl rfl) e.symm)
  rintro b (rfl | rfl | ⟨w, hw, hb⟩) e
  · exact h1.neB.1 e.symm
  · exact h1.neB.2.1 e.symm
  · obtain ⟨cs, h2⟩ := (h1.set.vals w hw).typ hb
    have := h1.blk; rw [← e, h2] at this; simp at this
end
end Go.Proofs.YtdoimhpmnmmffaaGreat

/- A condition on functions that range over functions, and that it suffices. No condition but that the tables are the program's and what the loaded function is. -/
namespace Go.Proofs.YtdoimhpmnmmffaaGreat
open Go

/-- the loop's record -/
def lo (r : Loop) (s : LoopState) (p : Option Code) : Obj := .loop { r with state := s, pending := p }
def noRf : Code → Bool
  | .rangeFunc _ _ _ _ => false
  | .seq a b => noRf a && noRf b
  | .cond _ a b => noRf a && noRf b
  | .block _ b => noRf b
  | .loop b => noRf b
  | _ => true
def psOk (N : Nat) : List Nat → Bool
  | [] => true
  | t :: ts => Nat.blt t N && !memB t ts && psOk N ts
/-- how the function that was ranged over leaves the record -/
def exitH (B : List (Nat × (Heap → Prop))) (id : Nat) : Option (Heap → Prop) := match B with
  | [] => none
  | (q, k) :: r => bif Nat.beq q id then some k else exitH r id
inductive Af (l : Nat) (r : Loop) (H : Heap) (K Kr : Heap → Prop) (Kx : List (Nat × (Heap → Prop))) : Prop
  | fin (s : LoopState) (hs : s ≠ .busy) (h : H[l]? = some (lo r s none)) (k : K (H.setIfInBounds l (lo r .exhausted none)))
  | ret (s : LoopState) (hs : s ≠ .busy) (h : H[l]? = some (lo r s (some .ret))) (k : Kr (H.setIfInBounds l (lo r .exhausted (some .ret))))
  | ext (s : LoopState) (id : Nat) (kx : Heap → Prop) (hs : s ≠ .busy) (h : H[l]? = some (lo r s (some (.exit id)))) (hx : exitH Kx id = some kx) (k : kx (H.setIfInBounds l (lo r .exhausted (some (.exit id)))))
/-- a known function -/
inductive Fv (v : Value) (K : Nat → List Value → List Value → Prop) : Prop
  | mk (f : Nat) (first cap : List Value) (h : v = .func (.func f) first.toArray cap.toArray) (k : K f first cap)
/-- the blocks that are left from within -/
def exs : Code → List Nat
  | .exit id => [id]
  | .seq a b => exs a ++ exs b
  | .cond _ a b => exs a ++ exs b
  | .block _ b => exs b
  | .loop b => exs b
  | _ => []
def cut {α : Type} (l : List Nat) : List (Nat × α) → List (Nat × α)
  | [] => []
  | q :: r => bif memB q.1 l then q :: cut l r else cut l r
/-- the record lies as it should -/
inductive At (H : Heap) (l : Nat) (o : Obj) (K : Prop) : Prop
  | mk (h : H[l]? = some o) (k : K)

abbrev KD := List Nat → Env → Heap → Prop
def vc2 (T : Tab) (P : Program) (A : List (Nat × List Nat)) (N : Nat) : Nat → Code → List Nat → Env → Heap → KD → List (Nat × KD) → KD → Prop
  | p, .seq a b, D, e, H, K, B, R => bif noRf a && noRf b then vc T P A N p (.seq a b) e H (K D) (B.map fun q => (q.1, q.2 D)) (R D) (fun _ _ => False) else
      vc2 T P A N (2 * p) a D e H (fun D e H => vc2 T P A N (2 * p + 1) b D e H K B R) B R
  | p, .cond c a b, D, e, H, K, B, R => bif noRf a && noRf b then vc T P A N p (.cond c a b) e H (K D) (B.map fun q => (q.1, q.2 D)) (R D) (fun _ _ => False) else
      match ev e c with
      | some v => If v (vc2 T P A N (2 * p) a D e H K B R) (vc2 T P A N (2 * p + 1) b D e H K B R)
      | none => False
  | p, .block id b, D, e, H, K, B, R => bif noRf b then vc T P A N p (.block id b) e H (K D) (B.map fun q => (q.1, q.2 D)) (R D) (fun _ _ => False) else
      vc2 T P A N (2 * p) b D e H K ((id, K) :: B) R
  | p, .rangeFunc g ps assign body, D, e, H, K, B, R => match ev e g with
      | some gv => bif psOk N ps.toList then Fv gv fun f first cap => T.fn f = true ∧ ∀ r : Loop,
          (allP ps.toList.length fun args => ∀ (H1 : Heap) (R' : Value → Heap → Prop) (X' : List PanicEntry → Heap → Prop), At H1 (H.size + 1) (lo r .ready none)
              (vc T P A N (4 * p) assign (outE e ps.toList ps.toList args) H1 (fun e2 H2 => At H2 (H.size + 1) (lo r .ready none)
                (vc T P A N (4 * p + 1) body e2 (H2.setIfInBounds (H.size + 1) (lo r .busy none))
                  (fun _ H3 => At H3 (H.size + 1) (lo r .busy none) (R' (.bool true) (H3.setIfInBounds (H.size + 1) (lo r .ready none))))
                  ((cut (exs body) B).map fun q => (q.1, fun _ H3 => At H3 (H.size + 1) (lo r .busy none) (R' (.bool false) (H3.setIfInBounds (H.size + 1) (lo r .done (some (.exit q.1)))))))
                  (fun _ H3 => At H3 (H.size + 1) (lo r .busy none) (R' (.bool false) (H3.setIfInBounds (H.size + 1) (lo r .done (some .ret))))) (fun _ _ => False)))
                [] (fun _ _ => False) (fun _ _ => False)) →
            CallV P T (.func (.yield (H.size + 1)) #[] #[]) args H1 R' X') →
          Runs P f (first ++ [.func (.yield (H.size + 1)) #[] #[]] ++ cap) ((H.push (.deferred (some []))).push (lo r .ready none))
            (fun _ H2 => Af (H.size + 1) r H2 (fun H3 => K (H.size :: D) e H3) (fun H3 => R (H.size :: D) e H3)
              ((cut (exs body) B).map fun q => (q.1, fun H3 => q.2 (H.size :: D) e H3))) (fun _ _ => False) else False
      | none => False
  | p, c, D, e, H, K, B, R => vc T P A N p c e H (K D) (B.map fun q => (q.1, q.2 D)) (R D) (fun _ _ => False)

/-- the blocks of rounds are shut, one after another -/
def shut : List Nat → (Heap → Prop) → Heap → Prop
  | [], K, H => K H
  | r :: D, K, H => At H r (.deferred (some [])) (shut D K (H.setIfInBounds r (.deferred none)))
def vcG (T : Tab) (P : Program) (A : List (Nat × List Nat)) (N : Nat) (rs : List ResultVar) (c : Code) (args : List Value) (H : Heap) (R : Value → Heap → Prop) : Prop :=
  bif Nat.ble args.length N then vc2 T P A N 1 c [] (argE args) H (fun D e H => shut D (fun H => resP T e H R rs []) H) [] (fun D e H => shut D (fun H => resP T e H R rs []) H) else False

section
variable {P : Program} {T : Tab} {A : List (Nat × List Nat)} {N : Nat}

def mk_ (r : Nat) : Deferred := { target := .collected r, args := #[] }

theorem fold_other : ∀ (ps : List Nat) (args : List Value) (ts : Array Value) (t : Nat), t ∉ ps → ((ps.zip args).foldl (fun (ts : Array Value) (q : Nat × Value) => ts.setIfInBounds q.1 q.2) ts)[t]? = ts[t]?
  | [], _, _, _, _ => rfl
  | _ :: _, [], _, _, _ => rfl
  | s :: ps, u :: us, ts, t, h => by
    rw [List.mem_cons, not_or] at h
    rw [List.zip_cons_cons, List.foldl_cons, fold_other ps us _ t h.2]
    exact Array.getElem?_setIfInBounds_ne (fun e => h.1 e.symm)
theorem fold_size : ∀ (l : List (Nat × Value)) (ts : Array Value), (l.foldl (fun (ts : Array Value) (q : Nat × Value) => ts.setIfInBounds q.1 q.2) ts).size = ts.size
  | [], _ => rfl
  | q :: l, ts => by rw [List.foldl_cons, fold_size l]; simp
theorem fold_look : ∀ (ps : List Nat) (args : List Value) (ts : Array Value) (t : Nat) (v : Value), psOk ts.size ps = true → look ps args t = some v → ((ps.zip args).foldl (fun (ts : Array Value) (q : Nat × Value) => ts.setIfInBounds q.1 q.2) ts)[t]? = some v
  | [], _, _, _, _, _, h => by simp [look] at h
  | _ :: _, [], _, _, _, _, h => by simp [look] at h
  | s :: ps, u :: us, ts, t, v, hp, h => by
    simp only [psOk, Bool.and_eq_true, Bool.not_eq_true'] at hp
    have hs : s < ts.size := by
      have h1 := hp.1.1
      simpa [Nat.blt_eq] using h1
    simp only [look] at h
    rw [List.zip_cons_cons, List.foldl_cons]
    cases hb : Nat.beq s t with
    | true =>
      rw [hb] at h; simp only [cond_true, Option.some.injEq] at h; subst h
      have := Nat.eq_of_beq_eq_true hb; subst this
      rw [fold_other]
      · simp [hs]
      · intro hm
        have := memB_iff.2 hm
        rw [hp.1.2] at this; cases this
    | false =>
      rw [hb] at h
      refine fold_look ps us _ t v ?_ h
      simpa using hp.2

theorem mt_par {e : Env} {a : Act} (ha : Mt e a) (hs : a.tmps.size = N) {ps : List Nat} {args : List Value} (hp : psOk N ps = true) :
    Mt (outE e ps ps args) { tmps := (ps.zip args).foldl (fun (ts : Array Value) (q : Nat × Value) => ts.setIfInBounds q.1 q.2) a.tmps, defers := [] } := by
  intro t v h
  simp only [outE] at h
  split at h
  · rename_i u hu
    cases h
    exact fold_look ps args a.tmps t v (hs ▸ hp) hu
  · cases hb : memB t ps with
    | true => rw [hb] at h; cases h
    | false =>
      rw [hb] at h
      show (_ : Array Value)[t]? = _
      rw [fold_other ps args a.tmps t (fun hm => by rw [memB_iff.2 hm] at hb; cases hb)]
      exact ha t v h

theorem lo_rw (r : Loop) (s s' : LoopState) (p p' : Option Code) : ({ ({ r with state := s, pending := p } : Loop) with state := s', pending := p' } : Loop) = { r with state := s', pending := p' } := rfl

/-- a round -/
theorem round_ok (hT : TabOk P T) (hm : P.follows .mixedOrders = true) {e : Env} {a : Act} (ha : Mt e a) (hs : a.tmps.size = N) {ps : Array Tmp} {assign body : Code} (hp : psOk N ps.toList = true) {q l : Nat} {B : List (Nat × (Env → Heap → Prop))}
    {args : List Value} {H1 : Heap} {R' : Value → Heap → Prop} {X' : List PanicEntry → Heap → Prop} {r : Loop} (hr : r.tmps = a.tmps ∧ r.params = ps ∧ r.assign = assign ∧ r.body = body) (hlen : args.length = ps.toList.length)
    (hB : ∀ id k, exitK B id = some k → ∀ e3 H3, k e3 H3 → At H3 l (lo r .busy none) (R' (.bool false) (H3.setIfInBounds l (lo r .done (some (.exit id))))))
    (h : At H1 l (lo r .ready none) (vc T P A N (4 * q) assign (outE e ps.toList ps.toList args) H1 (fun e2 H2 => At H2 l (lo r .ready none)
        (vc T P A N (4 * q + 1) body e2 (H2.setIfInBounds l (lo r .busy none))
          (fun _ H3 => At H3 l (lo r .busy none) (R' (.bool true) (H3.setIfInBounds l (lo r .ready none)))) B
          (fun _ H3 => At H3 l (lo r .busy none) (R' (.bool false) (H3.setIfInBounds l (lo r .done (some .ret))))) (fun _ _ => False)))
        [] (fun _ _ => False) (fun _ _ => False))) : CallV P T (.func (.yield l) #[] #[]) args H1 R' X' := by
  obtain ⟨hl, h⟩ := h
  obtain ⟨hr1, hr2, hr3, hr4⟩ := hr
  unfold CallV
  dsimp only
  refine ⟨rfl, ?_⟩
  rw [hl]
  show args.length = r.params.size ∧ _
  refine ⟨by rw [hr2]; simpa using hlen, ?_⟩
  intro w hw
  subst hw
  refine roundIn_of_wpIn trivial ?_
  have eq : (({ r with state := .ready, pending := none } : Loop).params.zip args.toArray).foldl (fun tmps (t, a) => tmps.setIfInBounds t a) ({ r with state := .ready, pending := none } : Loop).tmps = (ps.toList.zip args).foldl (fun (ts : Array Value) (q : Nat × Value) => ts.setIfInBounds q.1 q.2) a.tmps := by
    show (r.params.zip args.toArray).foldl (fun tmps (t, a) => tmps.setIfInBounds t a) r.tmps = _
    rw [hr1, hr2, ← Array.foldl_toList, Array.toList_zip]
  rw [eq]
  show r.assign.wpIn _ _ _ _ _ _
  rw [hr3]
  have ha1 := mt_par (args := args) ha hs hp
  have hs1 : ({ tmps := (ps.toList.zip args).foldl (fun (ts : Array Value) (q : Nat × Value) => ts.setIfInBounds q.1 q.2) a.tmps, defers := [] } : Act).tmps.size = N := by
    show (_ : Array Value).size = N
    rw [fold_size]; exact hs
  refine vc_sound (ro := some l) hT hm assign (4 * q) _ _ w _ [] _ _ _ h ha1 hs1 (fun c a a' w _ h => h.elim) ?_
  refine ⟨fun e2 a2 w2 hm2 hb2 h2 => ?_, fun id k hid => by simp [exitK] at hid, fun _ _ _ _ _ h => h.elim, fun _ _ _ _ _ _ h => h.elim⟩
  obtain ⟨hl2, h2⟩ := h2
  refine ⟨w2.putObj l (lo r .busy none), run_beginRound hl2 rfl, ?_⟩
  show r.body.wpIn _ _ _ _ _ _
  rw [hr4]
  have fin : ∀ (e3 : Env) (a3 : Act) (w3 : World) (j : Option Code) (s : LoopState), Bc N (wr body) a2 (w2.putObj l (lo r .busy none)) a3 w3 → s = (if j.isNone then .ready else .done) → At w3.heap l (lo r .busy none) (R' (.bool j.isNone) (w3.heap.setIfInBounds l (lo r s j))) →
      ∃ v w', (Instr.endRound l j).run P w3 = .ok v w' ∧ w'.os = w.os ∧ w'.output = w.output ∧ R' v w'.heap := by
    intro e3 a3 w3 j s hb3 hsj h3
    obtain ⟨hl3, h3⟩ := h3
    refine ⟨_, _, run_endRound j hl3, ?_, ?_, ?_⟩
    · exact hb3.os.trans hb2.os
    · exact hb3.output.trans hb2.output
    · subst hsj; exact h3
  refine vc_sound (ro := some l) hT hm body (4 * q + 1) e2 a2 (w2.putObj l (lo r .busy none)) _ B _ _ _ h2 hm2 hb2.size (fun c a a' w _ h => h.elim) ?_
  refine ⟨fun e3 a3 w3 _ hb3 h3 => fin e3 a3 w3 none .ready hb3 rfl h3, fun id k hid e3 a3 w3 _ hb3 h3 => fin e3 a3 w3 (some (.exit id)) .done hb3 rfl (hB id k hid e3 w3.heap h3), fun e3 a3 w3 _ hb3 h3 => fin e3 a3 w3 (some .ret) .done hb3 rfl h3, fun _ _ _ _ _ _ h => h.elim⟩

theorem exitK_map {α : Type} (f : Nat → α → Env → Heap → Prop) : ∀ (B : List (Nat × α)) (id : Nat) (k : Env → Heap → Prop), exitK (B.map fun q => (q.1, f q.1 q.2)) id = some k → ∃ q ∈ B, q.1 = id ∧ k = f q.1 q.2
  | [], id, k, h => by simp [exitK] at h
  | (i, x) :: B, id, k, h => by
    simp only [List.map_cons, exitK] at h
    cases hb : Nat.beq i id with
    | true =>
      rw [hb] at h; simp only [cond_true, Option.some.injEq] at h
      exact ⟨(i, x), List.mem_cons_self .., Nat.eq_of_beq_eq_true hb, h.symm⟩
    | false =>
      rw [hb] at h
      obtain ⟨q, hq, h1, h2⟩ := exitK_map f B id k h
      exact ⟨q, List.mem_cons_of_mem _ hq, h1, h2⟩
theorem allP_of : ∀ {n : Nat} {p : List Value → Prop}, (∀ vs : List Value, vs.length = n → p vs) → allP n p
  | 0, p, h => h [] rfl
  | n + 1, p, h => fun v => allP_of fun vs hl => h (v :: vs) (by simp [hl])
def exitK2 (B : List (Nat × KD)) (id : Nat) : Option KD := match B with
  | [] => none
  | (q, k) :: r => bif Nat.beq q id then some k else exitK2 r id
theorem exitK_2 (D : List Nat) : ∀ (B : List (Nat × KD)) (id : Nat) (k : Env → Heap → Prop), exitK (B.map fun q => (q.1, q.2 D)) id = some k → ∃ k2, exitK2 B id = some k2 ∧ k = k2 D
  | [], id, k, h => by simp [exitK] at h
  | (i, x) :: B, id, k, h => by
    simp only [List.map_cons, exitK] at h
    simp only [exitK2]
    cases hb : Nat.beq i id with
    | true =>
      rw [hb] at h; simp only [cond_true, Option.some.injEq] at h
      exact ⟨x, rfl, h.symm⟩
    | false => rw [hb] at h; exact exitK_2 D B id k h

theorem exitH_2 (D : List Nat) (e : Env) (l : List Nat) : ∀ (B : List (Nat × KD)) (id : Nat) (k : Heap → Prop), exitH ((cut l B).map fun q => (q.1, fun H3 => q.2 D e H3)) id = some k → ∃ k2, exitK2 B id = some k2 ∧ k = k2 D e
  | [], id, k, h => by simp [cut, exitH] at h
  | (i, x) :: B, id, k, h => by
    simp only [cut] at h
    simp only [exitK2]
    cases hm : memB i l with
    | true =>
      rw [hm] at h
      simp only [cond_true, List.map_cons, exitH] at h
      cases hb : Nat.beq i id with
      | true =>
        rw [hb] at h; simp only [cond_true, Option.some.injEq] at h
        exact ⟨x, rfl, h.symm⟩
      | false => rw [hb] at h; exact exitH_2 D e l B id k h
    | false =>
      rw [hm] at h
      simp only [cond_false] at h
      obtain ⟨k2, h1, h2⟩ := exitH_2 D e l B id k h
      cases hb : Nat.beq i id with
      | true => exact absurd (Nat.eq_of_beq_eq_true hb) (fun e => by
          subst e
          exact no_cut B h hm)
      | false => exact ⟨k2, h1, h2⟩
where
  no_cut {i : Nat} {k : Heap → Prop} : ∀ (B : List (Nat × KD)), exitH ((cut l B).map fun q => (q.1, fun H3 => q.2 D e H3)) i = some k → memB i l = false → False
  | [], h, _ => by simp [cut, exitH] at h
  | (j, x) :: B, h, hm => by
    simp only [cut] at h
    cases hj : memB j l with
    | true =>
      rw [hj] at h
      simp only [cond_true, List.map_cons, exitH] at h
      cases hb : Nat.beq j i with
      | true => have := Nat.eq_of_beq_eq_true hb; subst this; rw [hj] at hm; cases hm
      | false => rw [hb] at h; exact no_cut B h hm
    | false => rw [hj] at h; exact no_cut B h hm

/-- what is asked of the ways out -/
structure K2 (N : Nat) (w0 : World) (K : KD) (B : List (Nat × KD)) (R : KD) (Q : Exit → Act → World → Prop) : Prop where
  k : ∀ D e' a' w', Mt e' a' → a'.tmps.size = N → a'.defers = D.map mk_ → w'.os = w0.os → w'.output = w0.output → K D e' w'.heap → Q .normal a' w'
  b : ∀ id k, exitK2 B id = some k → ∀ D e' a' w', Mt e' a' → a'.tmps.size = N → a'.defers = D.map mk_ → w'.os = w0.os → w'.output = w0.output → k D e' w'.heap → Q (.exit id) a' w'
  r : ∀ D e' a' w', Mt e' a' → a'.tmps.size = N → a'.defers = D.map mk_ → w'.os = w0.os → w'.output = w0.output → R D e' w'.heap → Q .ret a' w'
  x : ∀ c a w, ¬ Q (.panic c) a w

theorem vc2_plain (hT : TabOk P T) (hm : P.follows .mixedOrders = true) {w0 : World} {c : Code} {p : Nat} {D : List Nat} {e : Env} {a : Act} {w : World} {K : KD} {B : List (Nat × KD)} {R : KD} {Q : Exit → Act → World → Prop}
    (h : vc T P A N p c e w.heap (K D) (B.map fun q => (q.1, q.2 D)) (R D) (fun _ _ => False)) (ha : Mt e a) (hs : a.tmps.size = N) (hd : a.defers = D.map mk_) (ho : w.os = w0.os) (hu : w.output = w0.output) (hk : K2 N w0 K B R Q) : c.wpIn (Wf none) 0 P Q a w := by
  refine vc_sound (ro := none) hT hm c p e a w _ _ _ _ Q h ha hs (fun c a a' w _ h => (hk.x c a w h).elim) ?_
  refine ⟨fun e' a' w' hm' hb hK => hk.k D e' a' w' hm' hb.size (hb.defers.trans hd) (hb.os.trans ho) (hb.output.trans hu) hK, fun id k hid e' a' w' hm' hb hK => ?_, fun e' a' w' hm' hb hK => hk.r D e' a' w' hm' hb.size (hb.defers.trans hd) (hb.os.trans ho) (hb.output.trans hu) hK, fun _ _ _ _ _ _ h => h.elim⟩
  obtain ⟨k2, h1, rfl⟩ := exitK_2 D B id k hid
  exact hk.b id k2 h1 D e' a' w' hm' hb.size (hb.defers.trans hd) (hb.os.trans ho) (hb.output.trans hu) hK

theorem vc2_sound (hT : TabOk P T) (hm : P.follows .mixedOrders = true) {w0 : World} : ∀ (c : Code) (p : Nat) (D : List Nat) (e : Env) (a : Act) (w : World) (K : KD) (B : List (Nat × KD)) (R : KD) (Q : Exit → Act → World → Prop),
    vc2 T P A N p c D e w.heap K B R → Mt e a → a.tmps.size = N → a.defers = D.map mk_ → w.os = w0.os → w.output = w0.output → K2 N w0 K B R Q → c.wpIn (Wf none) 0 P Q a w := by
  intro c
  induction c with
  | seq x y ihx ihy =>
    intro p D e a w K B R Q h ha hs hd ho hu hk
    simp only [vc2] at h
    cases hn : noRf x && noRf y with
    | true => rw [hn] at h; exact vc2_plain hT hm h ha hs hd ho hu hk
    | false =>
      rw [hn] at h; simp only [cond_false] at h
      refine wpIn_seq (ihx _ D e a w _ B R _ h ha hs hd ho hu ⟨?_, ?_, ?_, ?_⟩)
      · intro D1 e1 a1 w1 hm1 hs1 hd1 ho1 hu1 h1
        exact ihy _ D1 e1 a1 w1 K B R Q h1 hm1 hs1 hd1 ho1 hu1 hk
      · exact fun id k hid D1 e1 a1 w1 hm1 hs1 hd1 ho1 hu1 h1 => hk.b id k hid D1 e1 a1 w1 hm1 hs1 hd1 ho1 hu1 h1
      · exact fun D1 e1 a1 w1 hm1 hs1 hd1 ho1 hu1 h1 => hk.r D1 e1 a1 w1 hm1 hs1 hd1 ho1 hu1 h1
      · exact fun c a w hq => hk.x c a w hq
  | cond c x y ihx ihy =>
    intro p D e a w K B R Q h ha hs hd ho hu hk
    simp only [vc2] at h
    cases hn : noRf x && noRf y with
    | true => rw [hn] at h; exact vc2_plain hT hm h ha hs hd ho hu hk
    | false =>
      rw [hn] at h; simp only [cond_false] at h
      split at h
      · rename_i v hv
        obtain ⟨t, rfl, h1, h2⟩ := h
        refine wpIn_cond_split (ha.ev hv) (fun ht => ?_) (fun ht => ?_)
        · exact ihx _ D e a w K B R Q (h1 ht) ha hs hd ho hu hk
        · exact ihy _ D e a w K B R Q (h2 ht) ha hs hd ho hu hk
      · exact h.elim
  | block id b ih =>
    intro p D e a w K B R Q h ha hs hd ho hu hk
    simp only [vc2] at h
    cases hn : noRf b with
    | true => rw [hn] at h; exact vc2_plain hT hm h ha hs hd ho hu hk
    | false =>
      rw [hn] at h; simp only [cond_false] at h
      refine wpIn_block (ih _ D e a w K ((id, K) :: B) R _ h ha hs hd ho hu ⟨?_, ?_, ?_, ?_⟩)
      · exact fun D1 e1 a1 w1 hm1 hs1 hd1 ho1 hu1 h1 => hk.k D1 e1 a1 w1 hm1 hs1 hd1 ho1 hu1 h1
      · intro i k hid D1 e1 a1 w1 hm1 hs1 hd1 ho1 hu1 h1
        simp only [exitK2] at hid
        cases hbq : Nat.beq id i with
        | true =>
          rw [hbq] at hid; simp only [cond_true, Option.some.injEq] at hid; subst hid
          have := Nat.eq_of_beq_eq_true hbq; subst this
          simp only [Exit.inBlock, if_true]
          exact hk.k D1 e1 a1 w1 hm1 hs1 hd1 ho1 hu1 h1
        | false =>
          rw [hbq] at hid
          have hne : i ≠ id := fun e => by subst e; simp at hbq
          simp only [Exit.inBlock, hne, if_false]
          exact hk.b i k hid D1 e1 a1 w1 hm1 hs1 hd1 ho1 hu1 h1
      · exact fun D1 e1 a1 w1 hm1 hs1 hd1 ho1 hu1 h1 => hk.r D1 e1 a1 w1 hm1 hs1 hd1 ho1 hu1 h1
      · exact fun c a w hq => hk.x c a w hq
  | rangeFunc g ps assign body =>
    intro p D e a w K B R Q h ha hs hd ho hu hk
    simp only [vc2] at h
    split at h
    · rename_i gv hg
      cases hpo : psOk N ps.toList with
      | false => rw [hpo] at h; exact h.elim
      | true =>
      rw [hpo] at h; simp only [cond_true] at h
      obtain ⟨f, first, cap, rfl, hfn, h⟩ := h
      refine wpIn_rangeFunc fun fn _ => ?_
      let r : Loop := { state := .ready, pending := none, fn, tmps := a.tmps, params := ps, assign, body, defers := w.heap.size }
      have hrun := h r (allP_of fun args hlen H1 R' X' hvc => round_ok (r := r) hT hm ha hs hpo ⟨rfl, rfl, rfl, rfl⟩ hlen (fun id k hid e3 H3 hk3 => by
        obtain ⟨q, _, rfl, rfl⟩ := exitK_map (fun (i : Nat) (_ : KD) => fun (_ : Env) H3 => At H3 (w.heap.size + 1) (lo r .busy none) (R' (.bool false) (H3.setIfInBounds (w.heap.size + 1) (lo r .done (some (.exit i)))))) (cut (exs body) B) id k hid
        exact hk3) hvc)
      let w1 : World := (w.alloc (.deferred (some []))).alloc (.loop r)
      refine ⟨w.heap.size + 1, [mk_ w.heap.size], w1, { target := .fn (.func f) cap.toArray, args := first.toArray ++ #[.func (.yield (w.heap.size + 1)) #[] #[]] }, w1, f, first.toArray ++ #[.func (.yield (w.heap.size + 1)) #[] #[]] ++ cap.toArray, w1, run_enterLoop_outer fn a.tmps ps assign body, ?_, fun _ _ => trivial, ?_, (fun h => by simp [Wf] at h), ?_⟩
      · rw [resolve_func _ _ _ rfl]
        have : a.eval g = .func (.func f) first.toArray cap.toArray := ha.ev hg
        have e2 : (rangeCall g (w.heap.size + 1)).args.map a.eval = #[.func (.yield (w.heap.size + 1)) #[] #[]] := by simp [rangeCall, Act.eval]
        rw [e2]
        simp only [this, Deferred.ofValue, Sem.run_pure]
      · exact hT.fn f hfn _ _
      · have hc := (callsIn_wide (n := 0)).2 (hrun w1 rfl)
        have eqa : (first ++ [Value.func (.yield (w.heap.size + 1)) #[] #[]] ++ cap).toArray = first.toArray ++ #[.func (.yield (w.heap.size + 1)) #[] #[]] ++ cap.toArray := by
          apply Array.ext'; simp
        rw [eqa] at hc
        refine CallsIn.mono hc fun en w3 h3 => ?_
        obtain ⟨h31, h32, h33⟩ := h3
        have ho3 : w3.os = w0.os := h31.trans ho
        have hu3 : w3.output = w0.output := h32.trans hu
        have hd3 : ([mk_ w.heap.size] ++ a.defers) = (w.heap.size :: D).map mk_ := by rw [hd]; rfl
        cases en with
        | panicked c => exact h33.elim
        | outgrown => exact h33.elim
        | returned v =>
          have end_ : ∀ (s : LoopState) (j : Option Code), s ≠ .busy → w3.heap[w.heap.size + 1]? = some (lo r s j) → (Instr.endLoop (w.heap.size + 1)).run P w3 = .ok j (w3.putObj (w.heap.size + 1) (lo r .exhausted j)) := fun s j hsb hl => run_endLoop hl hsb
          cases h33 with
          | fin s hsb hl k =>
            exact ⟨none, _, end_ s none hsb hl, hk.k (w.heap.size :: D) e { a with defers := [mk_ w.heap.size] ++ a.defers } (w3.putObj (w.heap.size + 1) (lo r .exhausted none)) ha hs hd3 ho3 hu3 k⟩
          | ret s hsb hl k =>
            exact ⟨some .ret, _, end_ s _ hsb hl, wpIn_ret (hk.r (w.heap.size :: D) e { a with defers := [mk_ w.heap.size] ++ a.defers } (w3.putObj (w.heap.size + 1) (lo r .exhausted (some .ret))) ha hs hd3 ho3 hu3 k)⟩
          | ext s id kx hsb hl hx k =>
            obtain ⟨k2, h21, rfl⟩ := exitH_2 _ e _ B id kx hx
            exact ⟨some (.exit id), _, end_ s _ hsb hl, wpIn_exit (hk.b id k2 h21 (w.heap.size :: D) e { a with defers := [mk_ w.heap.size] ++ a.defers } (w3.putObj (w.heap.size + 1) (lo r .exhausted (some (.exit id)))) ha hs hd3 ho3 hu3 k)⟩
    · exact h.elim
  | _ => intro p D e a w K B R Q h ha hs hd ho hu hk; exact vc2_plain hT hm h ha hs hd ho hu hk

theorem leaves_ok {fn : Func} {tmps : Array Value} {Rw : Ending → World → Prop} : ∀ (D : List Nat) (w : World) (K : Heap → Prop), shut D K w.heap →
    (∀ w', w'.os = w.os → w'.output = w.output → K w'.heap → ∃ v, (results fn tmps).run P w' = .ok v w' ∧ Rw (.returned v) w') → LeavesInM (Wf none) 0 P fn tmps Rw (D.map mk_) .returning w
  | [], w, K, h, hr => hr w rfl rfl h
  | r :: D, w, K, h, hr => by
    obtain ⟨hl, h⟩ := h
    refine ⟨by simp, .inl ⟨r, w.putObj r (.deferred none), rfl, run_takeDeferred hl, ?_⟩⟩
    exact leaves_ok D (w.putObj r (.deferred none)) K h fun w' h1 h2 h3 => hr w' h1 h2 h3

theorem runs_g (hT : TabOk P T) (hm : P.follows .mixedOrders = true) {f : Nat} {fn : Func} {c : Code} (hf : P.funcs[f]? = some fn) (hb : fn.body = some c)
    {args : List Value} {H : Heap} {R : Value → Heap → Prop} {X : List PanicEntry → Heap → Prop} (h : vcG T P A fn.ntmps fn.results.toList c args H R) : Runs P f args H R X := by
  intro w hw
  subst hw
  unfold vcG at h
  cases hle : Nat.ble args.length fn.ntmps with
  | false => rw [hle] at h; exact h.elim
  | true =>
    rw [hle] at h; simp only [cond_true] at h
    have hle := Nat.le_of_ble_eq_true hle
    refine (callsIn_wide (n := 0)).1 ?_
    refine callsIn_of_wp_marks hf hb trivial ?_
    let a0 : Act := { tmps := args.toArray ++ Array.replicate (fn.ntmps - args.toArray.size) undef, defers := [] }
    have hm0 : Mt (argE args) a0 := by
      intro t v ht
      have := argE_get args t v ht
      have hlt : t < args.length := (List.getElem?_eq_some_iff.1 this).1
      simp only [a0]
      rw [Array.getElem?_append_left (by simpa using hlt)]
      simpa using this
    have hs0 : a0.tmps.size = fn.ntmps := by
      simp only [a0]; simp; omega
    refine wpIn_mono (Q := fun e a w' => match e with
      | .normal | .ret => bodyPostM (Wf none) 0 P fn (fun en w' => w'.os = w.os ∧ w'.output = w.output ∧ match en with
        | .returned v => R v w'.heap
        | .panicked c => X c w'.heap
        | .outgrown => False) .normal a w'
      | _ => False) (vc2_sound (w0 := w) hT hm c 1 [] (argE args) a0 w _ [] _ _ h hm0 hs0 rfl rfl rfl ?_) ?_
    · have fin : ∀ D e' a' w', Mt e' a' → a'.defers = D.map mk_ → w'.os = w.os → w'.output = w.output → shut D (fun H => resP T e' H R fn.results.toList []) w'.heap →
          bodyPostM (Wf none) 0 P fn (fun en w' => w'.os = w.os ∧ w'.output = w.output ∧ match en with
            | .returned v => R v w'.heap
            | .panicked c => X c w'.heap
            | .outgrown => False) .normal a' w' := by
        intro D e' a' w' hm' hd' ho' hu' hsh
        show LeavesInM _ _ _ _ _ _ _ _ _
        rw [hd']
        refine leaves_ok D w' _ hsh fun w'' h1 h2 h3 => ?_
        obtain ⟨v, h4, h5⟩ := run_results hT hm' h3
        exact ⟨v, h4, h1.trans ho', h2.trans hu', h5⟩
      exact ⟨fun D e' a' w' hm' _ hd' ho' hu' hK => fin D e' a' w' hm' hd' ho' hu' hK, fun id k hid => by simp [exitK2] at hid, fun D e' a' w' hm' _ hd' ho' hu' hK => fin D e' a' w' hm' hd' ho' hu' hK, fun _ _ _ h => h⟩
    · intro e a w' hq
      cases e with
      | normal => exact hq
      | ret => exact hq
      | _ => exact hq.elim

/-- the condition on a call of a loaded function that ranges over functions -/
def vcH (T : Tab) (P : Program) (A : List (Nat × List Nat)) (fn : Func) (args : List Value) (H : Heap) (R : Value → Heap → Prop) : Prop := match fn.body with
  | some c => vcG T P A fn.ntmps fn.results.toList c args H R
  | none => False
theorem runs_h (hT : TabOk P T) (hm : P.follows .mixedOrders = true) {f : Nat} {fn : Func} (hf : P.funcs[f]? = some fn)
    {args : List Value} {H : Heap} {R : Value → Heap → Prop} {X : List PanicEntry → Heap → Prop} {I : Prop} (e : vcH T P A fn args H R = I) (h : I) : Runs P f args H R X := by
  have h' := Eq.mpr e h
  unfold vcH at h'
  split at h'
  · rename_i c hb
    exact runs_g hT hm hf hb h'
  · exact h'.elim
end
end Go.Proofs.YtdoimhpmnmmffaaGreat

/- Conditions on calls of functions that range over functions, printed by wip/tools/formulas_g.py; the kernel checks each against the loaded body. -/
namespace Go.Proofs.YtdoimhpmnmmffaaGreat
open Go
variable {x0 x1 x2 x3 x4 x5 x6 x7 x8 x9 : Value} {H : Heap} {R : Value → Heap → Prop}

def z24 : Value := .slice none 0 0
def z125 : Value := .slice none 0 0
-- cloister/cloisterlaw21.CellNone
def i5 (H : Heap) (R : Value → Heap → Prop) : Prop :=
 Ca Tryz.prog 8 [] H (fun x12 H1 =>
 Gt (unV .not x12) fun x13 =>
 If x13
 (R (.bool false) H1)
 (Gt (bdV z47 [(0, 1), (1, 2), (3, 1), (4, 1), (5, 1), (6, 1), (7, 1)] [(0, (.int .i64 1))]) fun x16 =>
 Gt (bsV 1 1 z55 [(0, (.pointer none))]) fun c17 =>
 Nw (.cells c17.toArray 55 (0, 0)) H1 fun b17_1 H2 =>
 Ca Tryz.prog 19 [(.pointer none), (.int .i64 0), x16, (.slice (some ⟨b17_1, 0, none⟩) 1 1)] H2 (fun x18 H3 =>
 Gt (exV 0 x18) fun x19 =>
 Gt (exV 1 x18) fun x20 =>
 Nw (.cells z67.cells 67 (0, 0)) H3 fun b2 H4 =>
 Gt (stV 10 (.pointer (some ⟨b2, 0, none⟩)) x19 H4) fun H5 =>
 Ca Tryz.prog 20 [(.pointer none)] H5 (fun x22 H6 =>
 Ca Tryz.prog 21 [(.pointer none), (.string ⟨#[97]⟩), (.int .i64 0)] H6 (fun x25 H7 =>
 Gt (exV 0 x25) fun x26 =>
 Gt (exV 1 x25) fun x27 =>
 Ca Tryz.prog 22 [(.pointer none)] H7 (fun x30 H8 =>
 Gt (exV 0 x30) fun x31 =>
 Gt (exV 1 x30) fun x32 =>
 Ca Tryz.prog 23 [(.pointer none), (.string ⟨#[]⟩), (.string ⟨#[]⟩), (.int .i64 9)] H8 (fun x34 H9 =>
 Gt ((nilEq (.func #[128] #[] false) x34 .nilFunc).map Value.bool) fun x36 =>
 If x36
 (R (.bool false) H9)
 (Nw (.cells z3.cells 3 (0, 0)) H9 fun b10 H10 =>
 Gt (stV 1 (.pointer (some ⟨b10, 0, none⟩)) (.int .i64 0) H10) fun H11 =>
 Fv x34 fun f1 fst1 cap1 => tb.fn f1 = true ∧ ∀ (r1 : Loop),
 (∀ (x38 : Value) (H12 : Heap) (R1 : Value → Heap → Prop) (X1 : List PanicEntry → Heap → Prop), At H12 (H11.size + 1) (lo r1 .ready none)
 (At H12 (H11.size + 1) (lo r1 .ready none) (Gt (rdv (.pointer (some ⟨b10, 0, none⟩)) (H12.setIfInBounds (H11.size + 1) (lo r1 .busy none))) fun x39 =>
 Gt (binI .add x39 (.int .i64 1)) fun x40 =>
 Gt (stV 1 (.pointer (some ⟨b10, 0, none⟩)) x40 (H12.setIfInBounds (H11.size + 1) (lo r1 .busy none))) fun H13 =>
 At H13 (H11.size + 1) (lo r1 .busy none) (R1 (.bool true) (H13.setIfInBounds (H11.size + 1) (lo r1 .ready none))))) →
 CallV Tryz.prog tb (.func (.yield (H11.size + 1)) #[] #[]) [x38] H12 R1 X1) →
 Runs Tryz.prog f1 (fst1 ++ [.func (.yield (H11.size + 1)) #[] #[]] ++ cap1) ((H11.push (.deferred (some []))).push (lo r1 .ready none))
 (fun _ H14 => Af (H11.size + 1) r1 H14 (fun H15 => Ca Tryz.prog 24 [(.pointer none)] H15 (fun x42 H18 =>
 Nw (.cells z79.cells 79 (0, 0)) H18 fun b11 H19 =>
 Gt (stV 2 (.pointer (some ⟨b11, 0, none⟩)) x42 H19) fun H20 =>
 Jo (fun (I2 : Value → Heap → Prop) => ∀ (H23 : Heap) (x62_1 : Value), I2 x62_1 H23 →
 If x62_1
 (At H23 (H11.size) (.deferred (some [])) (R (.bool false) (H23.setIfInBounds (H11.size) (.deferred none))))
 (Ca Tryz.prog 26 [(.pointer none)] H23 (fun x64_3 H24 =>
 Gt (binI .eql x64_3 (.int .i64 0)) fun x65_3 =>
 If x65_3 (Ca Tryz.prog 27 [(.pointer none)] H24 (fun x68_3 H25 =>
 Gt (binI .eql x68_3 (.int .i64 0)) fun x69_3 =>
 Gt (ifO x69_3 ((lnV x26).bind fun x73_3 =>
 (binI .eql x73_3 (.int .i64 0)).bind fun x74_3 =>
 (some x74_3)) ((some (.bool false)))) fun x75_3 =>
 Gt (ifO x75_3 ((unV .not x27).bind fun x78_3 =>
 (some x78_3)) ((some (.bool false)))) fun x79_3 =>
 Gt (ifO x79_3 ((binI .eql x31 (.int .i64 0)).bind fun x82_3 =>
 (some x82_3)) ((some (.bool false)))) fun x83_3 =>
 Gt (ifO x83_3 ((binI .eql x32 (.int .i64 0)).bind fun x86_3 =>
 (some x86_3)) ((some (.bool false)))) fun x87_3 =>
 Gt (ifO x87_3 ((faV 0 (.pointer (some ⟨b11, 0, none⟩))).bind fun x89_3 =>
 (rdv x89_3 H25).bind fun x90_3 =>
 (binI .eql x90_3 (.int .i64 0)).bind fun x91_3 =>
 (some x91_3)) ((some (.bool false)))) fun x92_3 =>
 Gt (ifO x92_3 ((faV 1 (.pointer (some ⟨b11, 0, none⟩))).bind fun x94_3 =>
 (rdv x94_3 H25).bind fun x95_3 =>
 (lnV x95_3).bind fun x96_3 =>
 (binI .eql x96_3 (.int .i64 0)).bind fun x97_3 =>
 (some x97_3)) ((some (.bool false)))) fun x98_3 =>
 At H25 (H11.size) (.deferred (some [])) (R x98_3 (H25.setIfInBounds (H11.size) (.deferred none)))) (fun _ _ => False)) (At H24 (H11.size) (.deferred (some [])) (R (.bool false) (H24.setIfInBounds (H11.size) (.deferred none))))) (fun _ _ => False))) fun (I2 : Value → Heap → Prop) =>
 Gt (binI .neq x20 (.int .i64 1)) fun x44 =>
 If x44 (I2 (.bool true) H20) (Gt (rda 10 (.pointer (some ⟨b2, 0, none⟩)) H20) fun x46 =>
 Ca Tryz.prog 25 [x46] H20 (fun x47 H21 =>
 Gt (unV .not x47) fun x48 =>
 Gt (ifO x48 ((some (.bool true))) ((binI .neq x22 (.int .i64 1)).bind fun x52 =>
 (some x52))) fun x53 =>
 If x53 (I2 (.bool true) H21) (Ca Tryz.prog 16 [(.pointer none)] H21 (fun x56 H22 =>
 Gt (binI .neq x56 (.int .i64 0)) fun x57 =>
 Gt (ifO x57 ((some (.bool true))) ((rdv (.pointer (some ⟨b10, 0, none⟩)) H22).bind fun x60 =>
 (binI .neq x60 (.int .i64 0)).bind fun x61 =>
 (some x61))) fun x62 =>
 I2 x62 H22) (fun _ _ => False))) (fun _ _ => False))) (fun _ _ => False)) (fun H16 => At H16 (H11.size) (.deferred (some [])) (R (.bool false) (H16.setIfInBounds (H11.size) (.deferred none)))) []) (fun _ _ => False))) (fun _ _ => False)) (fun _ _ => False)) (fun _ _ => False)) (fun _ _ => False)) (fun _ _ => False))) (fun _ _ => False)
theorem l5 {X : List PanicEntry → Heap → Prop} (h : i5 H R) : Runs Tryz.prog 5 [] H R X := runs_h tbOk mixed Tryz.func5 (A := [(32764, [62])]) (by kernel_rfl) h

-- (*cloister/wal.Log).Entries
def i169 (x0 : Value) (H : Heap) (R : Value → Heap → Prop) : Prop :=
 Ca Tryz.prog 48 [x0] H (fun x17 H1 =>
 Gt (exV 0 x17) fun x18 =>
 Gt (exV 1 x17) fun x19 =>
 Gt (exV 2 x17) fun x20 =>
 Nw (.cells z3.cells 3 (0, 0)) H1 fun b4 H2 =>
 Gt (stV 1 (.pointer (some ⟨b4, 0, none⟩)) x18 H2) fun H3 =>
 Gt ((ptrEq 2 x0 (.pointer none) H3).map Value.bool) fun x22 =>
 If x22
 (R (.tuple #[(.slice none 0 0), (.slice none 0 0)]) H3)
 (Gt (ncV tb x0) fun x25 =>
 Gt (faV 0 x25) fun x26 =>
 Gt (rdv x26 H3) fun x27 =>
 Gt (ncV tb x0) fun x29 =>
 Gt (faV 1 x29) fun x30 =>
 Gt (rdv x30 H3) fun x31 =>
 Gt (rdv (.pointer (some ⟨b4, 0, none⟩)) H3) fun x32 =>
 Gt (rdv (.pointer (some ⟨b4, 0, none⟩)) H3) fun x34 =>
 Gt (binI .sub x20 x34) fun x35 =>
 Ca Tryz.prog 206 [x27, x31, x32, x35] H3 (fun x36 H4 =>
 Gt (exV 0 x36) fun x37 =>
 Gt (exV 1 x36) fun x38 =>
 Nw (.cells z125.cells 125 (0, 0)) H4 fun b9 H5 =>
 Nw (.cells z24.cells 24 (0, 0)) H5 fun b10 H6 =>
 Ca Tryz.prog 207 [x37] H6 (fun x40 H7 =>
 Fv x40 fun f1 fst1 cap1 => tb.fn f1 = true ∧ ∀ (r1 : Loop),
 (∀ (x41 : Value) (x42 : Value) (H8 : Heap) (R1 : Value → Heap → Prop) (X1 : List PanicEntry → Heap → Prop), At H8 (H7.size + 1) (lo r1 .ready none)
 (At H8 (H7.size + 1) (lo r1 .ready none) (Ca Tryz.prog 208 [x42] (H8.setIfInBounds (H7.size + 1) (lo r1 .busy none)) (fun x45 H9 =>
 Gt (exV 0 x45) fun x46 =>
 Gt (exV 1 x45) fun x47 =>
 Nw (.cells z182.cells 182 (0, 0)) H9 fun b13 H10 =>
 Gt (stV 6 (.pointer (some ⟨b13, 0, none⟩)) x46 H10) fun H11 =>
 Gt (binI .neq x47 (.int .i64 0)) fun x49 =>
 If x49
 (At H11 (H7.size + 1) (lo r1 .busy none) (R1 (.bool false) (H11.setIfInBounds (H7.size + 1) (lo r1 .done (some (.exit 0))))))
 (Gt (rdv (.pointer (some ⟨b9, 0, none⟩)) H11) fun x50 =>
 Gt (rda 6 (.pointer (some ⟨b13, 0, none⟩)) H11) fun x51 =>
 Gt (rdv (.pointer (some ⟨b10, 0, none⟩)) H11) fun x54 =>
 Gt (rdv (.pointer (some ⟨b4, 0, none⟩)) H11) fun x55 =>
 Gt (binI .add x55 x41) fun x57 =>
 (Gt (bsV 6 1 z182 [(0, x51)]) fun c52 =>
 Nw (.cells c52.toArray 182 (0, 0)) H11 fun b52_1 H12 =>
 (Ap 182 6 72 z182 x50 (.slice (some ⟨b52_1, 0, none⟩) 1 1) H12 (fun x53 H13 =>
 Sm (rdv (.pointer (some ⟨b4, 0, none⟩)) H13) x55 <|
 Sm (rdv (.pointer (some ⟨b10, 0, none⟩)) H13) x54 <|
 Gt (bsV 1 1 z3 [(0, x57)]) fun c58 =>
 Nw (.cells c58.toArray 3 (0, 0)) H13 fun b58_1 H14 =>
 Ap 3 1 8 z3 x54 (.slice (some ⟨b58_1, 0, none⟩) 1 1) H14 (fun x59 H15 =>
 Gt (stV 1 (.pointer (some ⟨b9, 0, none⟩)) x53 H15) fun H16 =>
 Gt (stV 1 (.pointer (some ⟨b10, 0, none⟩)) x59 H16) fun H17 =>
 At H17 (H7.size + 1) (lo r1 .busy none) (R1 (.bool true) (H17.setIfInBounds (H7.size + 1) (lo r1 .ready none)))))) ∧
 (Gt (bsV 1 1 z3 [(0, x57)]) fun c58_2 =>
 Nw (.cells c58_2.toArray 3 (0, 0)) H12 fun b58_3 H18 =>
 Ap 182 6 72 z182 x50 (.slice (some ⟨b52_1, 0, none⟩) 1 1) H18 (fun x53_1 H19 =>
 Sm (rdv (.pointer (some ⟨b10, 0, none⟩)) H19) x54 <|
 Ap 3 1 8 z3 x54 (.slice (some ⟨b58_3, 0, none⟩) 1 1) H19 (fun x59_1 H20 =>
 Gt (stV 1 (.pointer (some ⟨b9, 0, none⟩)) x53_1 H20) fun H21 =>
 Gt (stV 1 (.pointer (some ⟨b10, 0, none⟩)) x59_1 H21) fun H22 =>
 At H22 (H7.size + 1) (lo r1 .busy none) (R1 (.bool true) (H22.setIfInBounds (H7.size + 1) (lo r1 .ready none))))))) ∧
 (Gt (bsV 1 1 z3 [(0, x57)]) fun c58_4 =>
 Nw (.cells c58_4.toArray 3 (0, 0)) H11 fun b58_5 H23 =>
 Gt (bsV 6 1 z182 [(0, x51)]) fun c52_2 =>
 Nw (.cells c52_2.toArray 182 (0, 0)) H23 fun b52_3 H24 =>
 Ap 182 6 72 z182 x50 (.slice (some ⟨b52_3, 0, none⟩) 1 1) H24 (fun x53_2 H25 =>
 Sm (rdv (.pointer (some ⟨b10, 0, none⟩)) H25) x54 <|
 Ap 3 1 8 z3 x54 (.slice (some ⟨b58_5, 0, none⟩) 1 1) H25 (fun x59_2 H26 =>
 Gt (stV 1 (.pointer (some ⟨b9, 0, none⟩)) x53_2 H26) fun H27 =>
 Gt (stV 1 (.pointer (some ⟨b10, 0, none⟩)) x59_2 H27) fun H28 =>
 At H28 (H7.size + 1) (lo r1 .busy none) (R1 (.bool true) (H28.setIfInBounds (H7.size + 1) (lo r1 .ready none)))))))) (fun _ _ => False))) →
 CallV Tryz.prog tb (.func (.yield (H7.size + 1)) #[] #[]) [x41, x42] H8 R1 X1) →
 Runs Tryz.prog f1 (fst1 ++ [.func (.yield (H7.size + 1)) #[] #[]] ++ cap1) ((H7.push (.deferred (some []))).push (lo r1 .ready none))
 (fun _ H29 => Af (H7.size + 1) r1 H29 (fun H30 => Gt (rdv (.pointer (some ⟨b9, 0, none⟩)) H30) fun x60_1 =>
 Gt (rdv (.pointer (some ⟨b10, 0, none⟩)) H30) fun x61_1 =>
 At H30 (H7.size) (.deferred (some [])) (R (.tuple #[x60_1, x61_1]) (H30.setIfInBounds (H7.size) (.deferred none)))) (fun H31 => At H31 (H7.size) (.deferred (some [])) (R (.tuple #[(.slice none 0 0), (.slice none 0 0)]) (H31.setIfInBounds (H7.size) (.deferred none)))) [(0, fun H32 => Gt (rdv (.pointer (some ⟨b9, 0, none⟩)) H32) fun x60 =>
 Gt (rdv (.pointer (some ⟨b10, 0, none⟩)) H32) fun x61 =>
 At H32 (H7.size) (.deferred (some [])) (R (.tuple #[x60, x61]) (H32.setIfInBounds (H7.size) (.deferred none))))]) (fun _ _ => False)) (fun _ _ => False)) (fun _ _ => False))) (fun _ _ => False)
theorem l169 {X : List PanicEntry → Heap → Prop} (h : i169 x0 H R) : Runs Tryz.prog 169 [x0] H R X := runs_h tbOk mixed Tryz.func169 (A := []) (by kernel_rfl) h

-- slices.AppendSeq[[]string,string]
def i232 (x0 x1 : Value) (H : Heap) (R : Value → Heap → Prop) : Prop :=
 Nw (.cells x0.cells 201 (0, 0)) H fun b2 H1 =>
 Fv x1 fun f1 fst1 cap1 => tb.fn f1 = true ∧ ∀ (r1 : Loop),
 (∀ (x7 : Value) (H2 : Heap) (R1 : Value → Heap → Prop) (X1 : List PanicEntry → Heap → Prop), At H2 (H1.size + 1) (lo r1 .ready none)
 (At H2 (H1.size + 1) (lo r1 .ready none) (Gt (rdv (.pointer (some ⟨b2, 0, none⟩)) (H2.setIfInBounds (H1.size + 1) (lo r1 .busy none))) fun x8 =>
 Gt (bsV 1 1 z9 [(0, x7)]) fun c10 =>
 Nw (.cells c10.toArray 9 (0, 0)) (H2.setIfInBounds (H1.size + 1) (lo r1 .busy none)) fun b10_1 H3 =>
 Ap 9 1 16 z9 x8 (.slice (some ⟨b10_1, 0, none⟩) 1 1) H3 (fun x11 H4 =>
 Gt (stV 1 (.pointer (some ⟨b2, 0, none⟩)) x11 H4) fun H5 =>
 At H5 (H1.size + 1) (lo r1 .busy none) (R1 (.bool true) (H5.setIfInBounds (H1.size + 1) (lo r1 .ready none)))))) →
 CallV Tryz.prog tb (.func (.yield (H1.size + 1)) #[] #[]) [x7] H2 R1 X1) →
 Runs Tryz.prog f1 (fst1 ++ [.func (.yield (H1.size + 1)) #[] #[]] ++ cap1) ((H1.push (.deferred (some []))).push (lo r1 .ready none))
 (fun _ H6 => Af (H1.size + 1) r1 H6 (fun H7 => Gt (rdv (.pointer (some ⟨b2, 0, none⟩)) H7) fun x12 =>
 At H7 (H1.size) (.deferred (some [])) (R x12 (H7.setIfInBounds (H1.size) (.deferred none)))) (fun H8 => At H8 (H1.size) (.deferred (some [])) (R (.slice none 0 0) (H8.setIfInBounds (H1.size) (.deferred none)))) []) (fun _ _ => False)
theorem l232 {X : List PanicEntry → Heap → Prop} (h : i232 x0 x1 H R) : Runs Tryz.prog 232 [x0, x1] H R X := runs_h tbOk mixed Tryz.func232 (A := []) (by kernel_rfl) h
end Go.Proofs.YtdoimhpmnmmffaaGreat

/- Contracts: the keys of a map, in whatever order. No condition but those in each statement. -/
namespace Go.Proofs.YtdoimhpmnmmffaaGreat
open Go IntWalk
variable {H : Heap} {R : Value → Heap → Prop} {X : List PanicEntry → Heap → Prop}

def itN (n b : Nat) (H : Heap) : Nat := match H[b]? with
  | some (.mapIter _ _ seen _) => n - seen.size
  | _ => 0
/-- the loop over a map: what was handed out -/
def KyI (H : Heap) (r M b : Nat) (es : Array MapEntry) (clock : Nat) (P : List ByteArray → Heap → Prop) (H2 : Heap) : Prop :=
  ∃ (ss : List MapEntry) (ks : List ByteArray), H2[r]? = some (.mapIter (some M) clock (ss.map (·.born)).toArray clock) ∧ H2[M]? = some (.map es clock) ∧ (∀ e ∈ ss, e ∈ es.toList) ∧ (ss.map (·.born)).Nodup ∧ ss.map (·.key) = ks.map Value.string ∧ P ks H2

theorem find_born : ∀ (es : List MapEntry) (e : MapEntry), e ∈ es → (es.map (·.born)).Nodup → es.find? (·.born == e.born) = some e
  | x :: es, e, h, hn => by
    simp only [List.map_cons, List.nodup_cons] at hn
    rcases List.mem_cons.1 h with rfl | h
    · simp
    · have : (x.born == e.born) = false := by
        rw [beq_eq_false_iff_ne]
        exact fun he => hn.1 (he ▸ List.mem_map.2 ⟨e, h, rfl⟩)
      rw [List.find?_cons, this]
      exact find_born es e h hn.2
theorem sub_len : ∀ {l m : List Nat}, l.Nodup → (∀ x ∈ l, x ∈ m) → l.length ≤ m.length
  | [], _, _, _ => Nat.zero_le _
  | a :: l, m, hn, h => by
    simp only [List.nodup_cons] at hn
    have ha := h a (List.mem_cons_self ..)
    have := sub_len (l := l) (m := m.erase a) hn.2 fun x hx => by
      have hxa : x ≠ a := fun e => hn.1 (e ▸ hx)
      exact (List.mem_erase_of_ne hxa).2 (h x (List.mem_cons_of_mem _ hx))
    rw [List.length_erase_of_mem ha] at this
    have := List.length_pos_of_mem ha
    simp only [List.length_cons]; omega

theorem perm_sub : ∀ {l m : List MapEntry}, (l.map (·.born)).Nodup → (m.map (·.born)).Nodup → (∀ x ∈ l, x ∈ m) → (∀ y ∈ m, y.born ∈ l.map (·.born)) → l.Perm m
  | [], m, _, _, _, h => by
    cases m with
    | nil => exact .refl _
    | cons y m => have := h y (List.mem_cons_self ..); simp at this
  | a :: l, m, hl, hm, hs, h => by
    obtain ⟨s, t, rfl⟩ := List.append_of_mem (hs a (List.mem_cons_self ..))
    simp only [List.map_cons, List.nodup_cons] at hl
    have hm' : ((a :: (s ++ t)).map (·.born)).Nodup := ((List.perm_middle (a := a) (l₁ := s) (l₂ := t)).map (·.born)).nodup_iff.1 hm
    simp only [List.map_cons, List.nodup_cons] at hm'
    refine (List.Perm.cons a (perm_sub hl.2 hm'.2 (fun x hx => ?_) fun y hy => ?_)).trans List.perm_middle.symm
    · have hx' := hs x (List.mem_cons_of_mem _ hx)
      have hne : x ≠ a := fun e => hl.1 (e ▸ List.mem_map.2 ⟨x, hx, rfl⟩)
      rcases List.mem_append.1 hx' with hx' | hx'
      · exact List.mem_append_left _ hx'
      · rcases List.mem_cons.1 hx' with hx' | hx'
        · exact absurd hx' hne
        · exact List.mem_append_right _ hx'
    · have hy' : y ∈ s ++ a :: t := by
        rcases List.mem_append.1 hy with hy | hy
        · exact List.mem_append_left _ hy
        · exact List.mem_append_right _ (List.mem_cons_of_mem _ hy)
      have := h y hy'
      simp only [List.map_cons, List.mem_cons] at this
      rcases this with h1 | h1
      · exact absurd (h1 ▸ List.mem_map.2 ⟨y, hy, rfl⟩) hm'.1
      · exact h1
def unStr : Value → ByteArray
  | .string s => s
  | _ => ⟨#[]⟩
theorem perm_str {l m : List ByteArray} (h : (l.map Value.string).Perm (m.map Value.string)) : l.Perm m := by
  have := h.map unStr
  simpa [List.map_map, Function.comp_def, unStr] using this
theorem c300 {b M : Nat} {kvs : List (ByteArray × Value)} {yv : Value} {P : List ByteArray → Heap → Prop} {N : Nat → Prop} (hb : H[b]? = some (.cells #[.map (some M)] 320 (0, 0))) (h : MpRep H M kvs) (h0 : P [] H)
    (hP : ∀ ks H1 H2, Keep (fun c => c = H.size) H1 H2 → P ks H1 → P ks H2) (hN : ¬ N M ∧ ¬ N H.size)
    (step : ∀ ks k H1, H.size < H1.size → P ks H1 → (∃ p ∈ kvs, p.1 = k) → ks.length < kvs.length → ∀ (R' : Value → Heap → Prop), (∀ H2, P (ks ++ [k]) H2 → Keep N H1 H2 → R' (.bool true) H2) → CallV Tryz.prog tb yv [.string k] H1 R' X)
    (hR : ∀ ks H1, P ks H1 → ks.Perm (kvs.map (·.1)) → R (.tuple #[]) H1) : Runs Tryz.prog 300 [yv, .pointer (some ⟨b, 0, none⟩)] H R X := by
  refine l300 ?_
  unfold i300
  obtain ⟨es, clock, hm, he, hborn, hnd⟩ := h.blk
  have r0 : rdc H b 0 = some (.map (some M)) := by rw [rdc_of hb]; rfl
  have e1 : rgV (.map (some M)) H = some (.mapIter (some M) clock #[] clock) := by simp only [rgV, hm]
  simp only [rdv_ptr, r0, Gt_some, e1, Nw_iff]
  have hlen : es.toList.length = kvs.length := by have := congrArg List.length he; simpa using this
  have hM : M < H.size := lt_of_get hm
  refine ⟨KyI H H.size M b es clock P, itN es.size H.size, ⟨[], [], get_push_eq, (get_push_lt hM).trans hm, (fun _ h => by cases h), .nil, rfl, hP _ _ _ .push h0⟩, ?_⟩
  rintro H2 ⟨ss, ks, hr, hm2, hsub, hssn, hks, hp⟩
  have hlt := lt_of_get hr
  refine .some H.size M clock clock (ss.map (·.born)).toArray none es rfl hr hm2 hborn hborn (fun e hee hnew => ?_) fun hall => ?_
  · have x0 : exV 0 (.tuple #[.bool true, e.key, e.val]) = some (.bool true) := rfl
    simp only [x0, Gt_some, If_true]
    generalize hH3 : H2.setIfInBounds H.size _ = H3
    have hnew' : e.born ∉ ss.map (·.born) := by simpa using hnew
    have hr3 : H3[H.size]? = some (.mapIter (some M) clock ((ss ++ [e]).map (·.born)).toArray clock) := by
      rw [← hH3, get_set_eq hlt]
      congr 2
      simp
    have k3 : Keep (fun c => c = H.size) H2 H3 := by rw [← hH3]; exact .set rfl
    have hm3 : H3[M]? = some (.map es clock) := k3.at hm2 (by omega)
    have e2 : enV (.pointer (some ⟨H.size, 0, none⟩)) H3 = some (.tuple #[e.key, e.val]) := by
      simp only [enV, hr3, hm3]
      have : ((ss ++ [e]).map (·.born)).toArray.back? = some e.born := by simp
      rw [this]
      simp only [if_true]
      have := find_born es.toList e hee hnd
      have e3 : es.find? (·.born == e.born) = some e := by rw [← this]; simp
      rw [e3]; rfl
    have x1 : exV 0 (.tuple #[e.key, e.val]) = some e.key := rfl
    simp only [e2, x1, Gt_some]
    obtain ⟨k, hk, hmem⟩ : ∃ k, e.key = .string k ∧ ∃ p ∈ kvs, p.1 = k := by
      obtain ⟨i, hi, rfl⟩ := List.getElem_of_mem hee
      have hi' : i < kvs.length := by omega
      have := congrArg (fun l => l[i]?) he
      simp only [List.getElem?_map, List.getElem?_eq_getElem hi, List.getElem?_eq_getElem hi', Option.map_some, Option.some.injEq, Prod.mk.injEq] at this
      exact ⟨kvs[i].1, this.1, _, List.getElem_mem hi', rfl⟩
    rw [hk]
    have hlen1 : ss.length + 1 ≤ es.toList.length := by
      have hnd1 : ((ss ++ [e]).map (·.born)).Nodup := by
        rw [List.map_append, List.nodup_append]
        refine ⟨hssn, by simp, fun x hx y hy => ?_⟩
        simp only [List.map_cons, List.map_nil, List.mem_singleton] at hy
        subst hy
        exact fun e => hnew' (e ▸ hx)
      have := sub_len (m := es.toList.map (·.born)) hnd1 fun x hx => by
        obtain ⟨y, hy, rfl⟩ := List.mem_map.1 hx
        refine List.mem_map.2 ⟨y, ?_, rfl⟩
        rcases List.mem_append.1 hy with hy | hy
        · exact hsub y hy
        · simp only [List.mem_singleton] at hy; subst hy; exact hee
      simpa using this
    have hkl : ks.length = ss.length := by have := congrArg List.length hks; simpa using this.symm
    refine ⟨step ks k H3 (by have := k3.size; omega) (hP _ _ _ k3 hp) hmem (by omega) _ fun H4 hp4 k4 => ?_⟩
    simp only [unV_not, Bool.not_true, Gt_some, If_false]
    have hr4 := k4.at hr3 hN.2
    refine ⟨⟨ss ++ [e], ks ++ [k], hr4, k4.at hm3 hN.1, fun x hx => ?_, ?_, by simp [hks, hk], hp4⟩, ?_⟩
    · rcases List.mem_append.1 hx with hx | hx
      · exact hsub x hx
      · simp only [List.mem_singleton] at hx; subst hx; exact hee
    · rw [List.map_append, List.nodup_append]
      refine ⟨hssn, by simp, fun x hx y hy => ?_⟩
      simp only [List.map_cons, List.map_nil, List.mem_singleton] at hy
      subst hy
      exact fun e => hnew' (e ▸ hx)
    · have h1 : itN es.size H.size H4 = es.size - (ss.length + 1) := by unfold itN; rw [hr4]; simp
      have h2 : itN es.size H.size H2 = es.size - ss.length := by unfold itN; rw [hr]; simp
      rw [h1, h2]
      have h3 : es.toList.length = es.size := by simp
      have h4 : es.size - (ss.length + 1) < es.size - ss.length := by omega
      exact h4
  · have x0 : exV 0 (.tuple #[.bool false]) = some (.bool false) := rfl
    simp only [x0, Gt_some, If_false]
    refine hR ks H2 hp ?_
    -- the same entries
    have hperm : ss.Perm es.toList := perm_sub hssn hnd hsub fun y hy => by simpa using hall y hy
    have h1 := hperm.map (·.key)
    have h2 : es.toList.map (·.key) = (kvs.map (·.1)).map Value.string := by
      have := congrArg (List.map Prod.fst) he
      simpa [List.map_map, Function.comp_def] using this
    rw [hks, h2] at h1
    exact perm_str h1
end Go.Proofs.YtdoimhpmnmmffaaGreat

/- Contracts: the keys of a map as a list; a list of no more than one text is sorted. No condition but those in each statement. -/
namespace Go.Proofs.YtdoimhpmnmmffaaGreat
open Go IntWalk
variable {H : Heap} {R : Value → Heap → Prop} {X : List PanicEntry → Heap → Prop}

/-- an owned list of texts -/
def OS (H : Heap) (v : Value) (l : List ByteArray) : Prop := Own 9 1 H v l.length (l.map Value.string)
theorem OS.keep {M : Nat → Prop} {H H' : Heap} {v : Value} {l : List ByteArray} (h : OS H v l) (k : Keep M H H') (hm : ∀ b, ob v b → ¬ M b) : OS H' v l := Own.keep h k hm
theorem OS.sl {H : Heap} {v : Value} {l : List ByteArray} (h : OS H v l) : SlC H v 1 (l.map fun d => [Value.string d]) := by
  refine Own.slc (z := 9) (size := 1) ?_ fun c hc => ?_
  · have h : Own 9 1 H v l.length (l.map Value.string) := h
    rw [flat1 Value.string l]; simpa using h
  · obtain ⟨d, _, rfl⟩ := List.mem_map.1 hc
    rfl
theorem OS.len {H : Heap} {v : Value} {l : List ByteArray} (h : OS H v l) : lnV v = some (.int .i64 l.length) := by
  have := h.sl.len; simpa using this
theorem OS.at {H : Heap} {v : Value} {l : List ByteArray} (h : OS H v l) {j : Nat} (hj : j < l.length) : ∃ p, iaV 1 v (.int .i64 j) = some p ∧ rdv p H = some (.string l[j]) := SlC.at1 h.sl (by simpa using hj) (by simp)
theorem Own.one {z size n : Nat} {H : Heap} {v : Value} {xs : List Value} (h : Own z size H v n xs) : v.cells = #[v] ∧ v.oneCell' = true := by
  cases h <;> exact ⟨rfl, rfl⟩

/-- the list that is gathered -/
def KsP (H0 : Heap) (b d l : Nat) (r : Loop) (ks : List ByteArray) (H : Heap) : Prop :=
  ∃ v, H[b]? = some (.cells #[v] 201 (0, 0)) ∧ OS H v ks ∧ (∀ c, ob v c → l + 2 ≤ c) ∧ H[l]? = some (lo r .ready none) ∧ H[d]? = some (.deferred (some [])) ∧ Keep no H0 H
theorem c232 {b M : Nat} {kvs : List (ByteArray × Value)} (hb : H[b]? = some (.cells #[.map (some M)] 320 (0, 0))) (h : MpRep H M kvs) (hl : kvs.length ≤ 1099511627776)
    (hR : ∀ v ks H', Keep no H H' → (∀ c, ob v c → H.size ≤ c) → OS H' v ks → ks.Perm (kvs.map (·.1)) → R v H') : Runs Tryz.prog 232 [.slice none 0 0, .func (.func 300) #[] #[.pointer (some ⟨b, 0, none⟩)]] H R X := by
  refine l232 ?_
  unfold i232
  have hc : (Value.slice none 0 0).cells = #[.slice none 0 0] := rfl
  simp only [Nw_iff, hc]
  generalize hH1 : H.push (.cells #[.slice none 0 0] 201 (0, 0)) = H1
  have hb1 : H1[H.size]? = some (.cells #[.slice none 0 0] 201 (0, 0)) := by rw [← hH1]; exact get_push_eq
  have k1 : Keep no H H1 := by rw [← hH1]; exact .push
  have s1 : H1.size = H.size + 1 := by rw [← hH1]; simp
  refine ⟨300, [], [.pointer (some ⟨b, 0, none⟩)], rfl, rfl, fun r hy => ?_⟩
  generalize hH2 : (H1.push (.deferred (some []))).push (lo r .ready none) = H2
  have s2 : H2.size = H1.size + 2 := by rw [← hH2]; simp
  have hd2 : H2[H1.size]? = some (.deferred (some [])) := by rw [← hH2, get_push_lt (by simp)]; exact get_push_eq
  have hl2 : H2[H1.size + 1]? = some (lo r .ready none) := by
    rw [← hH2]
    have := get_push_eq (H := H1.push (.deferred (some []))) (o := lo r .ready none)
    simpa using this
  have k2 : Keep no H1 H2 := by rw [← hH2]; exact Keep.push.trans .push
  have k02 := k1.trans k2
  have hM := h.lt
  have hbl := lt_of_get hb
  refine c300 (N := fun c => c = H.size ∨ c = H1.size + 1 ∨ H2.size < c) (P := KsP H H.size H1.size (H1.size + 1) r) (k02.at hb fun h => h) (h.keep k02 fun h => h) ?_ ?_ ?_ ?_ ?_
  · exact ⟨_, k2.at hb1 fun h => h, .nil, fun c hc => (ob_nil hc).elim, hl2, hd2, k02⟩
  · rintro ks H3 H4 k ⟨v, h1, h2, h3, h4, h5, h6⟩
    have hne : ∀ c, c < H.size + 3 → c ≠ H2.size := fun c hc => by omega
    exact ⟨v, k.at h1 (hne _ (by omega)), h2.keep k fun c hc e => by have := h3 c hc; omega, h3, k.at h4 (hne _ (by omega)), k.at h5 (hne _ (by omega)), h6.trans' k fun c e => .inr (by omega)⟩
  · refine ⟨?_, ?_⟩
    · rintro (e | e | e) <;> omega
    · rintro (e | e | e) <;> omega
  · rintro ks k H3 hs3 ⟨v, h1, h2, h3, h4, h5, h6⟩ hmem hlen R' hR'
    refine hy (.string k) H3 R' _ ⟨h4, ⟨h4, ?_⟩⟩
    generalize hH4 : H3.setIfInBounds (H1.size + 1) (lo r .busy none) = H4
    have k4 : Keep (fun c => c = H1.size + 1) H3 H4 := by rw [← hH4]; exact .set rfl
    have hb4 := k4.at h1 (by omega)
    have hd4 := k4.at h5 (by omega)
    have hl4 : H4[H1.size + 1]? = some (lo r .busy none) := by rw [← hH4]; exact get_set_eq (lt_of_get h4)
    have r4 : rdc H4 H.size 0 = some v := by rw [rdc_of hb4]; rfl
    have e1 : bsV 1 1 z9 [(0, .string k)] = some [.string k] := bsV_one rfl rfl
    have o4 : OS H4 v ks := h2.keep k4 fun c hc e => by have := h3 c hc; omega
    simp only [rdv_ptr, r4, Gt_some, e1, Nw_iff]
    refine ap_elem o4 rfl (by rfl) rfl (by omega) fun w H5 k5 f5 o5 => ?_
    have hvb : ¬ ob v H.size := fun hc => by have := h3 _ hc; omega
    have hvd : ¬ ob v H1.size := fun hc => by have := h3 _ hc; omega
    have hvl : ¬ ob v (H1.size + 1) := fun hc => by have := h3 _ hc; omega
    have hb5 := k5.at hb4 hvb
    have e2 := stV1 (o := 0) (v := w) hb5 (by simp) o5.one.1 o5.one.2
    simp only [e2, Gt_some]
    generalize hH6 : H5.setIfInBounds H.size _ = H6
    have k6 : Keep (fun c => c = H.size) H5 H6 := by rw [← hH6]; exact .set rfl
    have hb6 : H6[H.size]? = some (.cells #[w] 201 (0, 0)) := by rw [← hH6]; exact get_set_eq (lt_of_get hb5)
    have hl6 : H6[H1.size + 1]? = some (lo r .busy none) := k6.at (k5.at hl4 hvl) (by omega)
    have hd6 : H6[H1.size]? = some (.deferred (some [])) := k6.at (k5.at hd4 hvd) (by omega)
    refine ⟨hl6, ?_⟩
    generalize hH7 : H6.setIfInBounds (H1.size + 1) (lo r .ready none) = H7
    have k7 : Keep (fun c => c = H1.size + 1) H6 H7 := by rw [← hH7]; exact .set rfl
    have s4 := k4.size
    have fw : ∀ c, ob w c → H2.size < c := fun c hc => by
      rcases f5 c hc with h | h
      · have := h3 c h; omega
      · omega
    have o6 : OS H6 w (ks ++ [k]) := by
      have : OS H5 w (ks ++ [k]) := by unfold OS; simpa using o5
      exact this.keep k6 fun c hc e => by have := fw c hc; omega
    refine hR' H7 ⟨w, k7.at hb6 (by omega), o6.keep k7 fun c hc e => by have := fw c hc; omega, fun c hc => by have := fw c hc; omega, ?_, k7.at hd6 (by omega), ?_⟩ ?_
    · rw [← hH7]; exact get_set_eq (lt_of_get hl6)
    · have q5 : Keep no H H5 := (h6.trans' k4 fun c e => .inr (by omega)).trans' k5 fun c hc => .inr (by have := h3 c hc; omega)
      exact (q5.trans' k6 fun c e => .inr (by omega)).trans' k7 fun c e => .inr (by omega)
    · exact (((k4.mono fun c _ e => .inr (.inl e)).trans (k5.mono fun c _ hc => .inr (.inr (by have := h3 c hc; omega)))).trans (k6.mono fun c _ e => .inl e)).trans (k7.mono fun c _ e => .inr (.inl e))
  · rintro ks H3 ⟨v, h1, h2, h3, h4, h5, h6⟩ hperm
    refine .fin .ready (by decide) h4 ?_
    generalize hH4 : H3.setIfInBounds (H1.size + 1) (lo r .exhausted none) = H4
    have k4 : Keep (fun c => c = H1.size + 1) H3 H4 := by rw [← hH4]; exact .set rfl
    have hb4 := k4.at h1 (by omega)
    have hd4 := k4.at h5 (by omega)
    have r4 : rdc H4 H.size 0 = some v := by rw [rdc_of hb4]; rfl
    simp only [rdv_ptr, r4, Gt_some]
    refine ⟨hd4, ?_⟩
    have k5 : Keep (fun c => c = H1.size) H4 (H4.setIfInBounds H1.size (.deferred none)) := .set rfl
    refine hR v ks _ ((h6.trans' k4 fun c e => .inr (by omega)).trans' k5 fun c e => .inr (by omega)) (fun c hc => by have := h3 c hc; omega) ((h2.keep k4 fun c hc e => by have := h3 c hc; omega).keep k5 fun c hc e => by have := h3 c hc; omega) hperm
theorem c200 {b M : Nat} {kvs : List (ByteArray × Value)} (hb : H[b]? = some (.cells #[.map (some M)] 320 (0, 0))) (h : MpRep H M kvs) (hl : kvs.length ≤ 1099511627776)
    (hR : ∀ v ks H', Keep no H H' → (∀ c, ob v c → H.size ≤ c) → OS H' v ks → ks.Perm (kvs.map (·.1)) → R v H') : Runs Tryz.prog 200 [.func (.func 300) #[] #[.pointer (some ⟨b, 0, none⟩)]] H R X :=
  l200 ⟨c232 hb h hl hR⟩
/-! ### a list of no more than one text -/
theorem c276 {v : Value} {n : Nat} (hn : n ≤ 1) (hR : R (.tuple #[]) H) : Runs Tryz.prog 276 [v, .int .i64 0, .int .i64 n] H R X := by
  refine l276 ?_
  unfold i276
  have e1 : IntKind.i64.wrap (0 + 1 : Int) = 1 := i64_in _ (by omega)
  simp only [binI_add, e1, Gt_some]
  refine ⟨fun (y : Value) (H1 : Heap) => y = .int .i64 1 ∧ H1 = H, fun _ _ => 0, ⟨rfl, rfl⟩, ?_⟩
  rintro H1 y ⟨rfl, rfl⟩
  have e2 : decide ((1 : Int) < n) = false := by simp; omega
  simp only [binI_lss, e2, Gt_some, If_false]
  exact hR
theorem c233 {v x : Value} {n : Nat} (hn : n ≤ 1) (hR : R (.tuple #[]) H) : Runs Tryz.prog 233 [v, .int .i64 0, .int .i64 n, x] H R X := by
  refine l233 ?_
  unfold i233
  refine ⟨fun (a b c d e : Value) (H1 : Heap) => a = .int .i64 0 ∧ b = .int .i64 n ∧ H1 = H, fun _ _ _ _ _ _ => 0, ⟨rfl, rfl, rfl⟩, ?_⟩
  rintro H1 a b c d e ⟨rfl, rfl, rfl⟩
  have e1 : IntKind.i64.wrap ((n : Int) - 0) = n := by rw [i64_in _ (by omega)]; omega
  have e2 : decide ((n : Int) ≤ 12) = true := by simp; omega
  simp only [binI_sub, e1, binI_leq, e2, Gt_some, If_true]
  exact ⟨c276 hn hR⟩
theorem c286 {n : Nat} (hn : n ≤ 1) (hR : R (.int .i64 n) H) : Runs Tryz.prog 286 [.int .u64 n] H R X := by
  refine l286 ?_
  unfold i286
  have e1 : decide ((n : Int) ≥ 4294967296) = false := by simp; omega
  have e2 : decide ((n : Int) ≥ 65536) = false := by simp; omega
  have e3 : decide ((n : Int) ≥ 256) = false := by simp; omega
  refine ⟨.bool false, by rw [binI_geq, e1], Jo2 (If_false.2 ?_)⟩
  refine ⟨.bool false, by rw [binI_geq, e2], Jo2 (If_false.2 ?_)⟩
  refine ⟨.bool false, by rw [binI_geq, e3], Jo2 (If_false.2 ?_)⟩
  have h01 : n = 0 ∨ n = 1 := by omega
  rcases h01 with rfl | rfl
  · exact ⟨.int .u8 0, rfl, ⟨.int .u8 0, by kernel_rfl, ⟨.int .i64 0, rfl, ⟨.int .i64 0, rfl, hR⟩⟩⟩⟩
  · exact ⟨.int .u8 1, rfl, ⟨.int .u8 1, by kernel_rfl, ⟨.int .i64 1, rfl, ⟨.int .i64 1, rfl, hR⟩⟩⟩⟩
theorem c201 {v : Value} {n : Nat} (hl : lnV v = some (.int .i64 n)) (hn : n ≤ 1) (hR : R (.tuple #[]) H) : Runs Tryz.prog 201 [v] H R X := by
  refine l201 ?_
  unfold i201
  have e1 : cvV .u64 (.int .i64 n) = some (.int .u64 n) := by rw [cvV_int, u64_in _ (by omega)]
  simp only [hl, e1, Gt_some]
  refine ⟨l234 ?_⟩
  unfold i234
  simp only [If_false]
  exact ⟨c286 hn ⟨c233 hn hR⟩⟩
theorem c159 {b M : Nat} {kvs : List (ByteArray × Value)} (hb : H[b]? = some (.cells #[.map (some M)] 320 (0, 0))) (h : MpRep H M kvs) (hl : kvs.length ≤ 1)
    (hR : ∀ v H', Keep no H H' → (∀ c, ob v c → H.size ≤ c) → OS H' v (kvs.map (·.1)) → R v H') : Runs Tryz.prog 159 [.func (.func 300) #[] #[.pointer (some ⟨b, 0, none⟩)]] H R X := by
  refine l159 ⟨c200 hb h (by omega) fun v ks H1 k1 f1 o1 hp => ?_⟩
  have hlen : ks.length = kvs.length := by have := hp.length_eq; simpa using this
  have he : ks = kvs.map (·.1) := by
    cases kvs with
    | nil => exact hp.eq_nil
    | cons p t =>
      have ht : t = [] := by
        cases t with
        | nil => rfl
        | cons _ _ => simp at hl
      subst ht
      exact List.perm_singleton.1 hp
  exact ⟨c201 o1.len (by omega) (hR v H1 k1 f1 (he ▸ o1))⟩
end Go.Proofs.YtdoimhpmnmmffaaGreat

/- Contracts of the package wset: all writes. No condition but those in each statement. -/
namespace Go.Proofs.YtdoimhpmnmmffaaGreat
open Go IntWalk
variable {H : Heap} {R : Value → Heap → Prop} {X : List PanicEntry → Heap → Prop}

structure Vsn where
  key : ByteArray
  stamp : Int
  v : Value
  bs : List UInt8
  dead : Bool
def Vsn.c (w : Vsn) : List Value := [.string w.key, .int .i64 w.stamp, w.v, .bool w.dead]
abbrev VP := ByteArray × Int × List UInt8 × Bool
def Vsn.p (w : Vsn) : VP := (w.key, w.stamp, w.bs, w.dead)
def Wrt.q (w : Wrt) : VP := (w.key, 0, w.bs, w.dead)
/-- an owned list of versions with their values -/
structure VrSl (H : Heap) (x : Value) (vs : List Vsn) : Prop where
  own : Own 190 4 H x vs.length (vs.map Vsn.c).flatten
  vals : ∀ w ∈ vs, OB H w.v w.bs
def vrF (x : Value) (vs : List Vsn) (b : Nat) : Prop := ob x b ∨ ∃ w ∈ vs, ob w.v b
theorem VrSl.keep {M : Nat → Prop} {H H' : Heap} {x : Value} {vs : List Vsn} (h : VrSl H x vs) (k : Keep M H H') (hm : ∀ b, vrF x vs b → ¬ M b) : VrSl H' x vs :=
  ⟨h.own.keep k fun b hb => hm b (.inl hb), fun w hw => (h.vals w hw).keep k fun b hb => hm b (.inr ⟨w, hw, hb⟩)⟩
theorem VrSl.lt {H : Heap} {x : Value} {vs : List Vsn} (h : VrSl H x vs) : ∀ b, vrF x vs b → b < H.size := by
  rintro b (hb | ⟨w, hw, hb⟩)
  · exact h.own.lt hb
  · exact (h.vals w hw).lt hb
theorem VrSl.sl {H : Heap} {x : Value} {vs : List Vsn} (h : VrSl H x vs) : SlC H x 4 (vs.map Vsn.c) := by
  refine Own.slc (z := 190) (by simpa using h.own) fun c hc => ?_
  obtain ⟨w, _, rfl⟩ := List.mem_map.1 hc
  rfl
theorem VrSl.ln {H : Heap} {x : Value} {vs : List Vsn} (h : VrSl H x vs) : lnV x = some (.int .i64 vs.length) := by
  have := h.sl.len; simpa using this
theorem VrSl.at {H : Heap} {x : Value} {vs : List Vsn} (h : VrSl H x vs) {j : Nat} (hj : j < vs.length) :
    ∃ b o, iaV 4 x (.int .i64 j) = some (.pointer (some ⟨b, o, none⟩)) ∧ rda 4 (.pointer (some ⟨b, o, none⟩)) H = some (verV vs[j].key vs[j].stamp vs[j].v vs[j].dead) ∧ rdc H b o = some (.string vs[j].key) := by
  have hl : j < (vs.map Vsn.c).length := by simpa using hj
  obtain ⟨b, o, h1, _, h3⟩ := h.sl.els j hl
  have h4 : (vs.map Vsn.c)[j] = vs[j].c := by simp
  rw [h4] at h3
  refine ⟨b, o, h1, ?_, ?_⟩
  · rw [rda_ptr, h3]; rfl
  · have := rdn_get 4 o h3 0 (by omega)
    simpa [Vsn.c] using this
theorem VrSl.nil {H : Heap} : VrSl H (.slice none 0 0) [] := ⟨.nil, fun w h => by cases h⟩

theorem ver_put {H : Heap} {b : Nat} {k : ByteArray} {s : Int} {v : Value} {dead : Bool} {cs : Array Value} (hb : H[b]? = some (.cells cs 190 (0, 0))) (hcs : cs.size = 4) (hv : v.oneCell' = true) :
    ∃ H', stV 4 (.pointer (some ⟨b, 0, none⟩)) (verV k s v dead) H = some H' ∧ rda 4 (.pointer (some ⟨b, 0, none⟩)) H' = some (verV k s v dead) ∧ Keep (fun c => c = b) H H' ∧ H'[b]? = some (.cells #[.string k, .int .i64 s, v, .bool dead] 190 (0, 0)) := by
  have hc : (verV k s v dead).cells = #[.string k, .int .i64 s, v, .bool dead] := rfl
  have hg := get_set_eq (o := .cells #[.string k, .int .i64 s, v, .bool dead] 190 (0, 0)) (lt_of_get hb)
  refine ⟨H.setIfInBounds b (.cells #[.string k, .int .i64 s, v, .bool dead] 190 (0, 0)), ?_, ?_, .set rfl, hg⟩
  · rw [stV_of hb (by rw [hc]; rfl) (by decide) (by omega) (by rw [hc]; simp only [List.all_cons, List.all_nil, hv]; rfl)]
    congr 3
    have : cs.toList.drop 4 = [] := List.drop_of_length_le (by simp [hcs])
    simp [putL, hc, this]
  · rw [rda_ptr, rdn_at hg 4 0 (by simp)]; rfl
theorem c253 {k : ByteArray} {v : Value} {bs : List UInt8} {dead : Bool} (hv : OB H v bs) (hb : bs.length ≤ 4096)
    (hR : ∀ w H', New H H' w bs → R (verV k 0 w dead) H') : Runs Tryz.prog 253 [.string k, wrV v dead] H R X := by
  refine l253 ?_
  unfold i253
  have hc : (wrV v dead).cells = #[v, .bool dead] := rfl
  simp only [Nw_iff, hc]
  generalize hH1 : H.push (.cells #[v, .bool dead] 359 (0, 0)) = H1
  have hb1 : H1[H.size]? = some (.cells #[v, .bool dead] 359 (0, 0)) := by rw [← hH1]; exact get_push_eq
  have k1 : Keep no H H1 := by rw [← hH1]; exact .push
  generalize hH2 : H1.push (.cells z190.cells 190 (0, 0)) = H2
  have hb2 : H2[H1.size]? = some (.cells z190.cells 190 (0, 0)) := by rw [← hH2]; exact get_push_eq
  have k2 : Keep no H1 H2 := by rw [← hH2]; exact .push
  have hb12 := k2.at hb1 fun h => h
  have r0 : rdc H2 H.size 0 = some v := by rw [rdc_of hb12]; rfl
  have r1 : rdc H2 H.size 1 = some (.bool dead) := by rw [rdc_of hb12]; rfl
  simp only [faV_ptr, Nat.zero_add, Gt_some, rdv_ptr, r0, r1]
  have k02 := k1.trans k2
  refine ⟨c263 (hv.by.keep k02 fun _ _ h => h) (by omega) fun w H3 k3 f3 o3 => ?_⟩
  have r3 : rdc H3 H.size 1 = some (.bool dead) := by rw [rdc_of (k3.at hb12 fun h => h)]; rfl
  have e1 : bdV z190 [(0, 1), (1, 1), (2, 1), (3, 1)] [(0, .string k), (2, w), (3, .bool dead)] = some (verV k 0 w dead) := by
    obtain ⟨a, c, rfl⟩ := o3.bs.sl
    rfl
  obtain ⟨H4, p1, p2, p3, _⟩ := ver_put (k := k) (s := 0) (v := w) (dead := dead) (k3.at hb2 fun h => h) rfl o3.one.2
  simp only [rdv_ptr, r3, Sm_some, e1, Gt_some, p1, p2]
  have s1 := k1.size
  have s2 := k02.size
  refine hR w H4 ⟨(k02.trans k3).trans' p3 fun c e => .inr (by omega), fun c hc => Nat.le_trans s2 (f3 c hc), o3.keep p3 fun c hc e => ?_⟩
  have := f3 c hc
  have := lt_of_get hb2
  omega

def WtI (H : Heap) (ws : List Wrt) (ks : List ByteArray) (x y : Value) (H1 : Heap) : Prop :=
  ∃ (k : Nat) (vs : List Vsn), k ≤ ks.length ∧ y = .int .i64 k ∧ vs.length = k ∧ (∀ j (h : j < vs.length) (h' : j < ks.length), ∃ w ∈ ws, w.key = ks[j] ∧ vs[j].p = w.q) ∧ Keep no H H1 ∧ (∀ b, vrF x vs b → H.size ≤ b) ∧ VrSl H1 x vs
theorem ob_cells {v : Value} {z size n : Nat} {xs : List Value} {H : Heap} (h : Own z size H v n xs) {u : Value} {z' size' m : Nat} {ys : List Value} (h' : Own z' size' H u m ys) (hz : z ≠ z') {b : Nat} (hb : ob v b) (hb' : ob u b) : False := by
  obtain ⟨cs, h1⟩ := h.typ hb
  obtain ⟨ds, h2⟩ := h'.typ hb'
  rw [h1] at h2; simp at h2; exact hz h2.2
theorem c228 {W M : Nat} {ws : List Wrt} (h : WsRep H W M ws) (hl : ws.length ≤ 1)
    (hR : ∀ x vs H', Keep no H H' → (∀ b, vrF x vs b → H.size ≤ b) → VrSl H' x vs → vs.map Vsn.p = ws.map Wrt.q → R x H') : Runs Tryz.prog 228 [.pointer (some ⟨W, 0, none⟩)] H R X := by
  refine l228 ?_
  unfold i228
  have r0 : rdc H W 0 = some (.map (some M)) := by rw [rdc_of h.wr.blk]; rfl
  simp only [ptrEq_nil_r, Option.isNone_some, Option.map_some, Gt_some, If_false, ncV_ptr, faV_ptr, Nat.zero_add, rdv_ptr, r0]
  refine ⟨l273 ?_⟩
  unfold i273
  have hc : (Value.map (some M)).cells = #[.map (some M)] := rfl
  simp only [Nw_iff, hc]
  generalize hH1 : H.push (.cells #[.map (some M)] 320 (0, 0)) = H1
  have hb1 : H1[H.size]? = some (.cells #[.map (some M)] 320 (0, 0)) := by rw [← hH1]; exact get_push_eq
  have k1 : Keep no H H1 := by rw [← hH1]; exact .push
  have h1 := h.keep k1 fun _ _ h => h
  refine ⟨c159 hb1 h1.wr.map (by simpa using hl) fun v H2 k2 f2 o2 => ?_⟩
  have ek : (ws.map Wrt.p).map (·.1) = ws.map (·.key) := by simp [Wrt.p]
  rw [ek] at o2
  have h2 := h1.keep k2 fun _ _ h => h
  have hkl : (ws.map (·.key)).length = ws.length := by simp
  have ho := o2.len
  rw [hkl] at ho
  simp only [ho, Gt_some]
  refine ⟨fun (x y : Value) (H3 : Heap) => WtI H2 ws (ws.map (·.key)) x y H3, fun (_ y : Value) (_ : Heap) => decr ws.length y, ⟨0, [], by omega, rfl, rfl, fun j h => by simp at h, .refl _, ?_, .nil⟩, ?_⟩
  · rintro b (hb | ⟨w, hw, _⟩)
    · exact (ob_nil hb).elim
    · cases hw
  rintro H3 x y ⟨k, vs, hk, rfl, hvl, hvs, k3, f3, o3⟩
  rw [hkl] at hk
  simp only [binI_lss, Gt_some, If_iff, decide_eq_true_eq, decide_eq_false_iff_not]
  refine ⟨fun hlt => ?_, fun hge => ?_⟩
  · have hlt : k < ws.length := by omega
    have o23 := o2.keep k3 fun _ _ h => h
    have h3 := h2.keep k3 fun _ _ h => h
    obtain ⟨p, q1, q2⟩ := o23.at (j := k) (by simpa using hlt)
    have r3 : rdc H3 W 0 = some (.map (some M)) := by rw [rdc_of h3.wr.blk]; rfl
    simp only [q1, q2, Gt_some, ncV_ptr, faV_ptr, Nat.zero_add, rdv_ptr, r3]
    have hkk : (ws.map (·.key))[k]'(by simpa using hlt) = ws[k].key := by simp
    rw [hkk]
    rcases h3.wr.map.get z359 ws[k].key with ⟨g1, _⟩ | ⟨j, hj, g1, g2, _⟩
    · exact absurd rfl (g1 ws[k].p (List.mem_map.2 ⟨_, List.getElem_mem hlt, rfl⟩))
    · have hj' : j < ws.length := by simpa using hj
      have hkj : ws[j].key = ws[k].key := by simpa [Wrt.p] using g1
      have hv : (ws.map Wrt.p)[j].2 = wrV ws[j].v ws[j].dead := by simp [Wrt.p]
      rw [hv] at g2
      simp only [g2, Gt_some]
      have hfit := h.fit ws[j] (List.getElem_mem hj')
      refine ⟨c253 (h3.vals _ (List.getElem_mem hj')) hfit.2.1 fun w H4 n4 => ?_⟩
      have e1 : bsV 4 1 z190 [(0, verV ws[k].key 0 w ws[j].dead)] = some (Vsn.c ⟨ws[k].key, 0, w, ws[j].bs, ws[j].dead⟩) := by simp [bsV, filL, putL, verV, Vsn.c, Value.cells, z190]
      simp only [e1, Gt_some, Nw_iff]
      have o4 := o3.keep n4.keep fun _ _ h => h
      have hwo := n4.own.one
      refine ap_elem o4.own rfl (by simp only [Vsn.c, List.all_cons, List.all_nil, hwo.2]; rfl) rfl (by omega) fun u H5 k5 f5 o5 => ?_
      have e6 : IntKind.i64.wrap ((k : Int) + 1) = ((k + 1 : Nat) : Int) := by rw [i64_in _ (by omega)]; rfl
      simp only [binI_add, e6, Gt_some]
      have s4 := n4.keep.size
      have s3 := k3.size
      refine ⟨⟨k + 1, vs ++ [⟨ws[k].key, 0, w, ws[j].bs, ws[j].dead⟩], by rw [hkl]; omega, rfl, by simp [hvl], fun i hi hi' => ?_, (k3.trans n4.keep).trans' k5 fun b hb => .inr (f3 b (.inl hb)), ?_, ⟨by simpa using o5, ?_⟩⟩, decr_lt hlt⟩
      · by_cases hik : i < vs.length
        · rw [List.getElem_append_left hik]
          exact hvs i hik hi'
        · have : i = k := by simp at hi; omega
          subst this
          rw [List.getElem_append_right (by omega)]
          refine ⟨ws[j], List.getElem_mem hj', ?_, ?_⟩
          · simp [hkj]
          · simp [Vsn.p, Wrt.q, hkj]
      · rintro b (hb | ⟨z, hz, hb⟩)
        · rcases f5 b hb with h | h
          · exact f3 b (.inl h)
          · omega
        · rcases List.mem_append.1 hz with hz | hz
          · exact f3 b (.inr ⟨z, hz, hb⟩)
          · simp only [List.mem_singleton] at hz; subst hz
            have := n4.fresh b hb; omega
      · intro z hz
        rcases List.mem_append.1 hz with hz | hz
        · exact (o4.vals z hz).keep k5 fun b hb hb' => ob_cells (o4.vals z hz) o4.own (by decide) hb hb'
        · simp only [List.mem_singleton] at hz; subst hz
          exact n4.own.keep k5 fun b hb hb' => ob_cells n4.own o4.own (by decide) hb hb'
  · have : k = ws.length := by omega
    subst this
    refine hR x vs H3 ((k1.trans k2).trans k3) (fun b hb => Nat.le_trans (k1.trans k2).size (f3 b hb)) o3 ?_
    apply List.ext_getElem
    · simp [hvl]
    · intro i hi hi'
      have hi1 : i < vs.length := by simpa using hi
      have hi2 : i < ws.length := by simpa using hi'
      obtain ⟨w, hw, h1, h2⟩ := hvs i hi1 (by simpa using hi2)
      simp only [List.getElem_map] at h1 ⊢
      rw [h2]
      obtain ⟨j, hj, rfl⟩ := List.getElem_of_mem hw
      have : i = j := by
        rcases Nat.lt_trichotomy i j with h3 | h3 | h3
        · exact absurd (by rw [List.getElem_map, List.getElem_map]; exact h1.symm) (List.pairwise_iff_getElem.1 h.keys i j (by simpa using hi2) (by simpa using hj) h3)
        · exact h3
        · exact absurd (by rw [List.getElem_map, List.getElem_map]; exact h1) (List.pairwise_iff_getElem.1 h.keys j i (by simpa using hj) (by simpa using hi2) h3)
      subst this; rfl
end Go.Proofs.YtdoimhpmnmmffaaGreat

/- Contracts of the package commit: what is asked of writes. No condition but those in each statement. -/
namespace Go.Proofs.YtdoimhpmnmmffaaGreat
open Go IntWalk
variable {H : Heap} {R : Value → Heap → Prop} {X : List PanicEntry → Heap → Prop}

/-- an element is laid into a new block -/
theorem ver_new {H : Heap} {k : ByteArray} {s : Int} {v : Value} {dead : Bool} (hv : v.oneCell' = true) :
    ∃ H', stV 4 (.pointer (some ⟨H.size, 0, none⟩)) (verV k s v dead) (H.push (.cells z190.cells 190 (0, 0))) = some H' ∧ Keep no H H' ∧ H.size < H'.size ∧ H'[H.size]? = some (.cells #[.string k, .int .i64 s, v, .bool dead] 190 (0, 0)) := by
  obtain ⟨H', p1, _, p3, p4⟩ := ver_put (H := H.push (.cells z190.cells 190 (0, 0))) (k := k) (s := s) (dead := dead) get_push_eq rfl hv
  exact ⟨H', p1, (Keep.push (M := no)).trans' p3 fun b e => .inr (Nat.le_of_eq e.symm), lt_of_get p4, p4⟩
def LpI (H : Heap) (n : Nat) (y : Value) (H1 : Heap) : Prop := ∃ k : Nat, k ≤ n ∧ y = .int .i64 k ∧ Keep no H H1

theorem c264 {x : Value} {vs : List Vsn} (hx : VrSl H x vs) (hl : vs.length ≤ 1099511627776) (hs : ∀ i (h : i + 1 < vs.length), binS .leq (.string vs[i + 1].key) (.string (vs[i]'(by omega)).key) = some (.bool false))
    (hR : ∀ H', Keep no H H' → R (.int .i64 0) H') : Runs Tryz.prog 264 [x] H R X := by
  refine l264 ?_
  unfold i264
  simp only [hx.ln, Gt_some]
  refine ⟨fun (y : Value) (H1 : Heap) => LpI H vs.length y H1, fun (y : Value) (_ : Heap) => decr vs.length y, ⟨0, by omega, rfl, .refl _⟩, ?_⟩
  rintro H1 _ ⟨k, hk, rfl, k1⟩
  simp only [binI_lss, Gt_some, If_iff, decide_eq_true_eq, decide_eq_false_iff_not]
  refine ⟨fun hlt => ?_, fun hge => hR H1 k1⟩
  have hlt : k < vs.length := by omega
  have hx1 := hx.keep k1 fun _ _ h => h
  obtain ⟨b, o, q1, q2, _⟩ := hx1.at hlt
  have hone := (hx1.vals _ (List.getElem_mem hlt)).one
  obtain ⟨H3, p1, p2, p3, p4⟩ := ver_new (H := H1) (k := vs[k].key) (s := vs[k].stamp) (v := vs[k].v) (dead := vs[k].dead) hone.2
  have r0 : rdc H3 H1.size 0 = some (.string vs[k].key) := by rw [rdc_of p4]; rfl
  have e6 : IntKind.i64.wrap ((k : Int) + 1) = ((k + 1 : Nat) : Int) := by rw [i64_in _ (by omega)]; rfl
  simp only [q1, q2, Gt_some, Nw_iff, p1, binI_gtr]
  by_cases hk0 : (k : Int) > 0
  · have e0 : decide ((k : Int) > 0) = true := by simpa using hk0
    have e1 : IntKind.i64.wrap ((k : Int) - 1) = ((k - 1 : Nat) : Int) := by rw [i64_in _ (by omega)]; omega
    obtain ⟨b', o', s1, _, s3⟩ := (hx1.keep p2 fun _ _ h => h).at (j := k - 1) (by omega)
    have hh := hs (k - 1) (by omega)
    have ek : k - 1 + 1 = k := by omega
    simp only [ek] at hh
    simp only [e0, If_true, faV_ptr, Nat.zero_add, Gt_some, rdv_ptr, r0, binI_sub, e1, s1, Nat.add_zero, s3, hh, If_false, binI_add, e6]
    exact ⟨⟨k + 1, by omega, rfl, k1.trans p2⟩, decr_lt hlt⟩
  · have e0 : decide ((k : Int) > 0) = false := by simpa using hk0
    simp only [e0, If_false, Gt_some, binI_add, e6]
    exact ⟨fun h => (by cases h), fun _ => ⟨⟨k + 1, by omega, rfl, k1.trans p2⟩, decr_lt hlt⟩⟩
theorem c265 {x : Value} {vs : List Vsn} (hx : VrSl H x vs) (hl : vs.length ≤ 1099511627776) (hf : ∀ w ∈ vs, (1 ≤ w.key.size ∧ w.key.size ≤ 255) ∧ w.bs.length ≤ 4096 ∧ (w.dead = true → w.bs.length = 0))
    (hR : ∀ H', Keep no H H' → R (.int .i64 0) H') : Runs Tryz.prog 265 [x] H R X := by
  refine l265 ?_
  unfold i265
  simp only [hx.ln, Gt_some]
  refine ⟨fun (y : Value) (H1 : Heap) => LpI H vs.length y H1, fun (y : Value) (_ : Heap) => decr vs.length y, ⟨0, by omega, rfl, .refl _⟩, ?_⟩
  rintro H1 _ ⟨k, hk, rfl, k1⟩
  simp only [binI_lss, Gt_some, If_iff, decide_eq_true_eq, decide_eq_false_iff_not]
  refine ⟨fun hlt => ?_, fun hge => hR H1 k1⟩
  have hlt : k < vs.length := by omega
  have hx1 := hx.keep k1 fun _ _ h => h
  obtain ⟨b, o, q1, q2, _⟩ := hx1.at hlt
  have hv := hx1.vals _ (List.getElem_mem hlt)
  obtain ⟨H3, p1, p2, p3, p4⟩ := ver_new (H := H1) (k := vs[k].key) (s := vs[k].stamp) (v := vs[k].v) (dead := vs[k].dead) hv.one.2
  have r0 : rdc H3 H1.size 0 = some (.string vs[k].key) := by rw [rdc_of p4]; rfl
  have r2 : rdc H3 H1.size 2 = some vs[k].v := by rw [rdc_of p4]; rfl
  have r3 : rdc H3 H1.size 3 = some (.bool vs[k].dead) := by rw [rdc_of p4]; rfl
  have hfk := hf _ (List.getElem_mem hlt)
  have e6 : IntKind.i64.wrap ((k : Int) + 1) = ((k + 1 : Nat) : Int) := by rw [i64_in _ (by omega)]; rfl
  have e1 : decide ((vs[k].key.size : Int) < 1) = false := by simp; omega
  have e2 : decide ((vs[k].key.size : Int) > 255) = false := by simp; omega
  have e3 : decide ((vs[k].bs.length : Int) > 4096) = false := by simp; omega
  have e4 : (vs[k].dead && decide ((vs[k].bs.length : Int) > 0)) = false := by
    cases hd : vs[k].dead with
    | false => rfl
    | true => rw [hfk.2.2 hd]; rfl
  simp only [q1, q2, Gt_some, Nw_iff, p1, faV_ptr, Nat.zero_add, rdv_ptr, r0, lsV_str, binI_lss, binI_gtr, Option.bind_some, e1, e2, ifO_or, Bool.or_false, Bool.false_and, If_false, r2, r3, hv.bs.len, e3, ifO_false, ifO_and, e4, binI_add, e6]
  exact ⟨⟨k + 1, by omega, rfl, k1.trans p2⟩, decr_lt hlt⟩
/-- has some key a version above a stamp? -/
def above (m : SM) (since : Int) (k : ByteArray) : Bool := (nwS (getS m k)).2 && decide ((nwS (getS m k)).1 > since)
def AbI (H : Heap) (m : SM) (since : Int) (vs : List Vsn) (y : Value) (H1 : Heap) : Prop := ∃ k : Nat, k ≤ vs.length ∧ y = .int .i64 k ∧ Keep no H H1 ∧ ∀ j (h : j < vs.length), j < k → above m since vs[j].key = false
theorem c266 {S M : Nat} {cs : List Chn} (h : SoRep H S M cs) {x : Value} {vs : List Vsn} (hx : VrSl H x vs) (hl : vs.length ≤ 1099511627776) {since : Int}
    (hR : ∀ H', Keep no H H' → R (.bool ((vs.map (·.key)).any (above (cs.map Chn.m) since))) H') : Runs Tryz.prog 266 [.pointer (some ⟨S, 0, none⟩), x, .int .i64 since] H R X := by
  refine l266 ?_
  unfold i266
  simp only [hx.ln, Gt_some]
  refine ⟨fun (y : Value) (H1 : Heap) => AbI H (cs.map Chn.m) since vs y H1, fun (y : Value) (_ : Heap) => decr vs.length y, ⟨0, by omega, rfl, .refl _, fun j _ h => by omega⟩, ?_⟩
  rintro H1 _ ⟨k, hk, rfl, k1, hj⟩
  simp only [binI_lss, Gt_some, If_iff, decide_eq_true_eq, decide_eq_false_iff_not]
  refine ⟨fun hlt => ?_, fun hge => ?_⟩
  · have hlt : k < vs.length := by omega
    have hx1 := hx.keep k1 fun _ _ h => h
    obtain ⟨b, o, q1, q2, _⟩ := hx1.at hlt
    obtain ⟨H3, p1, p2, p3, p4⟩ := ver_new (H := H1) (k := vs[k].key) (s := vs[k].stamp) (v := vs[k].v) (dead := vs[k].dead) (hx1.vals _ (List.getElem_mem hlt)).one.2
    have r0 : rdc H3 H1.size 0 = some (.string vs[k].key) := by rw [rdc_of p4]; rfl
    have e6 : IntKind.i64.wrap ((k : Int) + 1) = ((k + 1 : Nat) : Int) := by rw [i64_in _ (by omega)]; rfl
    simp only [q1, q2, Gt_some, Nw_iff, p1, faV_ptr, Nat.zero_add, rdv_ptr, r0]
    have h3 := h.keep (k1.trans p2) fun _ _ h => h
    refine ⟨c298 h3 fun H4 k4 => ?_⟩
    have x0 : ∀ a b : Value, exV 0 (.tuple #[a, b]) = some a := fun _ _ => rfl
    have x1 : ∀ a b : Value, exV 1 (.tuple #[a, b]) = some b := fun _ _ => rfl
    simp only [x0, x1, Gt_some, binI_gtr, Option.bind_some, ifO_and, binI_add, e6]
    refine If_iff.2 ⟨fun ht => ?_, fun hf => ?_⟩
    · have : (vs.map (·.key)).any (above (cs.map Chn.m) since) = true := by
        rw [List.any_eq_true]
        exact ⟨vs[k].key, List.mem_map.2 ⟨_, List.getElem_mem hlt, rfl⟩, ht⟩
      rw [this] at hR
      exact hR H4 ((k1.trans p2).trans k4)
    · refine ⟨⟨k + 1, by omega, rfl, (k1.trans p2).trans k4, fun j hj1 hj2 => ?_⟩, decr_lt hlt⟩
      by_cases hjk : j = k
      · subst hjk; exact hf
      · exact hj j hj1 (by omega)
  · have : (vs.map (·.key)).any (above (cs.map Chn.m) since) = false := by
      rw [List.any_eq_false]
      intro z hz
      obtain ⟨w, hw, rfl⟩ := List.mem_map.1 hz
      obtain ⟨j, hj1, rfl⟩ := List.getElem_of_mem hw
      rw [hj j hj1 (by omega)]; decide
    rw [this] at hR
    exact hR H1 k1
theorem c267 {S M : Nat} {cs : List Chn} (h : SoRep H S M cs) {x : Value} {vs : List Vsn} (hx : VrSl H x vs) (hl : vs.length ≤ 1099511627776) {since : Int}
    (hR : ∀ H', Keep no H H' → R (.bool ((vs.map (·.key)).any (above (cs.map Chn.m) since))) H') : Runs Tryz.prog 267 [.pointer (some ⟨S, 0, none⟩), x, .int .i64 since] H R X := l267 ⟨c266 h hx hl hR⟩
end Go.Proofs.YtdoimhpmnmmffaaGreat

