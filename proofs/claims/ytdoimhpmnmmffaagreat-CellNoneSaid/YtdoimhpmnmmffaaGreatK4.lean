/- Part 4 of the proof: the pieces below, each with its own first line. No condition but those in each statement. -/
import Derived.Test.YtdoimhpmnmmffaaGreatK3
set_option linter.unusedVariables false
set_option linter.unusedSimpArgs false
/- Contracts of the package commit: what a log is told. No condition but those in each statement. -/
namespace Go.Proofs.YtdoimhpmnmmffaaGreat
open Go IntWalk
variable {H : Heap} {R : Value → Heap → Prop} {X : List PanicEntry → Heap → Prop}

def entW (w : VP) : Ent := if w.2.2.2 then ⟨2, 0, 0, w.1, [], false⟩ else ⟨1, 0, 0, w.1, w.2.2.1, false⟩
def zstr : ByteArray := ⟨#[]⟩
def entsL (ws : List VP) (stamp : Int) : List Ent := ws.map entW ++ [⟨3, stamp, ws.length, zstr, [], false⟩]
def EtI (H : Heap) (ws : List VP) (x y : Value) (H1 : Heap) : Prop :=
  ∃ (k : Nat) (us : List Value), k ≤ ws.length ∧ y = .int .i64 k ∧ us.length = k ∧ Keep no H H1 ∧ (∀ b, ob x b ∨ (∃ u ∈ us, ob u b) → H.size ≤ b) ∧ Own 182 6 H1 x k (List.zipWith entC ((ws.take k).map entW) us).flatten ∧
    ∀ j (h : j < us.length) (h' : j < ws.length), OB H1 us[j] (entW ws[j]).val
theorem entC_b (e : Ent) (v : Value) : bsV 6 1 z182 [(0, entV e v)] = some (entC e v) := by simp [bsV, filL, putL, entV, entC, Value.cells, z182]
theorem c225 {x : Value} {vs : List Vsn} (hx : VrSl H x vs) (hl : vs.length ≤ 1099511627776) {stamp : Int} (hf : ∀ w ∈ vs, w.bs.length ≤ 4096)
    (hR : ∀ u us H', Keep no H H' → (∀ b, enM u us b → H.size ≤ b) → EnSl H' u (entsL (vs.map Vsn.p) stamp) us → R u H') : Runs Tryz.prog 225 [x, .int .i64 stamp] H R X := by
  refine l225 ?_
  unfold i225
  simp only [hx.ln, Gt_some]
  have hwl : (vs.map Vsn.p).length = vs.length := by simp
  refine ⟨fun (x y : Value) (H1 : Heap) => EtI H (vs.map Vsn.p) x y H1, fun (_ y : Value) (_ : Heap) => decr vs.length y, ⟨0, [], by omega, rfl, rfl, .refl _, ?_, .nil, fun j h => by simp at h⟩, ?_⟩
  · rintro b (hb | ⟨u, hu, _⟩)
    · exact (ob_nil hb).elim
    · cases hu
  rintro H1 y _ ⟨k, us, hk, rfl, hul, k1, f1, o1, hv1⟩
  rw [hwl] at hk
  simp only [binI_lss, Gt_some]
  refine If_iff.2 ⟨fun hlt => ?_, fun hge => ?_⟩
  · have hlt : k < vs.length := by simpa using hlt
    have hx1 := hx.keep k1 fun _ _ h => h
    obtain ⟨b, o, q1, q2, _⟩ := hx1.at hlt
    have hvk := hx1.vals _ (List.getElem_mem hlt)
    obtain ⟨H3, p1, p2, p3, p4⟩ := ver_new (H := H1) (k := vs[k].key) (s := vs[k].stamp) (v := vs[k].v) (dead := vs[k].dead) hvk.one.2
    have rd : rda 4 (.pointer (some ⟨H1.size, 0, none⟩)) H3 = some (verV vs[k].key vs[k].stamp vs[k].v vs[k].dead) := by
      rw [rda_ptr, rdn_at p4 4 0 (by simp)]; rfl
    simp only [q1, q2, Gt_some, Nw_iff, p1, rd]
    have e6 : IntKind.i64.wrap ((k : Int) + 1) = ((k + 1 : Nat) : Int) := by rw [i64_in _ (by omega)]; rfl
    have hwk : (vs.map Vsn.p)[k]'(by rw [hwl]; exact hlt) = vs[k].p := by simp
    -- an entry more
    have more : ∀ (e : Ent) (w : Value) (H4 : Heap), e = entW vs[k].p → Keep no H3 H4 → (∀ b, ob w b → H3.size ≤ b) → OB H4 w e.val →
        Gt (bsV 6 1 z182 [(0, entV e w)]) fun c17 =>
        Ap 182 6 72 z182 y (.slice (some ⟨H4.size, 0, none⟩) 1 1) (H4.push (.cells c17.toArray 182 (0, 0))) (fun x18 H6 =>
        Gt (binI .add (.int .i64 k) (.int .i64 1)) fun x19 =>
        EtI H (vs.map Vsn.p) x18 x19 H6 ∧ Nat.lt (decr vs.length x19) (decr vs.length (.int .i64 k))) := by
      intro e w H4 he k4 f4 o4
      have k14 := p2.trans k4
      have oy := o1.keep k14 fun _ _ h => h
      simp only [entC_b, Gt_some]
      refine ap_elem oy rfl (by simp only [entC, List.all_cons, List.all_nil, o4.one.2]; rfl) rfl (by omega) fun u H5 k5 f5 o5 => ?_
      simp only [binI_add, e6, Gt_some]
      have s14 := k14.size
      have s1 := k1.size
      have st : List.take (k + 1) (vs.map Vsn.p) = List.take k (vs.map Vsn.p) ++ [vs[k].p] := by
        rw [← hwk, List.take_append_getElem]
      refine ⟨⟨k + 1, us ++ [w], by rw [hwl]; omega, rfl, by simp [hul], (k1.trans k14).trans' k5 fun b hb => .inr (f1 b (.inl hb)), ?_, ?_, fun j hj hj' => ?_⟩, decr_lt hlt⟩
      · rintro b (hb | ⟨z, hz, hb⟩)
        · rcases f5 b hb with h | h
          · exact f1 b (.inl h)
          · omega
        · rcases List.mem_append.1 hz with hz | hz
          · exact f1 b (.inr ⟨z, hz, hb⟩)
          · simp only [List.mem_singleton] at hz; subst hz
            have := f4 b hb; have := p2.size; omega
      · rw [st, List.map_append, List.map_cons, List.map_nil, zipWith_snoc entC _ us _ w (by simp [hul]; omega), List.flatten_append, ← he]
        simpa using o5
      · by_cases hjk : j < us.length
        · rw [List.getElem_append_left hjk]
          have := hv1 j hjk hj'
          exact (this.keep k14 fun _ _ h => h).keep k5 fun b hb hb' => ob_cells (this.keep k14 fun _ _ h => h) oy (by decide) hb hb'
        · have : j = k := by simp at hj; omega
          subst this
          have e2 : (us ++ [w])[j]'hj = w := by rw [List.getElem_append_right (by omega)]; simp
          rw [e2, hwk, ← he]
          exact o4.keep k5 fun b hb hb' => ob_cells o4 oy (by decide) hb hb'
    have hx3 := hvk.keep p2 fun _ _ h => h
    refine ⟨c269 hx3.bs (hf _ (List.getElem_mem hlt)) (fun hd H4 k4 => ?_) (fun hd w H4 n4 => ?_)⟩
    · refine more ⟨2, 0, 0, vs[k].key, [], false⟩ (.slice none 0 0) H4 ?_ k4 (fun b hb => (ob_nil hb).elim) .nil
      simp [entW, Vsn.p, hd]
    · refine more ⟨1, 0, 0, vs[k].key, vs[k].bs, false⟩ w H4 ?_ n4.keep n4.fresh n4.own
      simp [entW, Vsn.p, hd]
  · have : k = vs.length := by
      have : ¬ k < vs.length := by simpa using hge
      omega
    subst this
    have e0 : bdV z182 [(0, 1), (1, 1), (2, 1), (3, 1), (4, 1), (5, 1)] [(0, .int .i64 3), (1, .int .i64 stamp), (2, .int .i64 vs.length)] = some (entV ⟨3, stamp, vs.length, zstr, [], false⟩ (.slice none 0 0)) := rfl
    simp only [hx.ln, Gt_some, e0, entC_b, Nw_iff]
    refine ap_elem o1 rfl (by rfl) rfl (by omega) fun u H5 k5 f5 o5 => ?_
    have s1 := k1.size
    have ht : List.take vs.length (vs.map Vsn.p) = vs.map Vsn.p := List.take_of_length_le (by simp)
    rw [ht] at o5
    have hz : List.zipWith entC (entsL (vs.map Vsn.p) stamp) (us ++ [.slice none 0 0]) = List.zipWith entC ((vs.map Vsn.p).map entW) us ++ [entC ⟨3, stamp, vs.length, zstr, [], false⟩ (.slice none 0 0)] := by
      rw [entsL, zipWith_snoc entC _ us _ _ (by simp [hul])]; simp
    have hlen : (us ++ [Value.slice none 0 0]).length = (entsL (vs.map Vsn.p) stamp).length := by simp [entsL, hul]
    refine hR u (us ++ [.slice none 0 0]) H5 (k1.trans' k5 fun b hb => .inr (f1 b (.inl hb))) ?_ ⟨hlen, ?_, fun j hj => ?_⟩
    · rintro b (hb | ⟨z, hz, hb⟩)
      · rcases f5 b hb with h | h
        · exact f1 b (.inl h)
        · omega
      · rcases List.mem_append.1 hz with hz | hz
        · exact f1 b (.inr ⟨z, hz, hb⟩)
        · simp only [List.mem_singleton] at hz; subst hz
          exact (ob_nil hb).elim
    · refine Own.slc (z := 182) ?_ fun c hc => ?_
      · rw [hz, List.flatten_append]
        simpa [hul] using o5
      · obtain ⟨i, hi, rfl⟩ := List.getElem_of_mem hc
        simp [entC]
    · by_cases hjk : j < us.length
      · have h1 : (us ++ [Value.slice none 0 0])[j]'(by rw [hlen]; exact hj) = us[j] := List.getElem_append_left hjk
        have hjw : j < (vs.map Vsn.p).length := by rw [hwl]; omega
        have h2 : (entsL (vs.map Vsn.p) stamp)[j] = entW (vs.map Vsn.p)[j] := by
          simp only [entsL]
          rw [List.getElem_append_left (by simpa using hjw)]; simp
        rw [h1, h2]
        have := hv1 j hjk hjw
        exact (this.keep k5 fun b hb hb' => ob_cells this o1 (by decide) hb hb').bs
      · have hjj : j = us.length := by have := hj; simp [entsL] at this; omega
        subst hjj
        have h1 : (us ++ [Value.slice none 0 0])[us.length]'(by simp) = .slice none 0 0 := by simp
        have h2 : (entsL (vs.map Vsn.p) stamp)[us.length]'hj = ⟨3, stamp, vs.length, zstr, [], false⟩ := by
          simp only [entsL]
          rw [List.getElem_append_right (by simp [hul])]; simp [hul]
        rw [h1, h2]
        exact .nil
end Go.Proofs.YtdoimhpmnmmffaaGreat

/- Contracts of the package commit: a commit. No condition but those in each statement. -/
namespace Go.Proofs.YtdoimhpmnmmffaaGreat
open Go IntWalk
variable {H : Heap} {R : Value → Heap → Prop} {X : List PanicEntry → Heap → Prop}

/-- writes that may be -/
structure WsOk (vs : List Vsn) : Prop where
  len : vs.length ≤ 2147483647
  sort : ∀ i (h : i + 1 < vs.length), binS .leq (.string vs[i + 1].key) (.string (vs[i]'(by omega)).key) = some (.bool false)
  fit : ∀ w ∈ vs, (1 ≤ w.key.size ∧ w.key.size ≤ 255) ∧ w.bs.length ≤ 4096 ∧ (w.dead = true → w.bs.length = 0)
  keys : (vs.map (·.key)).Nodup
theorem c223 {S M K : Nat} {cs : List Chn} (h : SoRep H S M cs) {now win since : Int} (hK : H[K]? = some (ckO now win)) {x : Value} {vs : List Vsn} (hx : VrSl H x vs) (hw : WsOk vs) (hs : 0 ≤ since ∧ since ≤ now)
    (hab : (vs.map (·.key)).any (above (cs.map Chn.m) now) = false)
    (hR : ∀ H', Keep no H H' → R (.int .i64 (if (vs.map (·.key)).any (above (cs.map Chn.m) since) then 190 else if now = 4611686018427387904 then 120 else 0)) H') :
    Runs Tryz.prog 223 [.pointer (some ⟨S, 0, none⟩), .pointer (some ⟨K, 0, none⟩), x, .int .i64 since] H R X := by
  have hlen := hw.len
  refine l223 ⟨c264 hx (by omega) hw.sort fun H1 k1 => ?_⟩
  have e1 : decide (since < 0) = false := by simp; omega
  have e2 : decide (since > now) = false := by simp; omega
  simp only [binI_neq, bne0, Gt_some, If_false]
  refine Jo1 ?_
  simp only [binI_lss, e1, Gt_some, If_false]
  refine ⟨c60 (k1.at hK fun h => h) ?_⟩
  simp only [binI_gtr, e2, Gt_some, If_false]
  refine ⟨c265 (hx.keep k1 fun _ _ h => h) (by omega) hw.fit fun H2 k2 => ?_⟩
  have k02 := k1.trans k2
  simp only [binI_neq, bne0, Gt_some, If_false]
  refine ⟨c60 (k02.at hK fun h => h) ?_⟩
  refine ⟨c266 (h.keep k02 fun _ _ h => h) (hx.keep k02 fun _ _ h => h) (by omega) fun H3 k3 => ?_⟩
  have k03 := k02.trans k3
  rw [hab]
  simp only [If_false]
  refine ⟨c267 (h.keep k03 fun _ _ h => h) (hx.keep k03 fun _ _ h => h) (by omega) fun H4 k4 => ?_⟩
  have k04 := k03.trans k4
  cases hc : (vs.map (·.key)).any (above (cs.map Chn.m) since) with
  | true =>
    rw [hc] at hR
    simp only [If_true]
    exact hR H4 k04
  | false =>
    rw [hc] at hR
    simp only [If_false]
    refine ⟨c268 (k04.at hK fun h => h) ?_⟩
    refine If_iff.2 ⟨fun he => ?_, fun he => ?_⟩
    · have he : now = 4611686018427387904 := by simpa using he
      rw [if_neg (by decide), if_pos he] at hR
      exact hR H4 k04
    · have he : now ≠ 4611686018427387904 := by simpa using he
      rw [if_neg (by decide), if_neg he] at hR
      exact hR H4 k04

def lnkW (stamp : Int) (w : VP) : Link := ⟨stamp, w.2.2.1, w.2.2.2⟩
/-- writes applied to a store -/
def applyL (stamp : Int) : SM → List VP → SM
  | m, [] => m
  | m, w :: ws => applyL stamp (addS m w.1 (lnkW stamp w)) ws
theorem applyL_snoc {stamp : Int} {w : VP} : ∀ {ws : List VP} {m : SM}, applyL stamp m (ws ++ [w]) = addS (applyL stamp m ws) w.1 (lnkW stamp w)
  | [], m => rfl
  | u :: ws, m => by simp only [List.cons_append, applyL]; exact applyL_snoc
theorem getS_add_ne : ∀ {m : SM} {k k' : ByteArray} {l : Link}, k' ≠ k → getS (addS m k l) k' = getS m k'
  | [], k, k', l, h => by simp [addS, getS, Ne.symm h]
  | q :: r, k, k', l, h => by
    simp only [addS]
    split
    · rename_i e; subst e; simp [getS, Ne.symm h]
    · simp only [getS]; rw [getS_add_ne h]
theorem getS_apply {stamp : Int} {k : ByteArray} : ∀ {ws : List VP} {m : SM}, (∀ w ∈ ws, k ≠ w.1) → getS (applyL stamp m ws) k = getS m k
  | [], m, _ => rfl
  | u :: ws, m, h => by
    rw [applyL, getS_apply fun w hw => h w (List.mem_cons_of_mem _ hw), getS_add_ne (h u (List.mem_cons_self ..))]
theorem liveS_nn : ∀ {m : SM}, 0 ≤ liveS m
  | [] => by simp [liveS]
  | p :: r => by
    have := liveS_nn (m := r)
    have h2 : 0 ≤ wgt p.1 p.2 := by unfold wgt; split <;> (try split) <;> omega
    simp only [liveS, List.map_cons, List.sum_cons] at this ⊢; omega
theorem wgt_one {k : ByteArray} {ls : List Link} {l : Link} : wgt k (ls ++ [l]) ≤ k.size + l.val.length := by
  unfold wgt
  rw [List.getLast?_append]
  simp only [List.getLast?_singleton, Option.some_or]
  split <;> omega
theorem wgt_nn {k : ByteArray} {ls : List Link} : 0 ≤ wgt k ls := by unfold wgt; split <;> (try split) <;> omega
theorem liveS_apply {stamp : Int} : ∀ {ws : List VP} {m : SM}, (∀ w ∈ ws, w.1.size ≤ 255 ∧ w.2.2.1.length ≤ 4096) → liveS (applyL stamp m ws) ≤ liveS m + ws.length * 4351
  | [], m, _ => by simp [applyL]
  | u :: ws, m, h => by
    have ih := liveS_apply (stamp := stamp) (ws := ws) (m := addS m u.1 (lnkW stamp u)) fun w hw => h w (List.mem_cons_of_mem _ hw)
    have h1 := liveS_add m u.1 (lnkW stamp u)
    have h2 := wgt_one (k := u.1) (ls := getS m u.1) (l := lnkW stamp u)
    have h3 := wgt_nn (k := u.1) (ls := getS m u.1)
    have h4 := h u (List.mem_cons_self ..)
    have h5 : (lnkW stamp u).val.length = u.2.2.1.length := rfl
    rw [applyL]
    simp only [List.length_cons]; omega

theorem okE_w {k : ByteArray} {s : Int} {bs : List UInt8} {dead : Bool} (hk : 1 ≤ k.size ∧ k.size ≤ 255) (hb : bs.length ≤ 4096) : okE (entW (k, s, bs, dead)) = true := by
  have g1 : decide (1 ≤ k.size) = true := decide_eq_true hk.1
  have g2 : decide (k.size ≤ 255) = true := decide_eq_true hk.2
  have g3 : decide (bs.length ≤ 4096) = true := decide_eq_true hb
  cases dead with
  | true => simp only [entW, if_true, okE, g1, g2]; rfl
  | false => simp only [entW, Bool.false_eq_true, if_false, okE, if_true, g1, g2, g3]; rfl
theorem zstr_nil : zstr.toList = [] := by
  unfold zstr ByteArray.toList ByteArray.toList.loop; rfl
theorem okE_c {s c : Int} (g1 : decide (0 ≤ s) = true) (g2 : decide (s ≤ 4611686018427387904) = true) (g3 : decide (0 ≤ c) = true) (g4 : decide (c ≤ 2147483647) = true) : okE ⟨3, s, c, zstr, [], false⟩ = true := by
  unfold okE
  rw [if_neg (by show ¬ (3 : Int) = 1; decide), if_neg (by show ¬ (3 : Int) = 2; decide), if_pos (by show (3 : Int) = 3 ∨ _; exact .inl rfl)]
  simp only [g1, g2, g3, g4, zstr_nil]; rfl
def ApI (H : Heap) (S M : Nat) (cs : List Chn) (m : SM) (vs : List Vsn) (stamp : Int) (y : Value) (H1 : Heap) : Prop :=
  ∃ (k : Nat) (cs' : List Chn), k ≤ vs.length ∧ y = .int .i64 k ∧ Keep (stF S M cs) H H1 ∧ (∀ b, stF S M cs' b → stF S M cs b ∨ H.size ≤ b) ∧ SoRep H1 S M cs' ∧ cs'.map Chn.m = applyL stamp m ((vs.take k).map Vsn.p)

theorem c188 {S M K L D P i : Nat} {cs : List Chn} (h : SoRep H S M cs) {now win since : Int} (hK : H[K]? = some (ckO now win)) (hnow : 0 ≤ now ∧ now ≤ 4611686018427387904) {x : Value} {vs : List Vsn} (hx : VrSl H x vs) (hw : WsOk vs) (hne : vs ≠ []) (hs : 0 ≤ since ∧ since ≤ now)
    (hL : H[L]? = some (lgO D i)) {ps : List Part} {armed : Bool} (hDk : DkRep H D P ps armed) (hi : i < ps.length) {p : Part} (hp : ps[i] = p) {a : Area} {v : Value}
    (ha : ArRep H p.area a v) (hD : ¬ arM p.area v D) (hP : ¬ arM p.area v P) (hLM : ¬ wM p.area P v L) (hlast : ∀ k, ∀ l ∈ getS (cs.map Chn.m) k, l.stamp ≤ now) (hlens : ∀ w ∈ vs, (getS (cs.map Chn.m) w.key).length < 1099511627776) (hlive : liveS (cs.map Chn.m) + vs.length * 4351 ≤ 1152921504606846976)
    (sS : ∀ b, stF S M cs b → ¬ wM p.area P v b) (sK : ¬ wM p.area P v K ∧ ¬ stF S M cs K) (sD : ¬ stF S M cs D) (sX : ∀ b, vrF x vs b → ¬ wM p.area P v b ∧ ¬ stF S M cs b ∧ b ≠ K) (hLt : ∀ b, wM p.area P v b → b < H.size)
    (hfit : a.bytes.length + (vs.length + 1) * 6000 ≤ 140737488355328) (hdn : 0 ≤ p.done ∧ p.done + (vs.length + 1) < 4611686018427387903)
    (hC : (vs.map (·.key)).any (above (cs.map Chn.m) since) = true → ∀ H', Keep no H H' → R (.tuple #[.int .i64 0, .int .i64 190]) H')
    (hW : (vs.map (·.key)).any (above (cs.map Chn.m) since) = false → now = 4611686018427387904 → ∀ H', Keep no H H' → R (.tuple #[.int .i64 0, .int .i64 120]) H')
    (hR : (vs.map (·.key)).any (above (cs.map Chn.m) since) = false → now < 4611686018427387904 → (armed = true → p.done + (vs.length + 1 : Nat) < p.fdone) →
      ∀ cs' w H', Keep (fun b => stF S M cs b ∨ b = K ∨ wM p.area P v b) H H' → (∀ b, stF S M cs' b → stF S M cs b ∨ H.size ≤ b) → (∀ b, ob w b → ob v b ∨ H.size ≤ b) → cs'.map Chn.m = applyL (now + 1) (cs.map Chn.m) (vs.map Vsn.p) → SoRep H' S M cs' → (∀ b, ob w b → ¬ stF S M cs' b) → H'[K]? = some (ckO (now + 1) win) →
      ArRep H' p.area ⟨a.base, a.bytes ++ framesL (entsL (vs.map Vsn.p) (now + 1)), (a.bytes ++ framesL (entsL (vs.map Vsn.p) (now + 1))).length⟩ w → DkRep H' D P (ps.set i (p.add (vs.length + 1 + 1))) armed → R (.tuple #[.int .i64 (now + 1), .int .i64 0]) H')
    (hE : (vs.map (·.key)).any (above (cs.map Chn.m) since) = false → now < 4611686018427387904 → ∀ k, k ≤ vs.length + 1 → armed = true → p.fdone ≤ p.done + k → (k = 0 ∨ p.done + k ≤ p.fdone) → ∀ w H', Keep (wM p.area P v) H H' → (∀ b, ob w b → ob v b ∨ H.size ≤ b) →
      ArRep H' p.area ⟨a.base, a.bytes ++ framesL ((entsL (vs.map Vsn.p) (now + 1)).take k), a.safe⟩ w → DkRep H' D P (ps.set i (p.add k)) armed → R (.tuple #[.int .i64 0, .int .i64 80]) H') :
    Runs Tryz.prog 188 [.pointer (some ⟨S, 0, none⟩), .pointer (some ⟨K, 0, none⟩), .pointer (some ⟨L, 0, none⟩), x, .int .i64 since] H R X := by
  have hlen := hw.len
  have hpos : 0 < vs.length := List.length_pos_iff.2 hne
  refine l188 ?_
  unfold i188
  have e0 : ((vs.length : Int) == 0) = false := by rw [beq_eq_false_iff_ne]; omega
  simp only [ptrEq_nil_r, Option.isNone_some, Option.map_some, Gt_some, Option.bind_some, ifO_or, Bool.or_false, If_false, hx.ln, binI_eql, e0]
  have hab : (vs.map (·.key)).any (above (cs.map Chn.m) now) = false := by
    rw [List.any_eq_false]
    intro z _ hz
    cases hg : (getS (cs.map Chn.m) z).getLast? with
    | none => simp [above, nwS, hg] at hz
    | some l =>
      have := hlast z l (List.mem_of_getLast? hg)
      simp [above, nwS, hg] at hz
      omega
  refine ⟨c223 h hK hx hw hs hab fun H1 k1 => ?_⟩
  cases hc : (vs.map (·.key)).any (above (cs.map Chn.m) since) with
  | true =>
    have e1 : ((190 : Int) != 0) = true := rfl
    simp only [if_true, binI_neq, e1, Gt_some, If_true]
    exact hC hc H1 k1
  | false =>
  by_cases hwn : now = 4611686018427387904
  · have e1 : ((120 : Int) != 0) = true := rfl
    rw [if_neg (by decide), if_pos hwn]
    simp only [binI_neq, e1, Gt_some, If_true]
    exact hW hc hwn H1 k1
  rw [if_neg (by decide), if_neg hwn]
  simp only [binI_neq, bne0, Gt_some, If_false]
  have hn1 : now < 4611686018427387904 := by omega
  refine ⟨c60 (k1.at hK fun h => h) ?_⟩
  have e2 : IntKind.i64.wrap (now + 1) = now + 1 := i64_in _ (by omega)
  simp only [binI_add, e2, Gt_some]
  refine ⟨c225 (hx.keep k1 fun _ _ h => h) (by omega) (fun w hw' => (hw.fit w hw').2.1) fun u us H2 k2 f2 o2 => ?_⟩
  have k02 := k1.trans k2
  have s02 := k02.size
  have s1 := k1.size
  have hel : (entsL (vs.map Vsn.p) (now + 1)).length = vs.length + 1 := by simp [entsL]
  have hoke : ∀ e ∈ entsL (vs.map Vsn.p) (now + 1), okE e = true := by
    intro e he
    rcases List.mem_append.1 he with he | he
    · obtain ⟨z, hz, rfl⟩ := List.mem_map.1 he
      obtain ⟨w, hw', rfl⟩ := List.mem_map.1 hz
      have hfw := hw.fit w hw'
      exact okE_w hfw.1 hfw.2.1
    · simp only [List.mem_singleton] at he
      subst he
      have g1 : decide (0 ≤ now + 1) = true := decide_eq_true (by omega)
      have g2 : decide (now + 1 ≤ 4611686018427387904) = true := decide_eq_true (by omega)
      have g3 : decide ((0 : Int) ≤ ((vs.map Vsn.p).length : Nat)) = true := decide_eq_true (by omega)
      have g4 : decide ((((vs.map Vsn.p).length : Nat) : Int) ≤ 2147483647) = true := decide_eq_true (by simp; omega)
      exact okE_c g1 g2 g3 g4
  have h2 := h.keep k02 fun _ _ h => h
  have hx2 := hx.keep k02 fun _ _ h => h
  refine ⟨c224 (k02.at hL fun h => h) (hDk.keep k02 (fun h => h) fun h => h) hi hp (ha.keep k02 fun _ _ h => h) hD hP hLM o2 (fun b hb hm => ?_) hoke (by rw [hel]; omega) (by rw [hel]; omega) (by rw [hel]; omega) (fun hfin w H3 k3 f3 ar3 dk3 => ?_) (fun k hk har hf1 hf2 w H3 k3 f3 ar3 dk3 => ?_)⟩
  · have := f2 b hb
    have := hLt b hm
    omega
  · rw [hel] at hfin dk3
    have e3 : decide (now = 4611686018427387904) = false := by simp; omega
    simp only [binI_neq, bne0, Gt_some, If_false]
    have hK3 := k3.at (k02.at hK fun h => h) sK.1
    refine ⟨c226 hK3 hnow (fun he => absurd he hwn) fun _ => ?_⟩
    generalize hH4 : H3.setIfInBounds K (ckO (now + 1) win) = H4
    have k4 : Keep (fun b => b = K) H3 H4 := by rw [← hH4]; exact .set rfl
    have hK4 : H4[K]? = some (ckO (now + 1) win) := by rw [← hH4]; exact get_set_eq (lt_of_get hK3)
    have x0 : ∀ a b : Value, exV 0 (.tuple #[a, b]) = some a := fun _ _ => rfl
    have x1 : ∀ a b : Value, exV 1 (.tuple #[a, b]) = some b := fun _ _ => rfl
    have h4 := (h2.keep k3 sS).keep k4 fun b hb e => sK.2 (e ▸ hb)
    have hx4 := (hx2.keep k3 fun b hb => (sX b hb).1).keep k4 fun b hb e => (sX b hb).2.2 e
    simp only [x0, x1, binI_neq, bne0, Gt_some, If_false, hx.ln]
    refine ⟨fun (y : Value) (H5 : Heap) => ApI H4 S M cs (cs.map Chn.m) vs (now + 1) y H5, fun (y : Value) (_ : Heap) => decr vs.length y, ⟨0, cs, by omega, rfl, .refl _, fun b hb => .inl hb, h4, rfl⟩, ?_⟩
    rintro H5 y ⟨k, cs', hk, rfl, k5, f5, h5, m5⟩
    have hlt4 := h.st.lt
    have s3 := k3.size
    have s4 := k4.size
    have hx5 := hx4.keep k5 fun b hb => (sX b hb).2.1
    simp only [binI_lss, Gt_some]
    refine If_iff.2 ⟨fun hlt => ?_, fun hge => ?_⟩
    · have hlt : k < vs.length := by simpa using hlt
      obtain ⟨b, o, q1, q2, _⟩ := hx5.at hlt
      have hvk := hx5.vals _ (List.getElem_mem hlt)
      obtain ⟨H6, p1, p2, p3, p4⟩ := ver_new (H := H5) (k := vs[k].key) (s := vs[k].stamp) (v := vs[k].v) (dead := vs[k].dead) hvk.one.2
      have e4 := stV1 (o := 1) (v := .int .i64 (now + 1)) p4 (by simp) rfl rfl
      simp only [q1, q2, Gt_some, Nw_iff, p1, faV_ptr, Nat.zero_add, e4]
      generalize hH7 : H6.setIfInBounds H5.size _ = H7
      have k7 : Keep (fun b => b = H5.size) H6 H7 := by rw [← hH7]; exact .set rfl
      have hb7 : H7[H5.size]? = some (.cells #[.string vs[k].key, .int .i64 (now + 1), vs[k].v, .bool vs[k].dead] 190 (0, 0)) := by rw [← hH7, get_set_eq (lt_of_get p4)]; rfl
      have rd : rda 4 (.pointer (some ⟨H5.size, 0, none⟩)) H7 = some (verV vs[k].key (now + 1) vs[k].v vs[k].dead) := by
        rw [rda_ptr, rdn_at hb7 4 0 (by simp)]; rfl
      have k57 : Keep no H5 H7 := p2.trans' k7 fun b e => .inr (Nat.le_of_eq e.symm)
      have h7 := h5.keep k57 fun _ _ h => h
      have hv7 := hvk.keep k57 fun _ _ h => h
      have hfk := hw.fit _ (List.getElem_mem hlt)
      have e6 : IntKind.i64.wrap ((k : Int) + 1) = ((k + 1 : Nat) : Int) := by rw [i64_in _ (by omega)]; rfl
      have hgk : getS (cs'.map Chn.m) vs[k].key = getS (cs.map Chn.m) vs[k].key := by
        rw [m5]
        refine getS_apply fun w hw' => ?_
        obtain ⟨z, hz, rfl⟩ := List.mem_map.1 hw'
        obtain ⟨j, hj, rfl⟩ := List.getElem_of_mem hz
        have hjk : j < k := by simp at hj; omega
        have := List.pairwise_iff_getElem.1 hw.keys j k (by simp; omega) (by simpa using hlt) hjk
        simp only [List.getElem_map] at this
        simp only [List.getElem_take, Vsn.p]
        exact fun e => this e.symm
      have hlv : liveS (cs'.map Chn.m) ≤ 1152921504606846976 := by
        rw [m5]
        have := liveS_apply (stamp := now + 1) (ws := (vs.take k).map Vsn.p) (m := cs.map Chn.m) fun w hw' => by
          obtain ⟨z, hz, rfl⟩ := List.mem_map.1 hw'
          have := hw.fit z (List.mem_of_mem_take hz)
          exact ⟨this.1.2, this.2.1⟩
        have hl : ((vs.take k).map Vsn.p).length = k := by simp; omega
        rw [hl] at this
        omega
      simp only [rd, Gt_some]
      refine ⟨c227 h7 hv7.bs hfk.1 hfk.2.1 hfk.2.2 (by omega) (fun l hl => ?_) (by rw [hgk]; exact hlens _ (List.getElem_mem hlt)) ⟨liveS_nn, hlv⟩ fun cs2 H8 k8 f8 m8 h8 => ?_⟩
      · rw [hgk] at hl
        have := hlast _ l (List.mem_of_getLast? hl)
        omega
      · simp only [binI_neq, bne0, Gt_some, If_false, binI_add, e6]
        refine ⟨⟨k + 1, cs2, by omega, rfl, (k5.trans (k57.mono fun _ _ h => h.elim)).trans' k8 f5, fun b hb => ?_, h8, ?_⟩, decr_lt hlt⟩
        · have := k5.size
          rcases f8 b hb with h | h
          · exact f5 b h
          · have := k57.size; exact .inr (by omega)
        · have st : List.take (k + 1) vs = List.take k vs ++ [vs[k]] := by rw [List.take_append_getElem]
          rw [m8, m5, st, List.map_append, List.map_cons, List.map_nil, applyL_snoc]; rfl
    · have hkk : k = vs.length := by
        have : ¬ k < vs.length := by simpa using hge
        omega
      subst hkk
      have ht : List.take vs.length vs = vs := List.take_length
      rw [ht] at m5
      have hwM : ∀ b, wM p.area P v b → ¬ stF S M cs b := fun b hb hb' => sS b hb' hb
      have kk : Keep (fun b => stF S M cs b ∨ b = K ∨ wM p.area P v b) H H5 := (((k02.mono fun _ _ h => h.elim).trans (k3.mono fun _ _ h => .inr (.inr h))).trans (k4.mono fun _ _ e => .inr (.inl e))).trans (k5.mono fun _ _ h => .inl h)
      have aM : ∀ b, arM p.area w b → wM p.area P v b ∨ H2.size ≤ b := by
        rintro b (rfl | hb)
        · exact .inl (.inl (.inl rfl))
        · exact (f3 b hb).imp (fun h => .inl (.inr h)) id
      have a4 : ∀ b, arM p.area w b → b ≠ K := fun b hb e => by
        rcases aM b hb with h | h
        · exact sK.1 (e ▸ h)
        · have := lt_of_get hK; omega
      have a5 : ∀ b, arM p.area w b → ¬ stF S M cs b := fun b hb hb' => by
        rcases aM b hb with h | h
        · exact hwM b h hb'
        · have := hlt4 b hb'; omega
      have ar5 := (ar3.keep k4 a4).keep k5 a5
      have dk5 : DkRep H5 D P (ps.set i (p.add (vs.length + 1 + 1))) armed := by
        have hDK : D ≠ K := fun e => by
          have := hDk.blk; rw [e, hK] at this; simp [ckO] at this
        have hPK : P ≠ K := fun e => by
          obtain ⟨cs, h1, _⟩ := hDk.parts
          rw [e, hK] at h1; simp [ckO] at h1
        exact (dk3.keep k4 hDK hPK).keep k5 sD (hwM P (.inr rfl))
      refine hR hc hn1 (by simpa using hfin) cs' w H5 kk (fun b hb => ?_) (fun b hb => ?_) m5 h5 (fun b hb hb' => ?_) (k5.at hK4 sK.2) ar5 dk5
      · exact (f5 b hb).imp id fun h => by omega
      · exact (f3 b hb).imp id fun h => by omega
      · rcases f5 b hb' with h | h
        · exact a5 b (.inr hb) h
        · have := ar3.lt b (.inr hb); omega
  · rw [hel] at hk
    have e5 : ((80 : Int) != 0) = true := rfl
    simp only [binI_neq, e5, Gt_some, If_true]
    exact hE hc hn1 k hk har hf1 hf2 w H3 ((k02.mono fun _ _ h => h.elim).trans k3) (fun b hb => (f3 b hb).imp id fun h => by omega) ar3 dk3
end Go.Proofs.YtdoimhpmnmmffaaGreat

/- Contracts of the package disk: a new disk. No condition but those in each statement. -/
namespace Go.Proofs.YtdoimhpmnmmffaaGreat
open Go IntWalk
variable {H : Heap} {R : Value → Heap → Prop} {X : List PanicEntry → Heap → Prop}

theorem mkC_get {s n j : Nat} {zero : Value} (hz : zero.cells.size = s) (hs : 0 < s) (hj : j < n * s) : (mkC s zero n)[j]? = zero.cells[j % s]? := by
  have : j % s < zero.cells.size := by rw [hz]; exact Nat.mod_lt _ hs
  simp only [mkC, hz, Array.getElem?_map, Array.getElem?_range, hj]
  simp [this]
def ptO (b : Nat) : Value := .pointer (some ⟨b, 0, none⟩)
def nPart (a : Nat) : Part := ⟨a, 0, 0, 0, 0⟩
def NwI (H : Heap) (P D n : Nat) (y : Value) (H1 : Heap) : Prop :=
  ∃ (k : Nat) (al : List Nat) (cs : Array Value), k ≤ n ∧ y = .int .i64 k ∧ al.length = k ∧ Keep (fun b => b = P) H H1 ∧ H1[P]? = some (.cells cs 141 (0, 0)) ∧ cs.size = 5 * n ∧
    (∀ i, i < n → cs[5 * i + 1]? = some (.int .i64 0) ∧ cs[5 * i + 2]? = some (.int .i64 0) ∧ cs[5 * i + 3]? = some (bv 0) ∧ cs[5 * i + 4]? = some (.int .i64 0)) ∧ (∀ i (h : i < al.length), cs[5 * i]? = some (ptO al[i])) ∧
    (∀ a ∈ al, H.size ≤ a ∧ a < H1.size) ∧ al.Nodup ∧ ∀ a ∈ al, ArRep H1 a ⟨0, [], 0⟩ (.slice none 0 0)
theorem c39 {n : Nat} (hn : 1 ≤ n ∧ n ≤ 16)
    (hR : ∀ (D P : Nat) (al : List Nat) (H' : Heap), Keep no H H' → H.size ≤ D → H.size ≤ P → al.length = n → (∀ a ∈ al, H.size ≤ a ∧ a ≠ D ∧ a ≠ P) → al.Nodup → DkRep H' D P (al.map nPart) false → (∀ a ∈ al, ArRep H' a ⟨0, [], 0⟩ (.slice none 0 0)) → R (.tuple #[ptO D, .int .i64 0]) H') :
    Runs Tryz.prog 39 [.int .i64 n] H R X := by
  refine l39 ?_
  unfold i39
  have e1 : decide ((n : Int) < 1) = false := by simp; omega
  have e2 : decide ((n : Int) > 16) = false := by simp; omega
  have em : mkV 40 (.int .i64 n) (.int .i64 n) = some (n, n) := by
    simp only [mkV]; rw [if_pos (by omega)]; simp
  have eb : bdV z144 [(0, 1), (1, 1)] [(0, .slice (some ⟨H.size, 0, none⟩) n n)] = some (.agg #[.slice (some ⟨H.size, 0, none⟩) n n, .bool false]) := rfl
  have hc : (Value.agg #[.slice (some ⟨H.size, 0, none⟩) n n, .bool false]).cells = #[.slice (some ⟨H.size, 0, none⟩) n n, .bool false] := rfl
  simp only [binI_lss, e1, Gt_some, binI_gtr, e2, Option.bind_some, ifO_false, If_false, em, Nw_iff, eb, hc, ncV_ptr, faV_ptr, Nat.zero_add]
  generalize hH1 : H.push (.cells (mkC 5 z141 n) 141 (0, 0)) = H1
  have hb1 : H1[H.size]? = some (.cells (mkC 5 z141 n) 141 (0, 0)) := by rw [← hH1]; exact get_push_eq
  have k1 : Keep no H H1 := by rw [← hH1]; exact .push
  have s1 : H1.size = H.size + 1 := by rw [← hH1]; simp
  generalize hH2 : H1.push (.cells #[.slice (some ⟨H.size, 0, none⟩) n n, .bool false] 144 (0, 0)) = H2
  have hb2 : H2[H1.size]? = some (.cells #[.slice (some ⟨H.size, 0, none⟩) n n, .bool false] 144 (0, 0)) := by rw [← hH2]; exact get_push_eq
  have k2 : Keep no H1 H2 := by rw [← hH2]; exact .push
  have s2 : H2.size = H1.size + 1 := by rw [← hH2]; simp
  have r0 : rdc H2 H1.size 0 = some (.slice (some ⟨H.size, 0, none⟩) n n) := by rw [rdc_of hb2]; rfl
  have hz : z141.cells = #[.pointer none, .int .i64 0, .int .i64 0, .int .u8 0, .int .i64 0] := rfl
  simp only [rdv_ptr, r0, Gt_some, lnV_slice]
  refine ⟨fun (y : Value) (H3 : Heap) => NwI H2 H.size H1.size n y H3, fun (y : Value) (_ : Heap) => decr n y, ⟨0, [], mkC 5 z141 n, by omega, rfl, rfl, .refl _, k2.at hb1 fun h => h, by simp [mkC]; omega, fun i hi => ?_, (fun i h => by simp at h), (fun a h => by cases h), .nil, (fun a h => by cases h)⟩, ?_⟩
  · have g : ∀ j, j < 5 → (mkC 5 z141 n)[5 * i + j]? = z141.cells[j]? := fun j hj => by
      rw [mkC_get (s := 5) (zero := z141) rfl (by decide) (by omega)]
      congr 1; omega
    exact ⟨by rw [g 1 (by decide), hz]; rfl, by rw [g 2 (by decide), hz]; rfl, by rw [g 3 (by decide), hz]; rfl, by rw [g 4 (by decide), hz]; rfl⟩
  rintro H3 _ ⟨k, al, cs, hk, rfl, hall, k3, hb3, hcs, hz3, ha3, hf3, hn3, har3⟩
  have hd3 := k3.at hb2 (by omega)
  simp only [binI_lss, Gt_some]
  refine If_iff.2 ⟨fun hlt => ?_, fun hge => ?_⟩
  · have hlt : k < n := by simpa using hlt
    have r3 : rdc H3 H1.size 0 = some (.slice (some ⟨H.size, 0, none⟩) n n) := by rw [rdc_of hd3]; rfl
    simp only [ncV_ptr, faV_ptr, Nat.zero_add, Gt_some, rdv_ptr, r3]
    refine ⟨c72 fun A H4 hA k4 ar4 => ?_⟩
    subst hA
    have hd4 := k4.at hd3 fun h => h
    have hb4 := k4.at hb3 fun h => h
    have r4 : rdc H4 H1.size 0 = some (.slice (some ⟨H.size, 0, none⟩) n n) := by rw [rdc_of hd4]; rfl
    have e3 : iaV 5 (.slice (some ⟨H.size, 0, none⟩) n n) (.int .i64 k) = some (.pointer (some ⟨H.size, k * 5, none⟩)) := by
      simp only [iaV]; rw [if_pos (by omega)]; simp
    have e4 := stV1 (o := k * 5) (v := ptO H3.size) hb4 (by omega) rfl rfl
    have e6 : IntKind.i64.wrap ((k : Int) + 1) = ((k + 1 : Nat) : Int) := by rw [i64_in _ (by omega)]; rfl
    unfold ptO at e4
    simp only [rdv_ptr, r4, Sm_some, e3, Gt_some, faV_ptr, Nat.add_zero, e4, binI_add, e6]
    generalize hH5 : H4.setIfInBounds H.size _ = H5
    have k5 : Keep (fun b => b = H.size) H4 H5 := by rw [← hH5]; exact .set rfl
    have hb5 : H5[H.size]? = some (.cells (cs.setIfInBounds (k * 5) (ptO H3.size)) 141 (0, 0)) := by rw [← hH5]; exact get_set_eq (lt_of_get hb4)
    have s3 := k3.size
    have s4 := k4.size
    have s5 := k5.size
    have hA4 := lt_of_get ar4.blk
    refine ⟨⟨k + 1, al ++ [H3.size], cs.setIfInBounds (k * 5) (ptO H3.size), by omega, rfl, by simp [hall], (k3.trans (k4.mono fun _ _ h => h.elim)).trans k5, hb5, by simpa using hcs, fun i hi => ?_, fun i hi => ?_, fun a ha => ?_, ?_, fun a ha => ?_⟩, decr_lt hlt⟩
    · obtain ⟨g1, g2, g3, g4⟩ := hz3 i hi
      exact ⟨by rw [Array.getElem?_setIfInBounds_ne (by omega)]; exact g1, by rw [Array.getElem?_setIfInBounds_ne (by omega)]; exact g2, by rw [Array.getElem?_setIfInBounds_ne (by omega)]; exact g3, by rw [Array.getElem?_setIfInBounds_ne (by omega)]; exact g4⟩
    · by_cases hik : i < al.length
      · rw [List.getElem_append_left hik, Array.getElem?_setIfInBounds_ne (by omega)]
        exact ha3 i hik
      · have : i = k := by simp at hi; omega
        subst this
        rw [List.getElem_append_right (by omega), Nat.mul_comm i 5]
        have hlt5 : 5 * i < cs.size := by omega
        simp [hlt5, hall]
    · rcases List.mem_append.1 ha with ha | ha
      · have := hf3 a ha; omega
      · simp only [List.mem_singleton] at ha; subst ha; omega
    · rw [List.nodup_append]
      refine ⟨hn3, by simp, fun a ha b hb e => ?_⟩
      simp only [List.mem_singleton] at hb
      subst hb; subst e
      have := hf3 _ ha; omega
    · have hne : ∀ b, arM a (.slice none 0 0) b → b ≠ H.size := by
        rintro b (rfl | hb) e
        · rcases List.mem_append.1 ha with ha | ha
          · have := hf3 _ ha; omega
          · simp only [List.mem_singleton] at ha; omega
        · exact (ob_nil hb).elim
      rcases List.mem_append.1 ha with ha' | ha'
      · exact ((har3 a ha').keep k4 fun _ _ h => h).keep k5 hne
      · simp only [List.mem_singleton] at ha'; subst ha'
        exact ar4.keep k5 hne
  · have hkn : k = n := by
      have : ¬ k < n := by simpa using hge
      omega
    subst hkn
    have hml : (al.map nPart).length = k := by simp [hall]
    refine hR H1.size H.size al H3 ((k1.trans k2).trans' k3 fun b e => .inr (by omega)) (by omega) (by omega) hall (fun a ha => ?_) hn3 ⟨by rw [hml]; exact hd3, ⟨cs, hb3, by rw [hml]; exact hcs, fun i hi => ?_⟩, by omega⟩ har3
    · have := hf3 a ha; omega
    · have hia : i < al.length := by simpa using hi
      obtain ⟨g1, g2, g3, g4⟩ := hz3 i (by omega)
      have : (al.map nPart)[i] = nPart al[i] := by simp
      rw [this]
      exact ⟨ha3 i hia, g1, g2, g3, g4⟩
end Go.Proofs.YtdoimhpmnmmffaaGreat

/- Contracts of the package label: what is asked of a config; a copy of a config. No condition but those in each statement. -/
namespace Go.Proofs.YtdoimhpmnmmffaaGreat
open Go IntWalk
variable {H : Heap} {R : Value → Heap → Prop} {X : List PanicEntry → Heap → Prop}

def AtZ (H : Heap) (y : Value) (H1 : Heap) : Prop := y = .int .i64 0 ∧ H1 = H
/-- a lattice of one label -/
theorem c161 {x : Value} {l : Nat} (hx : LbSl H x [l]) (hR : R (.int .i64 0) H) : Runs Tryz.prog 161 [x] H R X := by
  refine l161 ?_
  unfold i161
  have hln : lnV x = some (.int .i64 1) := by have := SlC.len hx; simpa using this
  have e1 : decide ((1 : Int) < 1) = false := rfl
  have e2 : decide ((1 : Int) > 16) = false := rfl
  simp only [hln, Gt_some, binI_lss, e1, binI_gtr, e2, Option.bind_some, ifO_false, If_false]
  refine ⟨fun (y : Value) (H1 : Heap) => y = .int .i64 1 ∧ H1 = H, fun _ _ => 0, ⟨rfl, rfl⟩, ?_⟩
  rintro H1 y ⟨rfl, rfl⟩
  simp only [binI_lss, e1, Gt_some, If_false]
  refine ⟨fun (y : Value) (H2 : Heap) => ∃ k : Nat, k ≤ 1 ∧ y = .int .i64 k ∧ H2 = H1, fun (y : Value) (_ : Heap) => decr 1 y, ⟨0, by omega, rfl, rfl⟩, ?_⟩
  rintro H2 y ⟨k, hk, rfl, rfl⟩
  simp only [binI_lss, Gt_some]
  refine If_iff.2 ⟨fun hlt => ?_, fun _ => hR⟩
  have hk0 : k = 0 := by
    have : (k : Int) < 1 := by simpa using hlt
    omega
  subst hk0
  obtain ⟨p, q1, q2⟩ := SlC.at1 hx (j := 0) (by simp) (v := .int .u64 (l : Int)) (by simp)
  have e3 : ∃ a c, slV 1 x none (some (.int .i64 ((0 : Nat) : Int))) = some (.slice a 0 c) := by
    obtain ⟨a, c, e⟩ := hx.sl
    subst e
    exact ⟨if (c : Int) = 0 then a else a.map (·.add (0 * 1)), c, by simp [slV, bdI]⟩
  obtain ⟨a, c, e3⟩ := e3
  simp only [q1, q2, Gt_some, e3, lnV_slice]
  refine ⟨fun (y : Value) (H3 : Heap) => AtZ H2 y H3, fun _ _ => 0, ⟨rfl, rfl⟩, ?_⟩
  rintro H3 y ⟨rfl, rfl⟩
  have e4 : decide ((0 : Int) < ((0 : Nat) : Int)) = false := rfl
  have e5 : IntKind.i64.wrap (((0 : Nat) : Int) + 1) = ((1 : Nat) : Int) := i64_in _ (by omega)
  simp only [binI_lss, e4, Gt_some, If_false, binI_add, e5]
  exact ⟨⟨1, by omega, rfl, trivial⟩, decr_lt (by omega)⟩

structure Acc where
  quota : Int
  op : Int
  queue : Int
  win : Int
  start : Int
def accC (a : Acc) : List Value := [iv a.quota, iv a.op, iv a.queue, iv a.win, iv a.start]
structure AccOk (a : Acc) : Prop where
  q : 0 ≤ a.quota ∧ a.quota ≤ 1048576
  o : 0 ≤ a.op ∧ a.op ≤ 32
  k : 0 ≤ a.queue ∧ a.queue ≤ 64
  w : 0 ≤ a.win ∧ a.win ≤ 1048576
  s : 0 ≤ a.start ∧ a.start ≤ 4611686018427387904
theorem Own.isSl {z size n : Nat} {H : Heap} {v : Value} {xs : List Value} (h : Own z size H v n xs) : ∃ a c, v = .slice a n c := by
  cases h <;> exact ⟨_, _, rfl⟩
/-- a config that is read -/
structure CfRep (H : Heap) (lx ax sx : Value) (ls : List Nat) (al : List Acc) (ss : List Int) : Prop where
  l : LbSl H lx ls
  a : SlC H ax 5 (al.map accC)
  s : IvSl H sx ss
  lsc : Sc H 1 lx ls.length (ls.map fun (l : Nat) => Value.int .u64 (l : Int))
  asc : Sc H 5 ax al.length (al.map accC).flatten
  ssc : Sc H 1 sx ss.length (ss.map iv)
def cfF (lx ax sx : Value) (b : Nat) : Prop := ob lx b ∨ ob ax b ∨ ob sx b
theorem Sc.keep {M : Nat → Prop} {H H' : Heap} {size n : Nat} {x : Value} {xs : List Value} (h : Sc H size x n xs) (k : Keep M H H') (hm : ∀ b, ob x b → ¬ M b) : Sc H' size x n xs := ⟨h.sl, srcC_keep h.src k hm, h.len, h.one⟩
theorem CfRep.keep {M : Nat → Prop} {H' : Heap} {lx ax sx : Value} {ls : List Nat} {al : List Acc} {ss : List Int} (h : CfRep H lx ax sx ls al ss) (k : Keep M H H') (hm : ∀ b, cfF lx ax sx b → ¬ M b) : CfRep H' lx ax sx ls al ss :=
  ⟨SlC.keep h.l k fun b hb => hm b (.inl hb), h.a.keep k fun b hb => hm b (.inr (.inl hb)), h.s.keep k fun b hb => hm b (.inr (.inr hb)), h.lsc.keep k fun b hb => hm b (.inl hb), h.asc.keep k fun b hb => hm b (.inr (.inl hb)), h.ssc.keep k fun b hb => hm b (.inr (.inr hb))⟩
def cfV (lx ax sx : Value) : Value := .agg #[lx, ax, sx]
theorem Sc.onec {size n : Nat} {x : Value} {xs : List Value} (h : Sc H size x n xs) : x.cells = #[x] ∧ x.oneCell' = true := by
  obtain ⟨a, c, rfl⟩ := h.sl
  exact ⟨rfl, rfl⟩

theorem c100 {lx ax sx : Value} {ls : List Nat} {al : List Acc} {ss : List Int} (h : CfRep H lx ax sx ls al ss) (hlen : al.length = ls.length) (hl16 : ls.length ≤ 16) (hs32 : ss.length ≤ 32) (hok : ∀ a ∈ al, AccOk a) (hsess : ∀ s ∈ ss, 0 ≤ s ∧ s ≤ (ls.length : Int) - 1)
    (hchk : ∀ (H1 : Heap) (R1 : Value → Heap → Prop), LbSl H1 lx ls → (∀ H', Keep no H1 H' → R1 (.int .i64 0) H') → Runs Tryz.prog 161 [lx] H1 R1 X)
    (hR : ∀ H', Keep no H H' → R (.bool true) H') : Runs Tryz.prog 100 [cfV lx ax sx] H R X := by
  refine l100 ?_
  unfold i100
  have hc : (cfV lx ax sx).cells = #[lx, ax, sx] := rfl
  simp only [Nw_iff, hc]
  generalize hH1 : H.push (.cells #[lx, ax, sx] 26 (0, 0)) = H1
  have hb1 : H1[H.size]? = some (.cells #[lx, ax, sx] 26 (0, 0)) := by rw [← hH1]; exact get_push_eq
  have k1 : Keep no H H1 := by rw [← hH1]; exact .push
  have rr : ∀ {H'}, Keep no H1 H' → rdc H' H.size 0 = some lx ∧ rdc H' H.size 1 = some ax ∧ rdc H' H.size 2 = some sx := fun kk => by
    have := kk.at hb1 fun h => h
    exact ⟨by rw [rdc_of this]; rfl, by rw [rdc_of this]; rfl, by rw [rdc_of this]; rfl⟩
  obtain ⟨r0, r1, r2⟩ := rr (.refl H1)
  simp only [faV_ptr, Nat.zero_add, Gt_some, rdv_ptr, r0]
  refine ⟨hchk H1 _ (SlC.keep h.l k1 fun _ _ h => h) fun H2 k2 => ?_⟩
  obtain ⟨r0, r1, r2⟩ := rr k2
  have k02 := k1.trans k2
  have h2 := h.keep k02 fun _ _ h => h
  have ll : lnV lx = some (.int .i64 ls.length) := by have := SlC.len h.l; simpa using this
  have la : lnV ax = some (.int .i64 ls.length) := by have := h.a.len; rw [← hlen]; simpa using this
  have lsx := h.s.len
  have e1 : ((ls.length : Int) != (ls.length : Int)) = false := by simp
  have e2 : decide ((ss.length : Int) > 32) = false := by simp; omega
  simp only [binI_neq, bne0, Gt_some, Option.bind_some, faV_ptr, rdv_ptr, Nat.zero_add, r0, r1, r2, ll, la, lsx, e1, binI_gtr, e2, ifO_false, If_false]
  refine ⟨fun (y : Value) (H3 : Heap) => LpI H2 ls.length y H3, fun (y : Value) (_ : Heap) => decr ls.length y, ⟨0, by omega, rfl, .refl _⟩, ?_⟩
  rintro H3 _ ⟨k, hk, rfl, k3⟩
  simp only [binI_lss, Gt_some]
  refine If_iff.2 ⟨fun hlt => ?_, fun hge => ?_⟩
  · have hlt : k < ls.length := by simpa using hlt
    have hka : k < al.length := by omega
    have h3 := h2.keep k3 fun _ _ h => h
    obtain ⟨b, o, q1, _, q3⟩ := h3.a.els k (by simpa using hka)
    have q3' : rda 5 (.pointer (some ⟨b, o, none⟩)) H3 = some (.agg (accC al[k]).toArray) := by
      rw [rda_ptr, q3]; simp
    have hca : (Value.agg (accC al[k]).toArray).cells = #[iv al[k].quota, iv al[k].op, iv al[k].queue, iv al[k].win, iv al[k].start] := rfl
    have e4 : stV 5 (.pointer (some ⟨H3.size, 0, none⟩)) (.agg (accC al[k]).toArray) (H3.push (.cells z104.cells 104 (0, 0))) = some ((H3.push (.cells z104.cells 104 (0, 0))).setIfInBounds H3.size (.cells #[iv al[k].quota, iv al[k].op, iv al[k].queue, iv al[k].win, iv al[k].start] 104 (0, 0))) := by
      rw [stV_of get_push_eq (by rfl) (by decide) (by decide) (by rfl)]; rfl
    simp only [q1, q3', Gt_some, Nw_iff, e4]
    generalize hH4 : (H3.push (.cells z104.cells 104 (0, 0))).setIfInBounds H3.size (.cells #[iv al[k].quota, iv al[k].op, iv al[k].queue, iv al[k].win, iv al[k].start] 104 (0, 0)) = H4
    have hb4 : H4[H3.size]? = some (.cells #[iv al[k].quota, iv al[k].op, iv al[k].queue, iv al[k].win, iv al[k].start] 104 (0, 0)) := by rw [← hH4]; exact get_set_eq (by simp)
    have k4 : Keep no H3 H4 := by
      rw [← hH4]
      exact ⟨by simp, fun b hb _ => (get_set_ne (by omega)).trans (get_push_lt hb)⟩
    have s0 : rdc H4 H3.size 0 = some (.int .i64 al[k].quota) := by rw [rdc_of hb4]; rfl
    have s1 : rdc H4 H3.size 1 = some (.int .i64 al[k].op) := by rw [rdc_of hb4]; rfl
    have s2 : rdc H4 H3.size 2 = some (.int .i64 al[k].queue) := by rw [rdc_of hb4]; rfl
    have s3 : rdc H4 H3.size 3 = some (.int .i64 al[k].win) := by rw [rdc_of hb4]; rfl
    have s4 : rdc H4 H3.size 4 = some (.int .i64 al[k].start) := by rw [rdc_of hb4]; rfl
    have hak := hok _ (List.getElem_mem hka)
    have c1 : (decide (0 ≤ al[k].quota) && decide (al[k].quota ≤ 1048576)) = true := by simp; exact hak.q
    have c2 : (decide (0 ≤ al[k].op) && decide (al[k].op ≤ 32)) = true := by simp; exact hak.o
    have c3 : (decide (0 ≤ al[k].queue) && decide (al[k].queue ≤ 64)) = true := by simp; exact hak.k
    have c4 : (decide (0 ≤ al[k].win) && decide (al[k].win ≤ 1048576)) = true := by simp; exact hak.w
    have c5 : (decide (0 ≤ al[k].start) && decide (al[k].start ≤ 4611686018427387904)) = true := by simp; exact hak.s
    have e6 : IntKind.i64.wrap ((k : Int) + 1) = ((k + 1 : Nat) : Int) := by rw [i64_in _ (by omega)]; rfl
    simp only [faV_ptr, Nat.zero_add, Gt_some, rdv_ptr, s0]
    refine ⟨c162 ?_⟩
    simp only [c1, unV_not, Bool.not_true, Gt_some, If_false, faV_ptr, Nat.zero_add, rdv_ptr, s1]
    refine ⟨c162 ?_⟩
    simp only [c2, unV_not, Bool.not_true, Gt_some, If_false, faV_ptr, Nat.zero_add, rdv_ptr, s2]
    refine ⟨c162 ?_⟩
    simp only [c3, unV_not, Bool.not_true, Gt_some, If_false, faV_ptr, Nat.zero_add, rdv_ptr, s3]
    refine ⟨c162 ?_⟩
    simp only [c4, unV_not, Bool.not_true, Gt_some, If_false, faV_ptr, Nat.zero_add, rdv_ptr, s4]
    refine ⟨c162 ?_⟩
    simp only [c5, unV_not, Bool.not_true, Gt_some, If_false, binI_add, e6]
    exact ⟨⟨k + 1, by omega, rfl, k3.trans k4⟩, decr_lt hlt⟩
  · obtain ⟨r0, r1, r2⟩ := rr (k2.trans k3)
    simp only [faV_ptr, Nat.zero_add, Gt_some, rdv_ptr, r2, lsx]
    refine ⟨fun (y : Value) (H4 : Heap) => LpI H3 ss.length y H4, fun (y : Value) (_ : Heap) => decr ss.length y, ⟨0, by omega, rfl, .refl _⟩, ?_⟩
    rintro H4 _ ⟨j, hj, rfl, k4⟩
    simp only [binI_lss, Gt_some]
    refine If_iff.2 ⟨fun hlt => ?_, fun hge => hR H4 ((k02.trans k3).trans k4)⟩
    have hlt : j < ss.length := by simpa using hlt
    obtain ⟨p, q1, q2⟩ := ((h2.s.keep k3 fun _ _ h => h).keep k4 fun _ _ h => h).at hlt
    obtain ⟨r0, r1, r2⟩ := rr ((k2.trans k3).trans k4)
    have e5 : IntKind.i64.wrap ((ls.length : Int) - 1) = (ls.length : Int) - 1 := i64_in _ (by omega)
    have e6 : IntKind.i64.wrap ((j : Int) + 1) = ((j + 1 : Nat) : Int) := by rw [i64_in _ (by omega)]; rfl
    have hsj := hsess _ (List.getElem_mem hlt)
    have c1 : (decide (0 ≤ ss[j]) && decide (ss[j] ≤ (ls.length : Int) - 1)) = true := by
      rw [Bool.and_eq_true, decide_eq_true_eq, decide_eq_true_eq]; exact hsj
    simp only [iv] at q2
    simp only [q1, q2, Gt_some, faV_ptr, Nat.zero_add, rdv_ptr, r0, ll, binI_sub, e5]
    refine ⟨c162 ?_⟩
    simp only [c1, unV_not, Bool.not_true, Gt_some, If_false, binI_add, e6]
    exact ⟨⟨j + 1, by omega, rfl, k4⟩, decr_lt hlt⟩

theorem c102 {lx ax sx : Value} {ls : List Nat} {al : List Acc} {ss : List Int} (h : CfRep H lx ax sx ls al ss) (hl : ls.length ≤ 1048576 ∧ al.length ≤ 1048576 ∧ ss.length ≤ 1048576)
    (hR : ∀ ly ay sy H', Keep no H H' → (∀ b, cfF ly ay sy b → H.size ≤ b ∧ b < H'.size) → CfRep H' ly ay sy ls al ss → R (cfV ly ay sy) H') : Runs Tryz.prog 102 [cfV lx ax sx] H R X := by
  refine l102 ?_
  unfold i102
  have hc : (cfV lx ax sx).cells = #[lx, ax, sx] := rfl
  simp only [Nw_iff, hc]
  generalize hH1 : H.push (.cells #[lx, ax, sx] 26 (0, 0)) = H1
  have hb1 : H1[H.size]? = some (.cells #[lx, ax, sx] 26 (0, 0)) := by rw [← hH1]; exact get_push_eq
  have k1 : Keep no H H1 := by rw [← hH1]; exact .push
  generalize hH2 : H1.push (.cells z26.cells 26 (0, 0)) = H2
  have hb2 : H2[H1.size]? = some (.cells z26.cells 26 (0, 0)) := by rw [← hH2]; exact get_push_eq
  have k2 : Keep no H1 H2 := by rw [← hH2]; exact .push
  have k02 := k1.trans k2
  have rr : ∀ {H'}, Keep no H1 H' → rdc H' H.size 0 = some lx ∧ rdc H' H.size 1 = some ax ∧ rdc H' H.size 2 = some sx := fun kk => by
    have := kk.at hb1 fun h => h
    exact ⟨by rw [rdc_of this]; rfl, by rw [rdc_of this]; rfl, by rw [rdc_of this]; rfl⟩
  obtain ⟨r0, r1, r2⟩ := rr k2
  simp only [faV_ptr, Nat.zero_add, Gt_some, rdv_ptr, r0, r1, r2]
  refine ⟨c163 (h.lsc.keep k02 fun _ _ h => h) (by omega) fun ly H3 k3 f3 o3 => ?_⟩
  obtain ⟨_, t1, t2⟩ := rr (k2.trans k3)
  have k03 := k02.trans k3
  simp only [rdv_ptr, t1, t2, Sm_some]
  refine ⟨c164 (h.asc.keep k03 fun _ _ h => h) (by omega) fun ay H4 k4 f4 o4 => ?_⟩
  obtain ⟨_, t1, t2⟩ := rr ((k2.trans k3).trans k4)
  have k04 := k03.trans k4
  simp only [rdv_ptr, t1, t2, Sm_some]
  refine ⟨c165 (h.ssc.keep k04 fun _ _ h => h) (by omega) fun sy H5 k5 f5 o5 => ?_⟩
  have k05 := k04.trans k5
  have e1 : bdV z26 [(0, 1), (1, 1), (2, 1)] [(0, ly), (1, ay), (2, sy)] = some (cfV ly ay sy) := by
    obtain ⟨_, _, h1⟩ := o3.isSl
    obtain ⟨_, _, h2⟩ := o4.isSl
    obtain ⟨_, _, h3⟩ := o5.isSl
    rw [h1, h2, h3]; rfl
  have hc2 : (cfV ly ay sy).cells = #[ly, ay, sy] := rfl
  have hb5 := ((k3.trans k4).trans k5).at hb2 fun h => h
  have e2 : stV 3 (.pointer (some ⟨H1.size, 0, none⟩)) (cfV ly ay sy) H5 = some (H5.setIfInBounds H1.size (.cells #[ly, ay, sy] 26 (0, 0))) := by
    rw [stV_of hb5 (by rw [hc2]; rfl) (by decide) (by decide) (by rw [hc2]; simp only [List.all_cons, List.all_nil, o3.one.2, o4.one.2, o5.one.2]; rfl), hc2]; rfl
  have e3 := rdn_at (get_set_eq (o := .cells #[ly, ay, sy] 26 (0, 0)) (lt_of_get hb5)) 3 0 (by simp)
  simp only [e1, Gt_some, e2, rda_ptr, e3, Option.map_some]
  generalize hH6 : H5.setIfInBounds H1.size _ = H6
  have k6 : Keep (fun b => b = H1.size) H5 H6 := by rw [← hH6]; exact .set rfl
  have s1 := k1.size
  have s2 := k02.size
  have s3 := k3.size
  have s4 := k4.size
  have hlt1 := lt_of_get hb2
  have g3 : ∀ b, ob ly b → H.size ≤ b ∧ b ≠ H1.size := fun b hb => by have := f3 b hb; omega
  have g4 : ∀ b, ob ay b → H.size ≤ b ∧ b ≠ H1.size := fun b hb => by have := f4 b hb; omega
  have g5 : ∀ b, ob sy b → H.size ≤ b ∧ b ≠ H1.size := fun b hb => by have := f5 b hb; omega
  have o3' := ((o3.keep k4 fun _ _ h => h).keep k5 fun _ _ h => h).keep k6 fun b hb e => (g3 b hb).2 e
  have o4' := (o4.keep k5 fun _ _ h => h).keep k6 fun b hb e => (g4 b hb).2 e
  have o5' := o5.keep k6 fun b hb e => (g5 b hb).2 e
  have mk : ∀ {z size n : Nat} {v : Value} {xs : List Value}, Own z size H6 v n xs → xs.all Value.oneCell' = true → Sc H6 size v n xs := fun o ho => by
    refine ⟨?_, o.src, o.len, ho⟩
    cases o with
    | nil => exact ⟨_, _, rfl⟩
    | blk => exact ⟨_, _, rfl⟩
  refine hR ly ay sy H6 (k05.trans' k6 fun b e => .inr (by omega)) ?_ ⟨?_, ?_, ?_, mk o3' h.lsc.one, mk o4' h.asc.one, mk o5' h.ssc.one⟩
  · rintro b (hb | hb | hb)
    · exact ⟨(g3 b hb).1, o3'.lt hb⟩
    · exact ⟨(g4 b hb).1, o4'.lt hb⟩
    · exact ⟨(g5 b hb).1, o5'.lt hb⟩
  · refine Own.slc (z := 155) (size := 1) ?_ fun c hc => ?_
    · rw [flat1 (fun (l : Nat) => Value.int .u64 (l : Int)) ls]; simpa using o3'
    · obtain ⟨d, _, rfl⟩ := List.mem_map.1 hc; rfl
  · refine Own.slc (z := 104) (size := 5) (by simpa using o4') fun c hc => ?_
    obtain ⟨d, _, rfl⟩ := List.mem_map.1 hc; rfl
  · have : OI H6 sy ss := o5'
    exact this.sl
end Go.Proofs.YtdoimhpmnmmffaaGreat

/- Contracts: an empty area is read; a store of an empty log. No condition but those in each statement. -/
namespace Go.Proofs.YtdoimhpmnmmffaaGreat
open Go IntWalk
variable {H : Heap} {R : Value → Heap → Prop} {X : List PanicEntry → Heap → Prop}

theorem sl_empty {v : Value} (h : Bs H v []) : ∃ a c, slV 1 v (some (.int .i64 0)) none = some (.slice a 0 c) := by
  obtain ⟨a, c, rfl⟩ := h.sl
  exact ⟨if (c : Int) = 0 then a else a.map (·.add (0 * 1)), c, by simp [slV, bdI]⟩
theorem c236e {A : Nat} (h : ArRep H A ⟨0, [], 0⟩ (.slice none 0 0)) (hR : ∀ w H', Keep no H H' → (∀ b, ob w b → H.size ≤ b) → OB H' w [] → R (.tuple #[w, .int .i64 0]) H') : Runs Tryz.prog 236 [ptO A, .int .i64 0, .int .i64 0] H R X := by
  refine l236 ?_
  unfold i236
  have hk := h.blk
  unfold arO at hk
  have r0 : rdc H A 0 = some (.int .i64 0) := by rw [rdc_of hk]; rfl
  have r1 : rdc H A 1 = some (.slice none 0 0) := by rw [rdc_of hk]; rfl
  have e1 : decide ((0 : Int) < 0) = false := rfl
  have e2 : decide ((0 : Int) > ((0 : Nat) : Int)) = false := rfl
  have e3 : IntKind.i64.wrap ((0 : Int) + ((0 : Nat) : Int)) = 0 := rfl
  have e4 : IntKind.i64.wrap ((0 : Int) - 0) = 0 := rfl
  have e5 : decide ((0 : Int) > 0) = false := rfl
  have e6 : slV 1 (.slice none 0 0) (some (.int .i64 0)) none = some (.slice none 0 0) := rfl
  have e7 : slV 1 (.slice none 0 0) none (some (.int .i64 0)) = some (.slice none 0 0) := rfl
  unfold ptO
  simp only [ptrEq_nil_r, Option.isNone_some, Option.map_some, Gt_some, If_false]
  refine Jo1 ?_
  simp only [binI_lss, e1, Gt_some, If_false, ncV_ptr, faV_ptr, Nat.zero_add, rdv_ptr, r0, r1, lnV_slice, binI_gtr, e2, binI_add, e3, binI_sub, e4, e5, e6, e7]
  exact ⟨c99 By.nil (by simp) fun w H1 k1 f1 o1 => hR w H1 k1 f1 o1⟩
theorem c206e {D P : Nat} {ps : List Part} {armed : Bool} (h : DkRep H D P ps armed) {i : Nat} (hi : i < ps.length) (ha : ArRep H ps[i].area ⟨0, [], 0⟩ (.slice none 0 0))
    (hR : ∀ w H', Keep no H H' → (∀ b, ob w b → H.size ≤ b) → OB H' w [] → R (.tuple #[w, .int .i64 0]) H') : Runs Tryz.prog 206 [ptO D, .int .i64 i, .int .i64 0, .int .i64 0] H R X := by
  refine l206 ⟨c139 h hi ?_⟩
  obtain ⟨cs, h1, h2, h3⟩ := h.parts
  have e0 := (h3 i hi).h0
  rw [Nat.mul_comm] at e0
  have r0 : rdc H P (i * 5) = some (ptO ps[i].area) := by rw [rdc_of h1]; exact e0
  have x0 : ∀ a b : Value, exV 0 (.tuple #[a, b]) = some a := fun _ _ => rfl
  have x1 : ∀ a b : Value, exV 1 (.tuple #[a, b]) = some b := fun _ _ => rfl
  simp only [x0, x1, binI_neq, bne0, Gt_some, If_false, ncV_ptr, faV_ptr, Nat.add_zero, rdv_ptr, r0]
  refine ⟨c236e ha fun w H1 k1 f1 o1 => ?_⟩
  simp only [x0, x1, Gt_some]
  exact hR w H1 k1 f1 o1
theorem c207 {v : Value} {bs : List UInt8} (hv : Bs H v bs) (hl : bs.length ≤ 140737488355328)
    (hR : ∀ b w H', Keep no H H' → H.size ≤ b → H'[b]? = some (.cells #[w] 45 (0, 0)) → (∀ c, ob w c → H.size ≤ c ∧ c ≠ b) → OB H' w bs → R (.func (.func 237) #[] #[ptO b]) H') : Runs Tryz.prog 207 [v] H R X := by
  refine l207 ?_
  unfold i207
  have hc : v.cells = #[v] := by obtain ⟨a, c, rfl⟩ := hv.sl; rfl
  simp only [Nw_iff, hc]
  generalize hH1 : H.push (.cells #[v] 45 (0, 0)) = H1
  have hb1 : H1[H.size]? = some (.cells #[v] 45 (0, 0)) := by rw [← hH1]; exact get_push_eq
  have k1 : Keep no H H1 := by rw [← hH1]; exact .push
  have r0 : rdc H1 H.size 0 = some v := by rw [rdc_of hb1]; rfl
  simp only [rdv_ptr, r0, Gt_some]
  refine ap_copy (hv.rd.keep k1 fun _ _ h => h) hl fun w H2 k2 f2 o2 => ?_
  have hb2 := k2.at hb1 fun h => h
  have e3 := stV1 (o := 0) (v := w) hb2 (by simp) o2.one.1 o2.one.2
  simp only [e3, Gt_some]
  generalize hH3 : H2.setIfInBounds H.size _ = H3
  have k3 : Keep (fun b => b = H.size) H2 H3 := by rw [← hH3]; exact .set rfl
  have hb3 : H3[H.size]? = some (.cells #[w] 45 (0, 0)) := by rw [← hH3]; exact get_set_eq (lt_of_get hb2)
  have s1 := lt_of_get hb1
  have f2' : ∀ c, ob w c → H.size ≤ c ∧ c ≠ H.size := fun c hc => by have := f2 c hc; omega
  exact hR H.size w H3 ((k1.trans k2).trans' k3 fun b e => .inr (by omega)) (Nat.le_refl _) hb3 f2' (o2.keep k3 fun c hc e => (f2' c hc).2 e)
theorem c238e {a : Option Addr} {c : Nat} (hR : R (.tuple #[.slice none 0 0, .int .i64 0, .int .i64 20]) H) : Runs Tryz.prog 238 [.slice a 0 c] H R X := by
  refine l238 ?_
  unfold i238
  have e1 : (((0 : Nat) : Int) == 0) = true := rfl
  simp only [lnV_slice, Gt_some, binI_eql, e1, If_true]
  exact hR
theorem c237e {yv w : Value} {b : Nat} (hb : H[b]? = some (.cells #[w] 45 (0, 0))) (hw : OB H w []) (hR : R (.tuple #[]) H) : Runs Tryz.prog 237 [yv, ptO b] H R X := by
  refine l237 ?_
  unfold i237
  refine ⟨fun (y : Value) (H1 : Heap) => AtZ H y H1, fun _ _ => 0, ⟨rfl, rfl⟩, ?_⟩
  rintro H1 y ⟨rfl, rfl⟩
  have r0 : rdc H1 b 0 = some w := by rw [rdc_of hb]; rfl
  obtain ⟨a, c, e1⟩ := sl_empty hw.bs
  unfold ptO
  simp only [rdv_ptr, r0, Gt_some, e1]
  refine ⟨c238e ?_⟩
  have x0 : ∀ a b c : Value, exV 0 (.tuple #[a, b, c]) = some a := fun _ _ _ => rfl
  have x1 : ∀ a b c : Value, exV 1 (.tuple #[a, b, c]) = some b := fun _ _ _ => rfl
  have x2 : ∀ a b c : Value, exV 2 (.tuple #[a, b, c]) = some c := fun _ _ _ => rfl
  have e2 : ((20 : Int) != 0) = true := rfl
  simp only [x0, x1, x2, Gt_some, binI_neq, e2, If_true]
  exact hR

theorem c169e {L D P i : Nat} (hL : H[L]? = some (lgO D i)) {ps : List Part} {armed : Bool} (h : DkRep H D P ps armed) (hi : i < ps.length) (ha : ArRep H ps[i].area ⟨0, [], 0⟩ (.slice none 0 0))
    (hR : ∀ H', Keep no H H' → R (.tuple #[.slice none 0 0, .slice none 0 0]) H') : Runs Tryz.prog 169 [ptO L] H R X := by
  refine l169 ⟨c48 hL h hi ha ⟨Int.le_refl _, by simp⟩ (by simp) ?_⟩
  have x0 : ∀ a b c : Value, exV 0 (.tuple #[a, b, c]) = some a := fun _ _ _ => rfl
  have x1 : ∀ a b c : Value, exV 1 (.tuple #[a, b, c]) = some b := fun _ _ _ => rfl
  have x2 : ∀ a b c : Value, exV 2 (.tuple #[a, b, c]) = some c := fun _ _ _ => rfl
  have y0 : ∀ a b : Value, exV 0 (.tuple #[a, b]) = some a := fun _ _ => rfl
  have y1 : ∀ a b : Value, exV 1 (.tuple #[a, b]) = some b := fun _ _ => rfl
  simp only [x0, x1, x2, Gt_some, Nw_iff]
  have e1 := stV1 (H := H.push (.cells z3.cells 3 (0, 0))) (b := H.size) (o := 0) (v := .int .i64 0) get_push_eq (by decide) rfl rfl
  simp only [e1, Gt_some]
  generalize hH1 : (H.push (.cells z3.cells 3 (0, 0))).setIfInBounds H.size _ = H1
  have hb1 : H1[H.size]? = some (.cells #[.int .i64 0] 3 (0, 0)) := by rw [← hH1, get_set_eq (by simp)]; rfl
  have k1 : Keep no H H1 := by
    rw [← hH1]
    exact ⟨by simp, fun b hb _ => (get_set_ne (by omega)).trans (get_push_lt hb)⟩
  have hL1 := k1.at hL fun h => h
  have hk := hL1
  unfold lgO at hk
  have l0 : rdc H1 L 0 = some (ptO D) := by rw [rdc_of hk]; rfl
  have l1 : rdc H1 L 1 = some (.int .i64 i) := by rw [rdc_of hk]; rfl
  have r0 : rdc H1 H.size 0 = some (.int .i64 0) := by rw [rdc_of hb1]; rfl
  have e2 : IntKind.i64.wrap ((0 : Int) + ((([] : List UInt8).length : Nat) : Int) - 0) = 0 := rfl
  unfold ptO
  simp only [ptrEq_nil_r, Option.isNone_some, Option.map_some, Gt_some, If_false, ncV_ptr, faV_ptr, Nat.zero_add, rdv_ptr, l0, l1, r0, binI_sub, e2]
  refine ⟨c206e (h.keep k1 (fun h => h) fun h => h) hi (ha.keep k1 fun _ _ h => h) fun w H2 k2 f2 o2 => ?_⟩
  simp only [y0, y1, Gt_some, Nw_iff]
  generalize hH3 : H2.push (.cells z125.cells 125 (0, 0)) = H3
  have hb3 : H3[H2.size]? = some (.cells #[.slice none 0 0] 125 (0, 0)) := by rw [← hH3]; exact get_push_eq
  have k3 : Keep no H2 H3 := by rw [← hH3]; exact .push
  generalize hH4 : H3.push (.cells z24.cells 24 (0, 0)) = H4
  have hb4 : H4[H3.size]? = some (.cells #[.slice none 0 0] 24 (0, 0)) := by rw [← hH4]; exact get_push_eq
  have k4 : Keep no H3 H4 := by rw [← hH4]; exact .push
  have o4 := (o2.keep k3 fun _ _ h => h).keep k4 fun _ _ h => h
  refine ⟨c207 o4.bs (by simp) fun b u H5 k5 hb hbu fu ou => ?_⟩
  refine ⟨237, [], [ptO b], rfl, rfl, fun r hy => ?_⟩
  generalize hH6 : (H5.push (.deferred (some []))).push (lo r .ready none) = H6
  have hd6 : H6[H5.size]? = some (.deferred (some [])) := by rw [← hH6, get_push_lt (by simp)]; exact get_push_eq
  have hl6 : H6[H5.size + 1]? = some (lo r .ready none) := by
    rw [← hH6]
    have := get_push_eq (H := H5.push (.deferred (some []))) (o := lo r .ready none)
    simpa using this
  have k6 : Keep no H5 H6 := by rw [← hH6]; exact Keep.push.trans .push
  refine c237e (k6.at hbu fun h => h) (ou.keep k6 fun _ _ h => h) (.fin .ready (by decide) hl6 ?_)
  generalize hH7 : H6.setIfInBounds (H5.size + 1) (lo r .exhausted none) = H7
  have k7 : Keep (fun c => c = H5.size + 1) H6 H7 := by rw [← hH7]; exact .set rfl
  have s3 := lt_of_get hb3
  have s4 := lt_of_get hb4
  have s5 := k5.size
  have s1 := k1.size
  have s2 := k2.size
  have hb37 := k7.at (k6.at (k5.at (k4.at hb3 fun h => h) fun h => h) fun h => h) (by omega)
  have hb47 := k7.at (k6.at (k5.at hb4 fun h => h) fun h => h) (by omega)
  have hd7 := k7.at hd6 (by omega)
  have q3 : rdc H7 H2.size 0 = some (.slice none 0 0) := by rw [rdc_of hb37]; rfl
  have q4 : rdc H7 H3.size 0 = some (.slice none 0 0) := by rw [rdc_of hb47]; rfl
  simp only [rdv_ptr, q3, q4, Gt_some]
  refine ⟨hd7, ?_⟩
  have k8 : Keep (fun c => c = H5.size) H7 (H7.setIfInBounds H5.size (.deferred none)) := .set rfl
  have k05 : Keep no H H6 := ((((k1.trans k2).trans k3).trans k4).trans k5).trans k6
  exact hR _ ((k05.trans' k7 fun c e => .inr (by omega)).trans' k8 fun c e => .inr (by omega))

theorem c170e {start : Int} (hR : ∀ S M H', Keep no H H' → (∀ b, stF S M [] b → H.size ≤ b) → SoRep H' S M [] → R (.tuple #[ptO S, .int .i64 start, .int .i64 0]) H') : Runs Tryz.prog 170 [.slice none 0 0, .int .i64 start] H R X := by
  refine l170 ⟨c209 fun S M H1 k1 hS hM st => ?_⟩
  have e1 : bdV z317 [(0, 1), (1, 1), (2, 1)] [(0, ptO S), (1, .int .i64 start)] = some (.agg #[ptO S, .int .i64 start, .int .i64 0]) := rfl
  have hc : (Value.agg #[ptO S, .int .i64 start, .int .i64 0]).cells = #[ptO S, .int .i64 start, .int .i64 0] := rfl
  unfold ptO at e1 hc
  simp only [e1, Gt_some, Nw_iff, hc]
  generalize hH2 : H1.push (.cells #[.pointer (some ⟨S, 0, none⟩), .int .i64 start, .int .i64 0] 317 (0, 0)) = H2
  have hb2 : H2[H1.size]? = some (.cells #[.pointer (some ⟨S, 0, none⟩), .int .i64 start, .int .i64 0] 317 (0, 0)) := by rw [← hH2]; exact get_push_eq
  have k2 : Keep no H1 H2 := by rw [← hH2]; exact .push
  have r0 : rdc H2 H1.size 0 = some (.pointer (some ⟨S, 0, none⟩)) := by rw [rdc_of hb2]; rfl
  have r1 : rdc H2 H1.size 1 = some (.int .i64 start) := by rw [rdc_of hb2]; rfl
  have r2 : rdc H2 H1.size 2 = some (.int .i64 0) := by rw [rdc_of hb2]; rfl
  refine Jo0 ?_
  refine ⟨fun (H3 : Heap) => H3 = H2, fun _ => 0, rfl, ?_⟩
  rintro H3 rfl
  have e2 : decide ((0 : Int) < ((0 : Nat) : Int)) = false := rfl
  simp only [ncV_ptr, faV_ptr, Nat.zero_add, Gt_some, rdv_ptr, r0, r1, r2, lnV_slice, binI_lss, e2, If_false]
  refine hR S M H3 (k1.trans k2) ?_ ((SoRep.new st).keep k2 fun _ _ h => h)
  rintro b (rfl | rfl | ⟨c, hc, _⟩)
  · exact hS
  · exact hM
  · cases hc
theorem c105e {L D P i : Nat} (hL : H[L]? = some (lgO D i)) {ps : List Part} {armed : Bool} (h : DkRep H D P ps armed) (hi : i < ps.length) (ha : ArRep H ps[i].area ⟨0, [], 0⟩ (.slice none 0 0)) {start : Int} (hs : 0 ≤ start ∧ start ≤ 4611686018427387904)
    (hR : ∀ S M H', Keep no H H' → (∀ b, stF S M [] b → H.size ≤ b) → SoRep H' S M [] → R (.tuple #[ptO S, .int .i64 start, .int .i64 0]) H') : Runs Tryz.prog 105 [ptO L, .int .i64 start] H R X := by
  refine l105 ?_
  unfold i105 ptO
  have e1 : decide (start < 0) = false := by simp; omega
  have e2 : decide (start > 4611686018427387904) = false := by simp; omega
  simp only [ptrEq_nil_r, Option.isNone_some, Option.map_some, Gt_some, If_false, binI_lss, e1, binI_gtr, e2, Option.bind_some, ifO_false]
  refine ⟨c169e hL h hi ha fun H1 k1 => ?_⟩
  have x0 : ∀ a b c : Value, exV 0 (.tuple #[a, b, c]) = some a := fun _ _ _ => rfl
  have x1 : ∀ a b c : Value, exV 1 (.tuple #[a, b, c]) = some b := fun _ _ _ => rfl
  have x2 : ∀ a b c : Value, exV 2 (.tuple #[a, b, c]) = some c := fun _ _ _ => rfl
  have y0 : ∀ a b : Value, exV 0 (.tuple #[a, b]) = some a := fun _ _ => rfl
  have y1 : ∀ a b : Value, exV 1 (.tuple #[a, b]) = some b := fun _ _ => rfl
  simp only [y0, y1, Gt_some]
  refine ⟨c170e fun S M H2 k2 fs so => ?_⟩
  simp only [x0, x1, x2, Gt_some]
  have k02 := k1.trans k2
  refine ⟨c48 (k02.at hL fun h => h) (h.keep k02 (fun h => h) fun h => h) hi (ha.keep k02 fun _ _ h => h) ⟨Int.le_refl _, by simp⟩ (by simp) ?_⟩
  have e3 : decide ((0 : Int) > 0) = false := rfl
  simp only [x0, x1, x2, Gt_some, binI_gtr, e3]
  refine Jo1 ?_
  have e4 : decide ((0 : Int) + ((([] : List UInt8).length : Nat) : Int) > 0) = false := rfl
  simp only [If_false, binI_gtr, e4, Gt_some]
  exact hR S M H2 k02 (fun b hb => Nat.le_trans k1.size (fs b hb)) so
end Go.Proofs.YtdoimhpmnmmffaaGreat

/- Contracts of the package table: a new table. No condition but those in each statement. -/
namespace Go.Proofs.YtdoimhpmnmmffaaGreat
open Go IntWalk
variable {H : Heap} {R : Value → Heap → Prop} {X : List PanicEntry → Heap → Prop}

def ClI (H : Heap) (A G n : Nat) (y : Value) (H1 : Heap) : Prop :=
  ∃ (k : Nat) (ms : List MI), k ≤ n ∧ y = .int .i64 k ∧ ms.length = k ∧ Keep (fun b => b = A ∨ b = G) H H1 ∧ H1[A]? = some (.cells (ms.map mpV ++ List.replicate (n - k) z246).toArray 246 (0, 0)) ∧
    H1[G]? = some (.cells ((List.replicate n (0 : Int)).map iv).toArray 3 (0, 0)) ∧ (∀ m ∈ ms, MiRep H1 m.1 m.2 ∧ m.2 = [] ∧ H.size ≤ m.1) ∧ (ms.map (·.1)).Nodup
theorem c173 {T G n : Nat} {life : Int} {v0 : Value} (hT : H[T]? = some (.cells #[iv life, v0, .slice (some ⟨G, 0, none⟩) n n] 244 (0, 0))) (hG : H[G]? = some (.cells ((List.replicate n (0 : Int)).map iv).toArray 3 (0, 0))) (hn : n ≤ 1048576)
    (hR : ∀ (A : Nat) (ms : List MI) (H' : Heap), Keep (fun b => b = T ∨ b = G) H H' → H.size ≤ A → (∀ m ∈ ms, H.size ≤ m.1 ∧ m.2 = []) → ms.length = n → TbRep H' T life A G ms (List.replicate n 0) → R (.tuple #[]) H') : Runs Tryz.prog 173 [ptO T] H R X := by
  refine l173 ?_
  unfold i173 ptO
  have r2 : rdc H T 2 = some (.slice (some ⟨G, 0, none⟩) n n) := by rw [rdc_of hT]; rfl
  have em : mkV 8 (.int .i64 n) (.int .i64 n) = some (n, n) := by
    simp only [mkV]; rw [if_pos (by omega)]; simp
  simp only [ncV_ptr, Gt_some, faV_ptr, Nat.zero_add, rdv_ptr, r2, lnV_slice, em, Nw_iff]
  have hmk : mkC 1 z246 n = (List.replicate n z246).toArray := by apply Array.ext'; rw [mkC_rep rfl]
  rw [hmk]
  generalize hH1 : H.push (.cells (List.replicate n z246).toArray 246 (0, 0)) = H1
  have hb1 : H1[H.size]? = some (.cells (List.replicate n z246).toArray 246 (0, 0)) := by rw [← hH1]; exact get_push_eq
  have k1 : Keep no H H1 := by rw [← hH1]; exact .push
  have hT1 := k1.at hT fun h => h
  have e1 := stV1 (o := 1) (v := .slice (some ⟨H.size, 0, none⟩) n n) hT1 (by simp) rfl rfl
  simp only [e1, Gt_some]
  generalize hH2 : H1.setIfInBounds T _ = H2
  have hTl := lt_of_get hT
  have hGl := lt_of_get hG
  have hTG : T ≠ G := fun e => by have := hT; rw [e, hG] at this; simp at this
  have k2 : Keep (fun b => b = T) H1 H2 := by rw [← hH2]; exact .set rfl
  have hT2 : H2[T]? = some (.cells #[iv life, .slice (some ⟨H.size, 0, none⟩) n n, .slice (some ⟨G, 0, none⟩) n n] 244 (0, 0)) := by rw [← hH2, get_set_eq (lt_of_get hT1)]; rfl
  have hb2 := k2.at hb1 (by omega)
  have hG2 := k2.at (k1.at hG fun h => h) (Ne.symm hTG)
  have t1 : rdc H2 T 1 = some (.slice (some ⟨H.size, 0, none⟩) n n) := by rw [rdc_of hT2]; rfl
  simp only [rdv_ptr, t1, Gt_some, lnV_slice]
  have s1 : H1.size = H.size + 1 := by rw [← hH1]; simp
  have s2 : H2.size = H1.size := by rw [← hH2]; simp
  refine ⟨fun (y : Value) (H3 : Heap) => ClI H2 H.size G n y H3, fun (y : Value) (_ : Heap) => decr n y, ⟨0, [], by omega, rfl, rfl, .refl _, by simpa using hb2, hG2, (fun m h => by cases h), .nil⟩, ?_⟩
  rintro H3 _ ⟨k, ms, hk, rfl, hml, k3, hA3, hG3, hm3, hn3⟩
  have hT3 := k3.at hT2 (by rintro (e | e); omega; exact hTG e)
  simp only [binI_lss, Gt_some]
  refine If_iff.2 ⟨fun hlt => ?_, fun hge => ?_⟩
  · have hlt : k < n := by simpa using hlt
    have t1 : rdc H3 T 1 = some (.slice (some ⟨H.size, 0, none⟩) n n) := by rw [rdc_of hT3]; rfl
    have t2 : rdc H3 T 2 = some (.slice (some ⟨G, 0, none⟩) n n) := by rw [rdc_of hT3]; rfl
    simp only [ncV_ptr, faV_ptr, Nat.zero_add, Gt_some, rdv_ptr, t1, t2, Nw_iff]
    generalize hH4 : H3.push (.map #[] 0) = H4
    have hm4 : MiRep H4 H3.size [] := by rw [← hH4]; exact .new
    have k4 : Keep no H3 H4 := by rw [← hH4]; exact .push
    have s3 := k3.size
    have s4 : H4.size = H3.size + 1 := by rw [← hH4]; simp
    have hA4 := k4.at hA3 fun h => h
    have hG4 := k4.at hG3 fun h => h
    have e2 : iaV 1 (.slice (some ⟨H.size, 0, none⟩) n n) (.int .i64 k) = some (.pointer (some ⟨H.size, k * 1, none⟩)) := by
      simp only [iaV]; rw [if_pos (by omega)]; simp
    have e3 := stV1 (o := k * 1) (v := .map (some H3.size)) hA4 (by simp [hml]; omega) rfl rfl
    simp only [e2, Gt_some, e3]
    generalize hH5 : H4.setIfInBounds H.size _ = H5
    have k5 : Keep (fun b => b = H.size) H4 H5 := by rw [← hH5]; exact .set rfl
    have hA5 : H5[H.size]? = some (.cells ((ms ++ [(H3.size, [])]).map mpV ++ List.replicate (n - (k + 1)) z246).toArray 246 (0, 0)) := by
      rw [← hH5, get_set_eq (lt_of_get hA4)]
      congr 2
      apply Array.ext'
      have h1 : n - k = (n - (k + 1)) + 1 := by omega
      rw [Array.toList_setIfInBounds]
      simp only [Nat.mul_one]
      rw [h1, List.replicate_succ, List.set_append_right _ _ (by simp [hml])]
      simp [hml, mpV]
    have hG5 := k5.at hG4 (by omega)
    obtain ⟨p, q1, q2⟩ := iv_set (n := n) (c := n) hG5 (by simp) (i := k) (by simpa using hlt) (x := 0)
    have e6 : IntKind.i64.wrap ((k : Int) + 1) = ((k + 1 : Nat) : Int) := by rw [i64_in _ (by omega)]; rfl
    simp only [iv] at q2
    simp only [q1, Gt_some, q2, binI_add, e6]
    generalize hH6 : H5.setIfInBounds G _ = H6
    have k6 : Keep (fun b => b = G) H5 H6 := by rw [← hH6]; exact .set rfl
    have hG6 : H6[G]? = some (.cells ((List.replicate n (0 : Int)).map iv).toArray 3 (0, 0)) := by
      rw [← hH6, get_set_eq (lt_of_get hG5)]
      have : (List.replicate n (0 : Int)).set k 0 = List.replicate n 0 := by
        apply List.ext_getElem
        · simp
        · intro i h1 h2
          rw [List.getElem_set]; split <;> simp
      rw [this]
    have hne : ∀ b, H2.size ≤ b → b ≠ H.size ∧ b ≠ G := fun b hb => by omega
    have kk : ∀ b, H2.size ≤ b → b < H4.size → H6[b]? = H4[b]? := fun b hb hb' => by
      have := hne b hb
      exact (k6.get b (by have := k5.size; omega) this.2).trans (k5.get b hb' this.1)
    refine ⟨⟨k + 1, ms ++ [(H3.size, [])], by omega, rfl, by simp [hml], ((k3.trans (k4.mono fun _ _ h => h.elim)).trans (k5.mono fun _ _ e => .inl e)).trans (k6.mono fun _ _ e => .inr e), k6.at hA5 (by omega), hG6, fun m hm => ?_, ?_⟩, decr_lt hlt⟩
    · rcases List.mem_append.1 hm with hm | hm
      · obtain ⟨g1, g2, g3⟩ := hm3 m hm
        have := hne m.1 g3
        exact ⟨((g1.keep k4 fun h => h).keep k5 this.1).keep k6 this.2, g2, g3⟩
      · simp only [List.mem_singleton] at hm; subst hm
        have := hne H3.size (by omega)
        exact ⟨(hm4.keep k5 this.1).keep k6 this.2, rfl, by show H2.size ≤ H3.size; omega⟩
    · rw [List.map_append, List.nodup_append]
      refine ⟨hn3, by simp, fun a ha b hb e => ?_⟩
      simp only [List.map_cons, List.map_nil, List.mem_singleton] at hb
      subst hb; subst e
      obtain ⟨m, hm, he⟩ := List.mem_map.1 ha
      have := (hm3 m hm).1.lt; omega
  · have hkn : k = n := by
      have : ¬ k < n := by simpa using hge
      omega
    subst hkn
    have kT : Keep (fun b => b = T ∨ b = G) H H3 := ((k1.mono fun _ _ h => h.elim).trans (k2.mono fun _ _ e => .inl e)).trans' k3 fun b e => by
      rcases e with e | e
      · exact .inr (by omega)
      · exact .inl (.inr e)
    refine hR H.size ms H3 kT (Nat.le_refl _) (fun m hm => ⟨by have := (hm3 m hm).2.2; omega, (hm3 m hm).2.1⟩) hml ⟨by rw [hml]; exact hT3, by simp [hml], by simpa using hA3, hG3, fun m hm => (hm3 m hm).1, hn3⟩
theorem c108 {n : Nat} {life : Int} (hn : n ≤ 32) (hl : 1 ≤ life ∧ life ≤ 4611686018427387904)
    (hR : ∀ (T A G : Nat) (ms : List MI) (H' : Heap), Keep no H H' → (∀ b, tbF T A G ms b → H.size ≤ b) → (∀ m ∈ ms, m.2 = []) → ms.length = n → TbRep H' T life A G ms (List.replicate n 0) → R (.tuple #[ptO T, .int .i64 0]) H') : Runs Tryz.prog 108 [.int .i64 n, .int .i64 life] H R X := by
  refine l108 ?_
  unfold i108
  have e1 : decide ((n : Int) < 0) = false := by simp
  have e2 : decide ((n : Int) > 32) = false := by simp; omega
  have e3 : decide (life < 1) = false := by simp; omega
  have e4 : decide (life > 4611686018427387904) = false := by simp; omega
  have em : mkV 8 (.int .i64 n) (.int .i64 n) = some (n, n) := by
    simp only [mkV]; rw [if_pos (by omega)]; simp
  have eb : bdV z244 [(0, 1), (1, 1), (2, 1)] [(0, .int .i64 life), (2, .slice (some ⟨H.size, 0, none⟩) n n)] = some (.agg #[iv life, .slice none 0 0, .slice (some ⟨H.size, 0, none⟩) n n]) := rfl
  have hc : (Value.agg #[iv life, .slice none 0 0, .slice (some ⟨H.size, 0, none⟩) n n]).cells = #[iv life, .slice none 0 0, .slice (some ⟨H.size, 0, none⟩) n n] := rfl
  simp only [binI_lss, binI_gtr, e1, e2, e3, e4, Gt_some, Option.bind_some, ifO_false, If_false, em, Nw_iff, eb, hc, mkC_iv]
  generalize hH1 : H.push (.cells ((List.replicate n (0 : Int)).map iv).toArray 3 (0, 0)) = H1
  have hb1 : H1[H.size]? = some (.cells ((List.replicate n (0 : Int)).map iv).toArray 3 (0, 0)) := by rw [← hH1]; exact get_push_eq
  have k1 : Keep no H H1 := by rw [← hH1]; exact .push
  generalize hH2 : H1.push (.cells #[iv life, .slice none 0 0, .slice (some ⟨H.size, 0, none⟩) n n] 244 (0, 0)) = H2
  have hb2 : H2[H1.size]? = some (.cells #[iv life, .slice none 0 0, .slice (some ⟨H.size, 0, none⟩) n n] 244 (0, 0)) := by rw [← hH2]; exact get_push_eq
  have k2 : Keep no H1 H2 := by rw [← hH2]; exact .push
  have s1 := k1.size
  have s2 := (k1.trans k2).size
  refine ⟨c173 hb2 (k2.at hb1 fun h => h) (by omega) fun A ms H3 k3 hA hm hml tb => ?_⟩
  refine hR H1.size A H.size ms H3 ((k1.trans k2).trans' k3 fun b e => .inr (by omega)) ?_ (fun m hm' => (hm m hm').2) hml tb
  rintro b (rfl | rfl | rfl | hb)
  · exact s1
  · omega
  · omega
  · obtain ⟨m, hm', rfl⟩ := List.mem_map.1 hb
    have := (hm m hm').1; omega
end Go.Proofs.YtdoimhpmnmmffaaGreat

/- Contracts of the package cell: a cell over an empty area. No condition but those in each statement. -/
namespace Go.Proofs.YtdoimhpmnmmffaaGreat
open Go IntWalk
variable {H : Heap} {R : Value → Heap → Prop} {X : List PanicEntry → Heap → Prop}

/-- a cell's block -/
def clC (lx ax sx dv : Value) (p : Nat) (S K A L T : Value) : Array Value := #[lx, ax, sx, iv p, dv, S, K, A, L, T]
def clO (lx ax sx dv : Value) (p : Nat) (S K A L T : Value) : Obj := .cells (clC lx ax sx dv p S K A L T) 116 (0, 0)
theorem labAt {x : Value} {ls : List Nat} (h : LbSl H x ls) {j : Nat} (hj : j < ls.length) : ∃ p, iaV 1 x (.int .i64 j) = some p ∧ rdv p H = some (.int .u64 (ls[j] : Nat)) := SlC.at1 h (by simpa using hj) (by simp)
theorem labLen {x : Value} {ls : List Nat} (h : LbSl H x ls) : lnV x = some (.int .i64 ls.length) := by have := SlC.len h; simpa using this
def accV (a : Acc) : Value := .agg #[iv a.quota, iv a.op, iv a.queue, iv a.win, iv a.start]
theorem accAt {x : Value} {al : List Acc} (h : SlC H x 5 (al.map accC)) {j : Nat} (hj : j < al.length) : ∃ p, iaV 5 x (.int .i64 j) = some p ∧ rda 5 p H = some (accV al[j]) := by
  obtain ⟨b, o, h1, _, h3⟩ := h.els j (by simpa using hj)
  refine ⟨_, h1, ?_⟩
  rw [rda_ptr, h3]
  simp [accC, accV]

/-- what a new cell is made of -/
structure NewCell (H0 H : Heap) (C : Nat) (D P : Nat) (ps : List Part) (armed : Bool) (i : Nat) (ls : List Nat) (al : List Acc) (ss : List Int) (a : Acc) (l : Nat) (life : Int) : Prop where
  ex : ∃ (lx ax sx dv : Value) (S M K A L T G1 G2 : Nat) (ms : List MI),
    H[C]? = some (clO lx ax sx dv i (ptO S) (ptO K) (ptO A) (ptO L) (ptO T)) ∧ CfRep H lx ax sx ls al ss ∧ OI H dv (downL l ls 0) ∧ SoRep H S M [] ∧ H[K]? = some (ckO a.start a.win) ∧ H[A]? = some (acO a.quota a.op 0 0 0) ∧ H[L]? = some (lgO D i) ∧
    TbRep H T life G1 G2 ms (List.replicate ss.length 0) ∧ ms.length = ss.length ∧ (∀ m ∈ ms, m.2 = []) ∧
    H0.size ≤ C ∧ (∀ b, cfF lx ax sx b ∨ ob dv b → H0.size ≤ b ∧ b < C) ∧ C < L ∧ (∀ b, stF S M [] b → L < b ∧ b < K) ∧ K < A ∧ (∀ b, tbF T G1 G2 ms b → A < b ∧ b < H.size)

theorem c64e {D P i : Nat} {ps : List Part} {armed : Bool} (h : DkRep H D P ps armed) (hi : i < ps.length) (ha : ArRep H ps[i].area ⟨0, [], 0⟩ (.slice none 0 0)) {lx ax sx : Value} {ls : List Nat} {al : List Acc} {ss : List Int} (hc : CfRep H lx ax sx ls al ss)
    (hlen : al.length = ls.length) (hps : ps.length = ls.length) (hl16 : ls.length ≤ 16) (hs32 : ss.length ≤ 32) (hok : ∀ a ∈ al, AccOk a) (hsess : ∀ s ∈ ss, 0 ≤ s ∧ s ≤ (ls.length : Int) - 1)
    (hchk : ∀ (H1 : Heap) (R1 : Value → Heap → Prop), LbSl H1 lx ls → (∀ H', Keep no H1 H' → R1 (.int .i64 0) H') → Runs Tryz.prog 161 [lx] H1 R1 X) {life : Int} (hlife : 1 ≤ life ∧ life ≤ 4611686018427387904) (hia : i < al.length) (hil : i < ls.length)
    (hR : ∀ C H', Keep no H H' → H.size ≤ C → NewCell H H' C D P ps armed i ls al ss al[i] ls[i] life → R (.tuple #[ptO C, .int .i64 0]) H') :
    Runs Tryz.prog 64 [cfV lx ax sx, .int .i64 i, .int .i64 life, ptO D] H R X := by
  refine l64 ?_
  unfold i64 ptO
  have hcc : (cfV lx ax sx).cells = #[lx, ax, sx] := rfl
  simp only [Nw_iff, hcc]
  generalize hH1 : H.push (.cells #[lx, ax, sx] 26 (0, 0)) = H1
  have hb1 : H1[H.size]? = some (.cells #[lx, ax, sx] 26 (0, 0)) := by rw [← hH1]; exact get_push_eq
  have k1 : Keep no H H1 := by rw [← hH1]; exact .push
  have s1 : H1.size = H.size + 1 := by rw [← hH1]; simp
  have rr : ∀ {H'}, H'[H.size]? = some (.cells #[lx, ax, sx] 26 (0, 0)) → rdc H' H.size 0 = some lx ∧ rdc H' H.size 1 = some ax ∧ rdc H' H.size 2 = some sx ∧ rda 3 (.pointer (some ⟨H.size, 0, none⟩)) H' = some (cfV lx ax sx) := fun this => by
    refine ⟨by rw [rdc_of this]; rfl, by rw [rdc_of this]; rfl, by rw [rdc_of this]; rfl, ?_⟩
    rw [rda_ptr, rdn_at this 3 0 (by simp)]; rfl
  obtain ⟨_, _, _, rd⟩ := rr hb1
  refine Jo0 ?_
  simp only [ptrEq_nil_r, Option.isNone_some, Option.map_some, Gt_some, If_false, rd]
  refine ⟨c100 (hc.keep k1 fun _ _ h => h) hlen hl16 hs32 hok hsess hchk fun H2 k2 => ?_⟩
  have hb2 := k2.at hb1 fun h => h
  obtain ⟨r0, _, _, _⟩ := rr hb2
  have e1 : decide ((i : Int) < 0) = false := by simp
  have e2 : decide ((i : Int) ≥ (ls.length : Nat)) = false := by simp; omega
  have e3 : decide (life < 1) = false := by simp; omega
  have e4 : decide (life > 4611686018427387904) = false := by simp; omega
  have k02 := k1.trans k2
  have hll := labLen hc.l
  simp only [unV_not, Bool.not_true, Gt_some, If_false, binI_lss, e1, faV_ptr, Nat.zero_add, rdv_ptr, r0, Option.bind_some, hll, binI_geq, e2, ifO_false, e3, binI_gtr, e4]
  refine ⟨c101 (h.keep k02 (fun h => h) fun h => h) ?_⟩
  have e5 : ((ps.length : Int) != (ls.length : Nat)) = false := by rw [hps]; simp
  simp only [rdv_ptr, r0, Sm_some, binI_neq, e5, Gt_some, If_false, (rr hb2).2.2.2, faV_ptr, Nat.zero_add]
  -- the copy
  obtain ⟨p0, p1, p2⟩ := labAt (SlC.keep hc.l k02 fun _ _ h => h) hil
  simp only [p1, p2, Gt_some]
  refine ⟨c102 (hc.keep k02 fun _ _ h => h) (by omega) fun ly ay sy H3 k3 f3 cf3 => ?_⟩
  have k03 := k02.trans k3
  have hb3 := k3.at hb2 fun h => h
  obtain ⟨q0, q1, q2⟩ := labAt (SlC.keep hc.l k03 fun _ _ h => h) hil
  rw [p1] at q1; cases q1
  simp only [rdv_ptr, q2, (rr hb3).1, Sm_some]
  refine ⟨c103 (SlC.keep hc.l k03 fun _ _ h => h) (by omega) fun dv H4 k4 f4 o4 => ?_⟩
  have o4 : OI H4 dv (downL ls[i] ls 0) := o4
  have k04 := k03.trans k4
  have hb4 := k4.at hb3 fun h => h
  have cf4 := cf3.keep k4 fun _ _ h => h
  obtain ⟨a1, b1, el⟩ := cf4.lsc.sl
  obtain ⟨a2, b2, ea⟩ := cf4.asc.sl
  obtain ⟨a3, b3, es⟩ := cf4.ssc.sl
  obtain ⟨a4, b4, ed⟩ := o4.sl.sl
  have eb : bdV z116 [(0, 3), (3, 1), (4, 1), (5, 1), (6, 1), (7, 1), (8, 1), (9, 1)] [(0, cfV ly ay sy), (1, .int .i64 i), (2, dv)] = some (.agg (clC ly ay sy dv i (.pointer none) (.pointer none) (.pointer none) (.pointer none) (.pointer none))) := by
    rw [el, ea, es, ed]; rfl
  have hcl : (Value.agg (clC ly ay sy dv i (.pointer none) (.pointer none) (.pointer none) (.pointer none) (.pointer none))).cells = clC ly ay sy dv i (.pointer none) (.pointer none) (.pointer none) (.pointer none) (.pointer none) := rfl
  simp only [eb, Gt_some, Nw_iff, hcl]
  generalize hH5 : H4.push (.cells (clC ly ay sy dv i (.pointer none) (.pointer none) (.pointer none) (.pointer none) (.pointer none)) 116 (0, 0)) = H5
  have hC5 : H5[H4.size]? = some (clO ly ay sy dv i (.pointer none) (.pointer none) (.pointer none) (.pointer none) (.pointer none)) := by rw [← hH5]; exact get_push_eq
  have k5 : Keep no H4 H5 := by rw [← hH5]; exact .push
  have k05 := k04.trans k5
  have hb5 := k5.at hb4 fun h => h
  have s5 : H5.size = H4.size + 1 := by rw [← hH5]; simp
  obtain ⟨u0, u1, u2⟩ := accAt ((hc.keep k05 fun _ _ h => h).a) hia
  have hca : (accV al[i]).cells = #[iv al[i].quota, iv al[i].op, iv al[i].queue, iv al[i].win, iv al[i].start] := rfl
  have e6 : stV 5 (.pointer (some ⟨H5.size, 0, none⟩)) (accV al[i]) (H5.push (.cells z104.cells 104 (0, 0))) = some ((H5.push (.cells z104.cells 104 (0, 0))).setIfInBounds H5.size (.cells #[iv al[i].quota, iv al[i].op, iv al[i].queue, iv al[i].win, iv al[i].start] 104 (0, 0))) := by
    rw [stV_of get_push_eq (by rfl) (by decide) (by decide) (by rfl)]; rfl
  simp only [rdv_ptr, (rr hb5).2.1, Gt_some, u1, u2, e6]
  generalize hH6 : (H5.push (.cells z104.cells 104 (0, 0))).setIfInBounds H5.size (.cells #[iv al[i].quota, iv al[i].op, iv al[i].queue, iv al[i].win, iv al[i].start] 104 (0, 0)) = H6
  have hb6 : H6[H5.size]? = some (.cells #[iv al[i].quota, iv al[i].op, iv al[i].queue, iv al[i].win, iv al[i].start] 104 (0, 0)) := by rw [← hH6]; exact get_set_eq (by simp)
  have k6 : Keep no H5 H6 := by
    rw [← hH6]
    exact ⟨by simp, fun b hb _ => (get_set_ne (by omega)).trans (get_push_lt hb)⟩
  have s6 : H6.size = H5.size + 1 := by rw [← hH6]; simp
  have k06 := k05.trans k6
  have hC6 := k6.at hC5 fun h => h
  have z4 := k04.size
  refine ⟨c104 (h.keep k06 (fun h => h) fun h => h) hi (ha.keep k06 fun _ _ h => h) ⟨Int.le_refl _, by simp⟩ (by simp) ?_⟩
  have y0 : ∀ a b : Value, exV 0 (.tuple #[a, b]) = some a := fun _ _ => rfl
  have y1 : ∀ a b : Value, exV 1 (.tuple #[a, b]) = some b := fun _ _ => rfl
  have x0 : ∀ a b c : Value, exV 0 (.tuple #[a, b, c]) = some a := fun _ _ _ => rfl
  have x1 : ∀ a b c : Value, exV 1 (.tuple #[a, b, c]) = some b := fun _ _ _ => rfl
  have x2 : ∀ a b c : Value, exV 2 (.tuple #[a, b, c]) = some c := fun _ _ _ => rfl
  generalize hH7 : H6.push (lgO D i) = H7
  have hL7 : H7[H6.size]? = some (lgO D i) := by rw [← hH7]; exact get_push_eq
  have k7 : Keep no H6 H7 := by rw [← hH7]; exact .push
  have s7 : H7.size = H6.size + 1 := by rw [← hH7]; simp
  have hC7 := k7.at hC6 fun h => h
  have hb7 := k7.at hb6 fun h => h
  have g1 := stV1 (o := 8) (v := ptO H6.size) hC7 (by simp [clC]) rfl rfl
  unfold ptO at g1
  simp only [y0, y1, Gt_some, ncV_ptr, faV_ptr, Nat.zero_add, g1]
  generalize hH8 : H7.setIfInBounds H4.size _ = H8
  have k8 : Keep (fun b => b = H4.size) H7 H8 := by rw [← hH8]; exact .set rfl
  have s8 : H8.size = H7.size := by rw [← hH8]; simp
  have hC8 : H8[H4.size]? = some (clO ly ay sy dv i (.pointer none) (.pointer none) (.pointer none) (ptO H6.size) (.pointer none)) := by rw [← hH8, get_set_eq (lt_of_get hC7)]; rfl
  have hL8 := k8.at hL7 (by omega)
  have hb8 := k8.at hb7 (by omega)
  have k08 : Keep no H H8 := (k06.trans k7).trans' k8 fun b e => .inr (by omega)
  have w1 : rdc H8 H4.size 8 = some (ptO H6.size) := by rw [rdc_of hC8]; rfl
  have w2 : rdc H8 H5.size 4 = some (.int .i64 al[i].start) := by rw [rdc_of hb8]; rfl
  unfold ptO at w1
  have hai := hok _ (List.getElem_mem hia)
  simp only [rdv_ptr, w1, w2, Gt_some]
  refine ⟨c105e hL8 (h.keep k08 (fun h => h) fun h => h) hi (ha.keep k08 fun _ _ h => h) hai.s fun S M H9 k9 f9 so9 => ?_⟩
  have hC9 := k9.at hC8 fun h => h
  have hb9 := k9.at hb8 fun h => h
  have hL9 := k9.at hL8 fun h => h
  have s9 := k9.size
  have g2 := stV1 (o := 5) (v := ptO S) hC9 (by simp [clC]) rfl rfl
  unfold ptO at g2
  unfold ptO
  simp only [x0, x1, x2, Gt_some, binI_neq, bne0, If_false, ncV_ptr, faV_ptr, Nat.zero_add, g2]
  generalize hH10 : H9.setIfInBounds H4.size _ = H10
  have k10 : Keep (fun b => b = H4.size) H9 H10 := by rw [← hH10]; exact .set rfl
  have s10 : H10.size = H9.size := by rw [← hH10]; simp
  have hC10 : H10[H4.size]? = some (clO ly ay sy dv i (ptO S) (.pointer none) (.pointer none) (ptO H6.size) (.pointer none)) := by rw [← hH10, get_set_eq (lt_of_get hC9)]; rfl
  have hb10 := k10.at hb9 (by omega)
  have hL10 := k10.at hL9 (by omega)
  have so10 := so9.keep k10 fun b hb e => by have := f9 b hb; omega
  have w3 : rdc H10 H5.size 4 = some (.int .i64 al[i].start) := by rw [rdc_of hb10]; rfl
  have w4 : rdc H10 H5.size 3 = some (.int .i64 al[i].win) := by rw [rdc_of hb10]; rfl
  simp only [rdv_ptr, w3, w4, Gt_some]
  refine ⟨c106 ⟨hai.s.1, hai.s.2, hai.w.1, hai.w.2⟩ ?_⟩
  generalize hH11 : H10.push (ckO al[i].start al[i].win) = H11
  have hK11 : H11[H10.size]? = some (ckO al[i].start al[i].win) := by rw [← hH11]; exact get_push_eq
  have k11 : Keep no H10 H11 := by rw [← hH11]; exact .push
  have s11 : H11.size = H10.size + 1 := by rw [← hH11]; simp
  have hC11 := k11.at hC10 fun h => h
  have hb11 := k11.at hb10 fun h => h
  have g3 := stV1 (o := 6) (v := ptO H10.size) hC11 (by simp [clC]) rfl rfl
  unfold ptO at g3
  simp only [y0, y1, Gt_some, ncV_ptr, faV_ptr, Nat.zero_add, g3]
  generalize hH12 : H11.setIfInBounds H4.size _ = H12
  have k12 : Keep (fun b => b = H4.size) H11 H12 := by rw [← hH12]; exact .set rfl
  have s12 : H12.size = H11.size := by rw [← hH12]; simp
  have hC12 : H12[H4.size]? = some (clO ly ay sy dv i (ptO S) (ptO H10.size) (.pointer none) (ptO H6.size) (.pointer none)) := by rw [← hH12, get_set_eq (lt_of_get hC11)]; rfl
  have hb12 := k12.at hb11 (by omega)
  have hK12 := k12.at hK11 (by omega)
  have hL12 := k12.at (k11.at hL10 fun h => h) (by omega)
  have so12 := (so10.keep k11 fun _ _ h => h).keep k12 fun b hb e => by have := f9 b hb; omega
  have rd12 : rda 5 (.pointer (some ⟨H5.size, 0, none⟩)) H12 = some (accV al[i]) := by
    rw [rda_ptr, rdn_at hb12 5 0 (by simp)]; rfl
  simp only [rd12, Gt_some]
  refine ⟨c107 ⟨hai.q.1, hai.q.2, hai.o.1, hai.o.2⟩ fun H13 k13 => ?_⟩
  generalize hH14 : H13.push (acO al[i].quota al[i].op 0 0 0) = H14
  have hA14 : H14[H13.size]? = some (acO al[i].quota al[i].op 0 0 0) := by rw [← hH14]; exact get_push_eq
  have k14 : Keep no H13 H14 := by rw [← hH14]; exact .push
  have s14 : H14.size = H13.size + 1 := by rw [← hH14]; simp
  have s13 := k13.size
  have k1214 := k13.trans k14
  have hC14 := k1214.at hC12 fun h => h
  have g4 := stV1 (o := 7) (v := ptO H13.size) hC14 (by simp [clC]) rfl rfl
  unfold ptO at g4
  simp only [y0, y1, Gt_some, ncV_ptr, faV_ptr, Nat.zero_add, g4]
  generalize hH15 : H14.setIfInBounds H4.size _ = H15
  have k15 : Keep (fun b => b = H4.size) H14 H15 := by rw [← hH15]; exact .set rfl
  have s15 : H15.size = H14.size := by rw [← hH15]; simp
  have hC15 : H15[H4.size]? = some (clO ly ay sy dv i (ptO S) (ptO H10.size) (ptO H13.size) (ptO H6.size) (.pointer none)) := by rw [← hH15, get_set_eq (lt_of_get hC14)]; rfl
  have hA15 := k15.at hA14 (by omega)
  have hK15 := k15.at (k1214.at hK12 fun h => h) (by omega)
  have hL15 := k15.at (k1214.at hL12 fun h => h) (by omega)
  have so15 := (so12.keep k1214 fun _ _ h => h).keep k15 fun b hb e => by have := f9 b hb; omega
  have hz : H.size ≠ H4.size := Nat.ne_of_lt (lt_of_get hb4)
  have hb15 := k15.at (k1214.at (k12.at (k11.at (k10.at (k9.at (k8.at (k7.at (k6.at hb5 fun h => h) fun h => h) hz) fun h => h) hz) fun h => h) hz) fun h => h) hz
  have hss := hc.s.len
  simp only [rdv_ptr, (rr hb15).2.2.1, Gt_some, hss]
  refine ⟨c108 hs32 hlife fun T G1 G2 ms H16 k16 f16 hms hml tb16 => ?_⟩
  have s16 := k16.size
  have hC16 := k16.at hC15 fun h => h
  have g5 := stV1 (o := 9) (v := ptO T) hC16 (by simp [clC]) rfl rfl
  unfold ptO at g5
  unfold ptO
  simp only [y0, y1, Gt_some, ncV_ptr, faV_ptr, Nat.zero_add, g5]
  generalize hH17 : H16.setIfInBounds H4.size _ = H17
  have k17 : Keep (fun b => b = H4.size) H16 H17 := by rw [← hH17]; exact .set rfl
  have s17 : H17.size = H16.size := by rw [← hH17]; simp
  have hC17 : H17[H4.size]? = some (clO ly ay sy dv i (ptO S) (ptO H10.size) (ptO H13.size) (ptO H6.size) (ptO T)) := by rw [← hH17, get_set_eq (lt_of_get hC16)]; rfl
  have hA17 := k17.at (k16.at hA15 fun h => h) (by omega)
  have hK17 := k17.at (k16.at hK15 fun h => h) (by omega)
  have hL17 := k17.at (k16.at hL15 fun h => h) (by omega)
  have so17 := (so15.keep k16 fun _ _ h => h).keep k17 fun b hb e => by have := f9 b hb; omega
  have tb17 := tb16.keep k17 fun b hb e => by have := f16 b hb; omega
  have v1 : rdc H17 H4.size 6 = some (ptO H10.size) := by rw [rdc_of hC17]; rfl
  unfold ptO at v1
  simp only [rdv_ptr, v1, Gt_some]
  refine ⟨c109 hK17 hai.s ?_⟩
  generalize hH18 : H17.setIfInBounds H10.size (ckO al[i].start al[i].win) = H18
  have k18 : Keep (fun b => b = H10.size) H17 H18 := by rw [← hH18]; exact .set rfl
  have s18 : H18.size = H17.size := by rw [← hH18]; simp
  have hK18 : H18[H10.size]? = some (ckO al[i].start al[i].win) := by rw [← hH18]; exact get_set_eq (lt_of_get hK17)
  have hC18 := k18.at hC17 (by omega)
  have hA18 := k18.at hA17 (by omega)
  have hL18 := k18.at hL17 (by omega)
  have soK : ∀ b, stF S M [] b → b ≠ H10.size := fun b hb e => by
    have := so10.st.lt b hb; omega
  have so18 := so17.keep k18 soK
  have tb18 := tb17.keep k18 fun b hb e => by have := f16 b hb; omega
  have v2 : rdc H18 H4.size 7 = some (ptO H13.size) := by rw [rdc_of hC18]; rfl
  unfold ptO at v2
  simp only [binI_neq, bne0, Gt_some, If_false, ncV_ptr, faV_ptr, Nat.zero_add, rdv_ptr, v2]
  refine ⟨c111 so18.st.blk ?_⟩
  simp only [rdv_ptr, v2, Sm_some]
  have elv : liveS (([] : List Chn).map Chn.m) = 0 := rfl
  rw [elv]
  refine ⟨c110 hA18 ⟨Int.le_refl _, by decide⟩ ⟨Int.le_refl _, by decide⟩ (fun _ => ?_) (fun hbad => by have := hai.q.1; omega)⟩
  generalize hH19 : H18.setIfInBounds H13.size (acO al[i].quota al[i].op 0 0 0) = H19
  have k19 : Keep (fun b => b = H13.size) H18 H19 := by rw [← hH19]; exact .set rfl
  have hA19 : H19[H13.size]? = some (acO al[i].quota al[i].op 0 0 0) := by rw [← hH19]; exact get_set_eq (lt_of_get hA18)
  simp only [binI_neq, bne0, Gt_some, If_false]
  have z1 : ∀ b, H.size ≤ b → b < H4.size → b ≠ H4.size ∧ b ≠ H10.size ∧ b ≠ H13.size := fun b _ hb => by omega
  -- what was there stays
  have kB : Keep no H4 H19 := by
    have q8 : Keep no H4 H8 := (k5.trans (k6.trans k7)).trans' k8 fun b e => .inr (by omega)
    have q10 : Keep no H4 H10 := (q8.trans k9).trans' k10 fun b e => .inr (by omega)
    have q12 : Keep no H4 H12 := (q10.trans k11).trans' k12 fun b e => .inr (by omega)
    have q15 : Keep no H4 H15 := (q12.trans k1214).trans' k15 fun b e => .inr (by omega)
    have q17 : Keep no H4 H17 := (q15.trans k16).trans' k17 fun b e => .inr (by omega)
    exact (q17.trans' k18 fun b e => .inr (by omega)).trans' k19 fun b e => .inr (by omega)
  refine hR H4.size H19 (k04.trans kB) z4 ⟨ly, ay, sy, dv, S, M, H10.size, H13.size, H6.size, T, G1, G2, ms, k19.at hC18 (by omega), cf4.keep kB fun _ _ h => h, o4.keep kB fun _ _ h => h, so18.keep k19 (fun b hb e => ?_), k19.at hK18 (by omega), hA19, k19.at hL18 (by omega), tb18.keep k19 (fun b hb e => ?_), hml, hms, z4, fun b hb => ?_, by omega, fun b hb => ?_, by omega, fun b hb => ?_⟩
  · have := so10.st.lt b hb; omega
  · have := f16 b hb; omega
  · have z2 := k02.size
    have z3 := k03.size
    rcases hb with hb | hb
    · have := f3 b hb; have := k4.size; omega
    · have := f4 b hb; have := o4.lt hb; omega
  · have := f9 b hb
    have := so10.st.lt b hb; omega
  · have := f16 b hb
    have s19 := k19.size
    have := tb16.lt b hb; omega
end Go.Proofs.YtdoimhpmnmmffaaGreat

/- Contracts of the package cell: small functions; what may be asked. No condition but those in each statement. -/
namespace Go.Proofs.YtdoimhpmnmmffaaGreat
open Go IntWalk
variable {H : Heap} {R : Value → Heap → Prop} {X : List PanicEntry → Heap → Prop}

/-- a structure is laid into a block of its own -/
theorem agg_put {b t n : Nat} {cs es : Array Value} (hb : H[b]? = some (.cells cs t (0, 0))) (hcs : cs.size = n) (he : es.size = n) (hn : 0 < n) (hone : es.toList.all Value.oneCell' = true) :
    ∃ H', stV n (.pointer (some ⟨b, 0, none⟩)) (.agg es) H = some H' ∧ rda n (.pointer (some ⟨b, 0, none⟩)) H' = some (.agg es) ∧ Keep (fun c => c = b) H H' ∧ H'[b]? = some (.cells es t (0, 0)) ∧ H'.size = H.size := by
  have hg := get_set_eq (o := .cells es t (0, 0)) (lt_of_get hb)
  refine ⟨H.setIfInBounds b (.cells es t (0, 0)), ?_, ?_, .set rfl, hg, by simp⟩
  · rw [stV_of (v := .agg es) hb (by show es.size = n; exact he) hn (by omega) hone]
    congr 3
    have : cs.toList.drop es.toList.length = [] := List.drop_of_length_le (by simp [hcs, he])
    show (putL cs.toList 0 es.toList).toArray = es
    simp only [putL, List.take_zero, List.nil_append, Nat.zero_add, this, List.append_nil]
  · rw [rda_ptr, rdn_at hg n 0 (by omega)]
    simp only [List.drop_zero, Option.map_some]
    rw [List.take_of_length_le (by simp; omega)]
theorem agg_new {t n : Nat} {z : Value} {es : Array Value} (hz : z.cells.size = n) (he : es.size = n) (hn : 0 < n) (hone : es.toList.all Value.oneCell' = true) :
    ∃ H', stV n (.pointer (some ⟨H.size, 0, none⟩)) (.agg es) (H.push (.cells z.cells t (0, 0))) = some H' ∧ rda n (.pointer (some ⟨H.size, 0, none⟩)) H' = some (.agg es) ∧ Keep no H H' ∧ H'[H.size]? = some (.cells es t (0, 0)) ∧ H'.size = H.size + 1 := by
  obtain ⟨H', p1, p2, p3, p4, p5⟩ := agg_put (H := H.push (.cells z.cells t (0, 0))) get_push_eq hz he hn hone
  exact ⟨H', p1, p2, (Keep.push (M := no)).trans' p3 fun b e => .inr (Nat.le_of_eq e.symm), p4, by simpa using p5⟩

/-- an answer -/
def rsA (ses code l n : Int) (found : Bool) (v prs : Value) (more : Bool) (stamp : Int) : Array Value := #[iv 0, iv ses, iv code, iv l, iv n, .bool found, v, prs, .bool more, iv stamp]
def rs0 (code : Int) : Value := .agg (rsA 0 code 0 0 false (.slice none 0 0) (.slice none 0 0) false 0)
theorem rsA_one {ses code l n : Int} {found more : Bool} {v prs : Value} {stamp : Int} (hv : v.oneCell' = true) (hp : prs.oneCell' = true) : (rsA ses code l n found v prs more stamp).toList.all Value.oneCell' = true := by
  simp only [rsA, List.all_cons, List.all_nil, hv, hp]; rfl
theorem c82 {e : Int} (hR : ∀ H', Keep no H H' → R (rs0 e) H') : Runs Tryz.prog 82 [.int .i64 e] H R X := by
  refine l82 ?_
  unfold i82
  have eb : bdV z67 [(0, 1), (1, 1), (2, 1), (3, 2), (5, 1), (6, 1), (7, 1), (8, 1), (9, 1)] [(2, .int .i64 e)] = some (rs0 e) := rfl
  obtain ⟨H', p1, p2, p3, _⟩ := agg_new (H := H) (t := 67) (n := 10) (z := z67) (es := rsA 0 e 0 0 false (.slice none 0 0) (.slice none 0 0) false 0) rfl rfl (by decide) (by rfl)
  unfold rs0 at eb hR
  simp only [Nw_iff, eb, Gt_some, p1, p2]
  exact hR H' p3
theorem c84 (hR : ∀ b H', Keep no H H' → H.size ≤ b → H'[b]? = some (.cells #[.nilFunc, .nilFunc, .func (.func 133) #[] #[], .func (.func 134) #[] #[], .func (.func 135) #[] #[], .func (.func 136) #[] #[], .func (.func 137) #[] #[], .func (.func 138) #[] #[]] 174 (0, 0)) → R (.slice (some ⟨b, 0, none⟩) 8 8) H') : Runs Tryz.prog 84 [] H R X := by
  refine l84 ?_
  unfold i84
  have eb : bsV 1 8 z174 [(2, .func (.func 133) #[] #[]), (3, .func (.func 134) #[] #[]), (4, .func (.func 135) #[] #[]), (5, .func (.func 136) #[] #[]), (6, .func (.func 137) #[] #[]), (7, .func (.func 138) #[] #[])] = some [.nilFunc, .nilFunc, .func (.func 133) #[] #[], .func (.func 134) #[] #[], .func (.func 135) #[] #[], .func (.func 136) #[] #[], .func (.func 137) #[] #[], .func (.func 138) #[] #[]] := by kernel_rfl
  simp only [eb, Gt_some, Nw_iff]
  exact hR H.size _ .push (Nat.le_refl _) get_push_eq
theorem c182 {C p : Nat} {lx ax sx dv S K A L T : Value} {ls : List Nat} (hC : H[C]? = some (clO lx ax sx dv p S K A L T)) (hl : LbSl H lx ls) {q : Int} (hR : R (.bool (decide (q ≥ 0) && decide (q < (ls.length : Nat)))) H) : Runs Tryz.prog 182 [ptO C, .int .i64 q] H R X := by
  refine l182 ?_
  unfold i182 ptO
  have r0 : rdc H C 0 = some lx := by rw [rdc_of hC]; rfl
  simp only [binI_geq, Gt_some, ncV_ptr, Option.bind_some, faV_ptr, Nat.zero_add, rdv_ptr, r0, labLen hl, binI_lss, ifO_and]
  exact hR
theorem ptrEq_same {b : Nat} {H : Heap} : ptrEq 10 (.pointer (some ⟨b, 0, none⟩)) (.pointer (some ⟨b, 0, none⟩)) H = some true := by
  simp [ptrEq]
theorem c46 {C p : Nat} {lx ax sx dv S K A L T cl : Value} {ls : List Nat} {ss ds : List Int} {cps : List (Option Nat)} (hC : H[C]? = some (clO lx ax sx dv p S K A L T)) (hl : LbSl H lx ls) (hs : IvSl H sx ss) (hd : IvSl H dv ds) (hcl : PtSl H cl cps)
    {s : Nat} (hsl : s < ss.length) (hsp : ss[s] = p) (hn : cps.length = ls.length) (hp : p < cps.length) (hpc : cps[p] = some C) (hds : ∀ d ∈ ds, 0 ≤ d ∧ ∃ b, cps[d.toNat]? = some (some b)) (hdl : ds.length ≤ 1048576) (hR : R (.bool true) H) : Runs Tryz.prog 46 [ptO C, .int .i64 s, cl] H R X := by
  refine l46 ?_
  unfold i46 ptO
  have r0 : rdc H C 0 = some lx := by rw [rdc_of hC]; rfl
  have r2 : rdc H C 2 = some sx := by rw [rdc_of hC]; rfl
  have r3 : rdc H C 3 = some (.int .i64 p) := by rw [rdc_of hC]; rfl
  have r4 : rdc H C 4 = some dv := by rw [rdc_of hC]; rfl
  have e1 : decide ((s : Int) < 0) = false := by simp
  have e2 : decide ((s : Int) ≥ (ss.length : Nat)) = false := by simp; omega
  obtain ⟨q, q1, q2⟩ := hs.at hsl
  have e3 : ((p : Int) != (p : Int)) = false := by simp
  have e4 : ((cps.length : Int) != (ls.length : Nat)) = false := by rw [hn]; simp
  obtain ⟨u, u1, u2⟩ := hcl.at hp
  rw [hpc] at u2
  rw [hsp] at q2
  simp only [iv] at q2
  refine Jo1 ?_
  simp only [binI_lss, e1, Gt_some, If_false, ncV_ptr, faV_ptr, Nat.zero_add, rdv_ptr, r2, hs.len, binI_geq, e2, q1, q2, r3, binI_neq, e3, hcl.len, r0, labLen hl, e4, Option.bind_some, u1, u2, ptV, ptrEq_same, Option.map_some, Bool.not_true, ifO_false, r4, hd.len]
  refine ⟨fun (y : Value) (H1 : Heap) => ∃ k : Nat, k ≤ ds.length ∧ y = .int .i64 k ∧ H1 = H, fun (y : Value) (_ : Heap) => decr ds.length y, ⟨0, by omega, rfl, rfl⟩, ?_⟩
  rintro H1 _ ⟨k, hk, rfl, rfl⟩
  simp only [binI_lss, Gt_some]
  refine If_iff.2 ⟨fun hlt => ?_, fun _ => hR⟩
  have hlt : k < ds.length := by simpa using hlt
  obtain ⟨w, w1, w2⟩ := hd.at hlt
  obtain ⟨hd0, b, hb⟩ := hds _ (List.getElem_mem hlt)
  obtain ⟨d, hdn⟩ : ∃ d : Nat, ds[k] = d := ⟨ds[k].toNat, by omega⟩
  rw [hdn] at w2 hb
  simp only [Int.toNat_natCast] at hb
  have hdl' : d < cps.length := (List.getElem?_eq_some_iff.1 hb).1
  have hbe : cps[d] = some b := by rw [List.getElem?_eq_getElem hdl'] at hb; exact Option.some.inj hb
  obtain ⟨v, v1, v2⟩ := hcl.at hdl'
  rw [hbe] at v2
  have e6 : IntKind.i64.wrap ((k : Int) + 1) = ((k + 1 : Nat) : Int) := by rw [i64_in _ (by omega)]; rfl
  simp only [iv] at w2
  simp only [w1, w2, Gt_some, v1, v2, ptV, ptrEq_nil_r, Option.isNone_some, Option.map_some, If_false, binI_add, e6]
  exact ⟨⟨k + 1, by omega, rfl, trivial⟩, decr_lt hlt⟩
end Go.Proofs.YtdoimhpmnmmffaaGreat

/- Contracts of the package cell: a transaction begins. No condition but those in each statement. -/
namespace Go.Proofs.YtdoimhpmnmmffaaGreat
open Go IntWalk
variable {H : Heap} {R : Value → Heap → Prop} {X : List PanicEntry → Heap → Prop}

structure Rq where
  kind : Int
  life : Int
  num : Int
  place : Int
  key : ByteArray
  to : ByteArray
  v : Value
  limit : Int
def rqA (q : Rq) : Array Value := #[iv q.kind, iv q.life, iv q.num, iv q.place, .string q.key, .string q.to, q.v, iv q.limit]
def clA (ses : Int) (q : Rq) (t cl : Value) : Array Value := #[iv ses, iv q.kind, iv q.life, iv q.num, iv q.place, .string q.key, .string q.to, q.v, iv q.limit, t, cl]
theorem pt_set {b n c : Nat} {t : Nat} {vs : List (Option Nat)} (h : H[b]? = some (.cells (vs.map ptV).toArray t (0, 0))) (hn : n = vs.length) {i : Nat} (hi : i < vs.length) {x : Option Nat} :
    ∃ p, iaV 1 (.slice (some ⟨b, 0, none⟩) n c) (.int .i64 i) = some p ∧ stV 1 p (ptV x) H = some (H.setIfInBounds b (.cells ((vs.set i x).map ptV).toArray t (0, 0))) := by
  subst hn
  refine ⟨.pointer (some ⟨b, 0 + i * 1, none⟩), ?_, ?_⟩
  · simp only [iaV]; rw [if_pos (by omega)]; simp
  · rw [stV1 h (by simpa using hi) (by cases x <;> rfl) (by cases x <;> rfl)]
    congr 3
    apply Array.ext'
    simp [List.map_set]
theorem Own.ptsl {t n : Nat} {v : Value} {ps : List (Option Nat)} (h : Own t 1 H v n (ps.map ptV)) : PtSl H v ps := by
  have hl : n = ps.length := by have := h.len; simp at this; omega
  subst hl
  refine Own.slc (z := t) (size := 1) ?_ fun c hc => ?_
  · rw [flat1 ptV ps]; simpa using h
  · obtain ⟨d, _, rfl⟩ := List.mem_map.1 hc; rfl
/-- the clocks at some places -/
def clkL (kc : Nat → Nat) (cps : List (Option Nat)) : List (Option Nat) → List Int → List (Option Nat)
  | ps, [] => ps
  | ps, d :: ds => clkL kc cps (match cps[d.toNat]? with
    | some (some b) => ps.set d.toNat (some (kc b))
    | _ => ps) ds
theorem clkL_len {kc : Nat → Nat} {cps : List (Option Nat)} : ∀ {ds : List Int} {ps : List (Option Nat)}, (clkL kc cps ps ds).length = ps.length
  | [], _ => rfl
  | d :: ds, ps => by
    rw [clkL, clkL_len]
    split <;> simp
theorem clkL_mem {kc : Nat → Nat} {cps : List (Option Nat)} {b : Nat} : ∀ {ds : List Int} {ps : List (Option Nat)}, some b ∈ clkL kc cps ps ds → some b ∈ ps ∨ ∃ d ∈ ds, ∃ c, cps[d.toNat]? = some (some c) ∧ b = kc c
  | [], _, h => .inl h
  | d :: ds, ps, h => by
    rw [clkL] at h
    rcases clkL_mem h with h | ⟨d', hd, c, h1, h2⟩
    · split at h
      · rename_i c hc
        rcases List.mem_or_eq_of_mem_set h with h | h
        · exact .inl h
        · exact .inr ⟨d, List.mem_cons_self .., c, hc, Option.some.inj h⟩
      · exact .inl h
    · exact .inr ⟨d', List.mem_cons_of_mem _ hd, c, h1, h2⟩
def BgI (H : Heap) (b n : Nat) (kc : Nat → Nat) (cps : List (Option Nat)) (ds : List Int) (y : Value) (H1 : Heap) : Prop :=
  ∃ (k : Nat) (vs : List (Option Nat)), k ≤ ds.length ∧ y = .int .i64 k ∧ vs.length = n ∧ clkL kc cps vs (ds.drop k) = clkL kc cps (List.replicate n none) ds ∧ Keep (fun c => c = b) H H1 ∧ H1[b]? = some (.cells (vs.map ptV).toArray 111 (0, 0))
/-- the vector of a new transaction -/
def snapV (kc : Nat → Nat) (now : Nat → Int) (cps : List (Option Nat)) (ds : List Int) : List Int := takeL (clkL kc cps (List.replicate cps.length none) ds) now (List.replicate cps.length (-1)) ds
theorem snapV_len {kc : Nat → Nat} {now : Nat → Int} {cps : List (Option Nat)} {ds : List Int} : (snapV kc now cps ds).length = cps.length := by
  rw [snapV, takeL_len, List.length_replicate]
def rsBegin (l n : Int) : Value := .agg (rsA 0 0 l n false (.slice none 0 0) (.slice none 0 0) false 0)

/-- what a Begin leaves behind -/
structure Begun (H0 H : Heap) (A : Nat) (q0 q1 q2 q3 op : Int) (p : Nat) (snap : List Int) (T G1 G2 : Nat) (life : Int) (ms : List MI) (gs : List Int) (j : Nat) (g : Int) : Prop where
  keep : Keep (fun b => b = A ∨ tbF T G1 G2 ms b) H0 H
  acc : H[A]? = some (acO q0 q1 q2 q3 (op + 1))
  tx : ∃ B sv W M, (∀ b, txF B sv W M [] b → H0.size ≤ b) ∧ TxRep H B p sv snap W M [] false ∧ TbRep H T life G1 G2 (ms.set j ((ms[j]?.getD default).1, (ms[j]?.getD default).2 ++ [(g + 1, ptO B)])) (gs.set j (g + 1))
theorem c81 {C p j A T G1 G2 : Nat} {lx ax sx dv S K L cl t : Value} {ds : List Int} {cps : List (Option Nat)} {q : Rq} {kc : Nat → Nat} {now : Nat → Int} {q0 q1 q2 q3 op life g : Int} {ms : List MI} {gs : List Int}
    (hC : H[C]? = some (clO lx ax sx dv p S K (ptO A) L (ptO T))) (hA : H[A]? = some (acO q0 q1 q2 q3 op)) (hop : 0 ≤ op ∧ op ≤ 1000) (hd : IvSl H dv ds) (hcl : PtSl H cl cps) (hcn : cps.length ≤ 1048576) (hdn : ds.length ≤ 1048576)
    (hclk : ∀ d ∈ ds, 0 ≤ d ∧ ∃ c, cps[d.toNat]? = some (some c) ∧ (∃ lx ax sx dv p S A L T, H[c]? = some (clO lx ax sx dv p S (ptO (kc c)) A L T)) ∧ ∃ w, H[kc c]? = some (ckO (now (kc c)) w))
    (hp : p < cps.length) (h0 : ∀ hp' : p < (snapV kc now cps ds).length, 0 ≤ (snapV kc now cps ds)[p]) (htb : TbRep H T life G1 G2 ms gs) (hj : j < ms.length) (hg : gs[j]? = some g) (hn : ∀ z ∈ ms[j].2, z.1 ≤ g) (hgb : 0 ≤ g ∧ g < 4611686018427387904)
    (hdA : ¬ ob dv A) (hclA : ¬ ob cl A) (hv1 : q.v.oneCell' = true) (ht1 : t.oneCell' = true)
    (hE : q1 ≤ op → ∀ H', Keep no H H' → R (rs0 151) H')
    (hR : op < q1 → ∀ H', Begun H H' A q0 q1 q2 q3 op p (snapV kc now cps ds) T G1 G2 life ms gs j g → R (rsBegin life (g + 1)) H') :
    Runs Tryz.prog 81 [ptO C, .agg (clA j q t cl)] H R X := by
  refine l81 ?_
  unfold i81 ptO
  have hcc : (Value.agg (clA j q t cl)).cells = clA j q t cl := rfl
  simp only [Nw_iff, hcc]
  generalize hH1 : H.push (.cells (clA j q t cl) 121 (0, 0)) = H1
  have hb1 : H1[H.size]? = some (.cells (clA j q t cl) 121 (0, 0)) := by rw [← hH1]; exact get_push_eq
  have k1 : Keep no H H1 := by rw [← hH1]; exact .push
  have s1 : H1.size = H.size + 1 := by rw [← hH1]; simp
  generalize hH2 : H1.push (.cells z67.cells 67 (0, 0)) = H2
  have hb2 : H2[H1.size]? = some (.cells z67.cells 67 (0, 0)) := by rw [← hH2]; exact get_push_eq
  have k2 : Keep no H1 H2 := by rw [← hH2]; exact .push
  have s2 : H2.size = H1.size + 1 := by rw [← hH2]; simp
  have k02 := k1.trans k2
  have hAl := lt_of_get hA
  have hCl := lt_of_get hC
  have hC2 := k02.at hC fun h => h
  have r7 : rdc H2 C 7 = some (ptO A) := by rw [rdc_of hC2]; rfl
  unfold ptO at r7
  simp only [ncV_ptr, Gt_some, faV_ptr, Nat.zero_add, rdv_ptr, r7]
  -- the end: an answer is laid into the result's block
  have fin : ∀ (es : Array Value) (H' : Heap) (cs : Array Value), es.size = 10 → es.toList.all Value.oneCell' = true → H'[H1.size]? = some (.cells cs 67 (0, 0)) → cs.size = 10 → ∀ (K : Value → Heap → Prop), (∀ H'', Keep (fun b => b = H1.size) H' H'' → K (.agg es) H'') →
      Gt (stV 10 (.pointer (some ⟨H1.size, 0, none⟩)) (.agg es) H') fun H5 => Gt (rda 10 (.pointer (some ⟨H1.size, 0, none⟩)) H5) fun u1 => K u1 H5 := by
    intro es H' cs he hone hb hcs K hK
    obtain ⟨H'', p1, p2, p3, _⟩ := agg_put hb hcs he (by decide) hone
    simp only [p1, p2, Gt_some]
    exact hK H'' p3
  have hCA : C ≠ A := fun e => by
    have := hC; rw [e, hA] at this; simp [clO, acO] at this
  refine ⟨c128 (k02.at hA fun h => h) hop (fun hlt => ?_) (fun hge => ?_)⟩
  rotate_left
  · have e1 : ((151 : Int) != 0) = true := rfl
    simp only [binI_neq, e1, Gt_some, If_true]
    refine ⟨c82 fun H3 k3 => ?_⟩
    unfold rs0
    refine fin _ H3 _ rfl (by rfl) (k3.at hb2 fun h => h) rfl _ fun H4 k4 => hE hge H4 ((k02.trans k3).trans' k4 fun b e => .inr (by omega))
  simp only [binI_neq, bne0, Gt_some, If_false]
  generalize hH3 : H2.setIfInBounds A _ = H3
  have k3 : Keep (fun b => b = A) H2 H3 := by rw [← hH3]; exact .set rfl
  have s3 : H3.size = H2.size := by rw [← hH3]; simp
  have hA3 : H3[A]? = some (acO q0 q1 q2 q3 (op + 1)) := by rw [← hH3]; exact get_set_eq (lt_of_get (k02.at hA fun h => h))
  have hb13 := k3.at (k2.at hb1 fun h => h) (by omega)
  have hb23 := k3.at hb2 (by omega)
  have hC3 := k3.at hC2 hCA
  have k03 : Keep (fun b => b = A) H H3 := (k02.mono fun _ _ h => h.elim).trans k3
  have hcl3 := hcl.keep k03 fun b hb e => hclA (e ▸ hb)
  have hd3 := hd.keep k03 fun b hb e => hdA (e ▸ hb)
  have r10 : rdc H3 H.size 10 = some cl := by rw [rdc_of hb13]; rfl
  have em : mkV 8 (.int .i64 cps.length) (.int .i64 cps.length) = some (cps.length, cps.length) := by
    simp only [mkV]; rw [if_pos (by omega)]; simp
  have hmk : mkC 1 z111 cps.length = ((List.replicate cps.length (none : Option Nat)).map ptV).toArray := by
    apply Array.ext'; rw [mkC_rep rfl]; simp [z111, ptV]
  simp only [rdv_ptr, faV_ptr, Nat.zero_add, r10, Gt_some, hcl.len, em, Nw_iff, hmk]
  generalize hH4 : H3.push (.cells ((List.replicate cps.length (none : Option Nat)).map ptV).toArray 111 (0, 0)) = H4
  have hb4 : H4[H3.size]? = some (.cells ((List.replicate cps.length (none : Option Nat)).map ptV).toArray 111 (0, 0)) := by rw [← hH4]; exact get_push_eq
  have k4 : Keep no H3 H4 := by rw [← hH4]; exact .push
  have s4 : H4.size = H3.size + 1 := by rw [← hH4]; simp
  have hC4 := k4.at hC3 fun h => h
  have r4 : rdc H4 C 4 = some dv := by rw [rdc_of hC4]; rfl
  simp only [rdv_ptr, ncV_ptr, faV_ptr, Nat.zero_add, r4, Gt_some, hd.len]
  refine ⟨fun (y : Value) (H5 : Heap) => BgI H4 H3.size cps.length kc cps ds y H5, fun (y : Value) (_ : Heap) => decr ds.length y, ⟨0, List.replicate cps.length none, by omega, rfl, by simp, rfl, .refl _, hb4⟩, ?_⟩
  rintro H5 _ ⟨k, vs, hk, rfl, hvl, hvs, k5, hb5⟩
  have s5 := k5.size
  have k35 : Keep no H3 H5 := k4.trans' k5 fun b e => .inr (by omega)
  have k05 : Keep (fun b => b = A) H H5 := k03.trans (k35.mono fun _ _ h => h.elim)
  have hd5 := hd3.keep k35 fun _ _ h => h
  have hcl5 := hcl3.keep k35 fun _ _ h => h
  have hb15 := k35.at hb13 fun h => h
  have r10 : rdc H5 H.size 10 = some cl := by rw [rdc_of hb15]; rfl
  have hC5 := k35.at hC3 fun h => h
  have hA5 := k35.at hA3 fun h => h
  simp only [binI_lss, Gt_some]
  refine If_iff.2 ⟨fun hlt' => ?_, fun hge => ?_⟩
  · have hlt' : k < ds.length := by simpa using hlt'
    obtain ⟨w, w1, w2⟩ := hd5.at hlt'
    obtain ⟨hd0, c, hc1, ⟨lx', ax', sx', dv', p', S', A', L', T', hc2⟩, _⟩ := hclk _ (List.getElem_mem hlt')
    obtain ⟨d, hdn'⟩ : ∃ d : Nat, ds[k] = d := ⟨ds[k].toNat, by omega⟩
    have hdr : ds.drop k = ds[k] :: ds.drop (k + 1) := List.drop_eq_getElem_cons hlt'
    rw [hdr, clkL, hc1, hdn'] at hvs
    rw [hdn'] at w2 hc1
    simp only [Int.toNat_natCast] at hc1 hvs
    have hdl' : d < cps.length := (List.getElem?_eq_some_iff.1 hc1).1
    have hbe : cps[d] = some c := by rw [List.getElem?_eq_getElem hdl'] at hc1; exact Option.some.inj hc1
    obtain ⟨v, v1, v2⟩ := hcl5.at hdl'
    rw [hbe] at v2
    have hcA : c ≠ A := fun e => by rw [e, hA] at hc2; simp [clO, acO] at hc2
    have hc5 := k05.at hc2 hcA
    have r6 : rdc H5 c 6 = some (ptO (kc c)) := by rw [rdc_of hc5]; rfl
    obtain ⟨u, u1, u2⟩ := pt_set (n := cps.length) (c := cps.length) hb5 hvl.symm (i := d) (by omega) (x := some (kc c))
    have e6 : IntKind.i64.wrap ((k : Int) + 1) = ((k + 1 : Nat) : Int) := by rw [i64_in _ (by omega)]; rfl
    simp only [iv] at w2
    unfold ptO at r6
    simp only [ptV] at v2 u2
    simp only [w1, w2, Gt_some, faV_ptr, Nat.zero_add, rdv_ptr, r10, v1, v2, ncV_ptr, r6, u1, u2, binI_add, e6]
    refine ⟨⟨k + 1, vs.set d (some (kc c)), by omega, rfl, by simpa using hvl, hvs, k5.trans (.set rfl), ?_⟩, decr_lt hlt'⟩
    rw [get_set_eq (lt_of_get hb5)]
  · have hkk : k = ds.length := by
      have : ¬ k < ds.length := by simpa using hge
      omega
    subst hkk
    simp only [List.drop_length, clkL] at hvs
    subst hvs
    have r3 : rdc H5 C 3 = some (.int .i64 p) := by rw [rdc_of hC5]; rfl
    have r4 : rdc H5 C 4 = some dv := by rw [rdc_of hC5]; rfl
    simp only [ncV_ptr, faV_ptr, Nat.zero_add, rdv_ptr, r3, r4, Gt_some]
    have hpt : PtSl H5 (.slice (some ⟨H3.size, 0, none⟩) cps.length cps.length) (clkL kc cps (List.replicate cps.length none) ds) := by
      refine Own.ptsl (t := 111) (n := cps.length) (.blk _ _ _ _ _ hb5 (by simp [hvl]) (Nat.le_refl _) (by simp [hvl]) (by rw [List.take_of_length_le (by simp [hvl])]))
    have hb25 := k35.at hb23 fun h => h
    refine ⟨c130 (now := now) hpt hd5 (by rw [hvl]; exact hcn) hdn (fun d hd' => ?_) (fun b hb => ?_) fun b H6 k6 hb6 hbb => ?_⟩
    · obtain ⟨hd0, c, hc1, _⟩ := hclk d hd'
      have := (List.getElem?_eq_some_iff.1 hc1).1
      rw [hvl]; omega
    · rcases clkL_mem hb with hb | ⟨d, hd', c, hc1, rfl⟩
      · rw [List.mem_replicate] at hb; cases hb.2
      · obtain ⟨_, c', hc1', _, w, hw⟩ := hclk d hd'
        rw [hc1] at hc1'; cases hc1'
        refine ⟨w, k05.at hw fun e => ?_⟩
        rw [e, hA] at hw; simp [ckO, acO] at hw
    · rw [hvl] at hbb ⊢
      have hsn : takeL (clkL kc cps (List.replicate cps.length none) ds) now (List.replicate cps.length (-1)) ds = snapV kc now cps ds := rfl
      rw [hsn] at hbb
      have hC6 := k6.at hC5 fun h => h
      have r3 : rdc H6 C 3 = some (.int .i64 p) := by rw [rdc_of hC6]; rfl
      have hlen : (snapV kc now cps ds).length = cps.length := snapV_len
      have hoi : OI H6 (.slice (some ⟨b, 0, none⟩) cps.length cps.length) (snapV kc now cps ds) := by
        unfold OI
        rw [hlen]
        exact .blk _ _ _ _ _ hbb (by simp [hlen]) (Nat.le_refl _) (by simp [hlen]) (by rw [List.take_of_length_le (by simp [hlen])])
      simp only [rdv_ptr, r3, Sm_some]
      refine ⟨c129 hoi (by rw [hlen]; exact hp) (h0 (by rw [hlen]; exact hp)) (by rw [hlen]; exact hcn) fun B sv W M H7 k7 f7 tx7 => ?_⟩
      have y0 : ∀ a b : Value, exV 0 (.tuple #[a, b]) = some a := fun _ _ => rfl
      have y1 : ∀ a b : Value, exV 1 (.tuple #[a, b]) = some b := fun _ _ => rfl
      have k67 := k6.trans k7
      have hC7 := k67.at hC5 fun h => h
      have hb17 := k67.at hb15 fun h => h
      have hb27 := k67.at hb25 fun h => h
      have r9 : rdc H7 C 9 = some (ptO T) := by rw [rdc_of hC7]; rfl
      have rj : rdc H7 H.size 0 = some (.int .i64 j) := by rw [rdc_of hb17]; rfl
      unfold ptO at r9
      simp only [y0, y1, Gt_some]
      have k57 := k67
      have k07 : Keep (fun b => b = A) H H7 := k05.trans (k67.mono fun _ _ h => h.elim)
      have hA7 := k67.at hA5 fun h => h
      have tbA : ∀ b, tbF T G1 G2 ms b → b ≠ A := by
        rintro b (rfl | rfl | rfl | hb) rfl
        · have := htb.blk; rw [hA] at this; simp [acO] at this
        · have := htb.ses; rw [hA] at this; simp [acO] at this
        · have := htb.giv; rw [hA] at this; simp [acO] at this
        · obtain ⟨m, hm, e⟩ := List.mem_map.1 hb
          obtain ⟨es, c, h1, _⟩ := (htb.maps m hm).blk
          rw [e, hA] at h1; simp [acO] at h1
      have tb7 := htb.keep k07 tbA
      have z06 := k6.size
      have z07 := k7.size
      have hgd : (ms[j]?.getD default) = ms[j] := by simp [hj]
      have f7' : ∀ b, txF B sv W M [] b → H6.size ≤ b := f7
      have tlt := htb.lt
      have z15 : H1.size < H6.size := by omega
      have eb : bdV z67 [(0, 1), (1, 1), (2, 1), (3, 2), (5, 1), (6, 1), (7, 1), (8, 1), (9, 1)] [(3, hnV life (g + 1))] = some (rsBegin life (g + 1)) := rfl
      have stp : ∀ H8 H9 (k8 : Keep no H7 H8), Keep (tbF T G1 G2 ms) H8 H9 → TxRep H9 B p sv (snapV kc now cps ds) W M [] false ∧ H9[A]? = some (acO q0 q1 q2 q3 (op + 1)) ∧ Keep (fun b => b = A ∨ tbF T G1 G2 ms b) H H9 ∧ H9[H1.size]? = some (.cells z67.cells 67 (0, 0)) := by
        intro H8 H9 k8 k9
        refine ⟨(tx7.keep k8 fun _ _ h => h).keep k9 fun b hb hb' => by have := f7' b hb; have := tlt b hb'; omega, k9.at (k8.at hA7 fun h => h) fun hb => tbA A hb rfl, ((k07.mono fun _ _ e => .inl e).trans (k8.mono fun _ _ h => h.elim)).trans (k9.mono fun _ _ h => .inr h), k9.at (k8.at hb27 fun h => h) fun hb' => by have := tlt _ hb'; omega⟩
      refine ⟨fun (x : Value) (H9 : Heap) => ∃ b, x = .pointer (some ⟨b, 0, none⟩) ∧ H9[b]? = some (.cells #[iv life, iv (g + 1)] 44 (0, 0)) ∧ H9[H1.size]? = some (.cells z67.cells 67 (0, 0)) ∧ TxRep H9 B p sv (snapV kc now cps ds) W M [] false ∧
        TbRep H9 T life G1 G2 (ms.set j (ms[j].1, ms[j].2 ++ [(g + 1, ptO B)])) (gs.set j (g + 1)) ∧ H9[A]? = some (acO q0 q1 q2 q3 (op + 1)) ∧ Keep (fun b => b = A ∨ tbF T G1 G2 ms b) H H9, ?_, ?_⟩
      · rintro H9 _ ⟨b', rfl, h91, h92, h93, h94, h95, h96⟩
        have rd : rda 2 (.pointer (some ⟨b', 0, none⟩)) H9 = some (hnV life (g + 1)) := by
          rw [rda_ptr, rdn_at h91 2 0 (by simp)]; rfl
        simp only [rd, Gt_some, eb]
        unfold rsBegin at hR ⊢
        refine fin _ H9 _ rfl (by rfl) h92 rfl R fun H10 k10 => hR hlt H10 ⟨h96.trans' k10 fun b e => .inr (by omega), k10.at h95 (by omega), B, sv, W, M, fun b hb => by have := f7' b hb; omega, h93.keep k10 fun b hb e => by have := f7' b hb; omega, hgd.symm ▸ h94.keep k10 fun b hb e => ?_⟩
        have hbT : tbF T G1 G2 ms b := by
          rcases hb with hb | hb | hb | hb
          · exact .inl hb
          · exact .inr (.inl hb)
          · exact .inr (.inr (.inl hb))
          · refine .inr (.inr (.inr ?_))
            obtain ⟨m, hm, rfl⟩ := List.mem_map.1 hb
            obtain ⟨i, hi, rfl⟩ := List.getElem_of_mem hm
            rw [List.getElem_set]
            split
            · exact List.mem_map.2 ⟨_, List.getElem_mem hj, rfl⟩
            · exact List.mem_map.2 ⟨_, List.getElem_mem (by simpa using hi), rfl⟩
        have := tlt b hbT; omega
      · simp only [ncV_ptr, faV_ptr, Nat.zero_add, rdv_ptr, r9, rj, Gt_some]
        refine ⟨⟨c131 tb7 hj hg hn hgb fun H8 k8 tb8 => ?_⟩, ?_⟩
        · simp only [y0, y1, Gt_some, Nw_iff]
          obtain ⟨H9, p1, p2, p3, p4, p5⟩ := agg_new (H := H8) (t := 44) (n := 2) (z := z44) (es := #[iv life, iv (g + 1)]) rfl rfl (by decide) (by rfl)
          have e1 : hnV life (g + 1) = .agg #[iv life, iv (g + 1)] := rfl
          rw [e1]
          simp only [p1, Gt_some]
          obtain ⟨t1, t2, t3, t4⟩ := stp H7 H8 (.refl _) k8
          exact ⟨H8.size, rfl, p4, p3.at t4 fun h => h, t1.keep p3 fun _ _ h => h, tb8.keep p3 fun _ _ h => h, p3.at t2 fun h => h, t3.trans (p3.mono fun _ _ h => h.elim)⟩
        · generalize hH8 : H7.push (.cells z44.cells 44 (0, 0)) = H8
          have hb8 : H8[H7.size]? = some (.cells z44.cells 44 (0, 0)) := by rw [← hH8]; exact get_push_eq
          have k8 : Keep no H7 H8 := by rw [← hH8]; exact .push
          refine ⟨c131 (tb7.keep k8 fun _ _ h => h) hj hg hn hgb fun H9 k9 tb9 => ?_⟩
          have z7 : ∀ b, tbF T G1 G2 ms b → b ≠ H7.size := fun b hb e => by have := tlt b hb; omega
          have hb9 := k9.at hb8 fun hb => z7 _ hb rfl
          obtain ⟨H10, p1, p2, p3, p4, p5⟩ := agg_put (n := 2) (es := #[iv life, iv (g + 1)]) hb9 rfl rfl (by decide) (by rfl)
          have e1 : hnV life (g + 1) = .agg #[iv life, iv (g + 1)] := rfl
          rw [e1]
          simp only [y0, y1, Gt_some, p1]
          obtain ⟨t1, t2, t3, t4⟩ := stp H8 H9 k8 k9
          have zt : ∀ b, txF B sv W M [] b → b ≠ H7.size := fun b hb e => by have := tx7.lt b hb; omega
          refine ⟨H7.size, rfl, p4, p3.at t4 (by omega), t1.keep p3 zt, tb9.keep p3 fun b hb e => ?_, p3.at t2 (by omega), t3.trans' p3 fun b e => .inr (by omega)⟩
          have hbT : tbF T G1 G2 ms b := by
            rcases hb with hb | hb | hb | hb
            · exact .inl hb
            · exact .inr (.inl hb)
            · exact .inr (.inr (.inl hb))
            · refine .inr (.inr (.inr ?_))
              obtain ⟨m, hm, rfl⟩ := List.mem_map.1 hb
              obtain ⟨i, hi, rfl⟩ := List.getElem_of_mem hm
              rw [List.getElem_set]
              split
              · exact List.mem_map.2 ⟨_, List.getElem_mem hj, rfl⟩
              · exact List.mem_map.2 ⟨_, List.getElem_mem (by simpa using hi), rfl⟩
          exact z7 b hbT e
end Go.Proofs.YtdoimhpmnmmffaaGreat

/- Contracts of the package cell: a key is put; a transaction ends. No condition but those in each statement. -/
namespace Go.Proofs.YtdoimhpmnmmffaaGreat
open Go IntWalk
variable {H : Heap} {R : Value → Heap → Prop} {X : List PanicEntry → Heap → Prop}

/-- what a Put leaves behind -/
def PutP (H H' : Heap) (e : Int) (B place : Nat) (sv : Value) (snap : List Int) (W M : Nat) (ws : List Wrt) (ended : Bool) (A : Nat) (q0 q1 q2 q3 op : Int) (k : ByteArray) (bs : List UInt8) : Prop :=
  (e ≠ 0 ∧ Keep no H H') ∨ (e = 0 ∧ ∃ u, Keep (fun b => b = W ∨ b = M ∨ b = A) H H' ∧ (∀ b, ob u b → H.size ≤ b) ∧ TxRep H' B place sv snap W M (layW ws ⟨k, u, bs, false⟩) ended ∧ H'[A]? = some (acO q0 q1 q2 (q3 + ((k.size + bs.length : Nat) - (wtW ws k : Nat))) op))
section
variable {B place W M A : Nat} {sv : Value} {snap : List Int} {ws : List Wrt} {ended : Bool} {q0 q1 q2 q3 op : Int}
theorem PutP.grow {H0 H1 H2 : Heap} {e : Int} {k : ByteArray} {bs : List UInt8} (h : PutP H H1 e B place sv snap W M ws ended A q0 q1 q2 q3 op k bs) (k0 : Keep no H0 H) {N : Nat → Prop} (k2 : Keep N H1 H2) (hN : ∀ b, N b → H0.size ≤ b ∧ b < H.size) (hlt : ∀ b, txF B sv W M ws b → b < H0.size) (hA : A < H0.size) : PutP H0 H2 e B place sv snap W M ws ended A q0 q1 q2 q3 op k bs := by
  rcases h with ⟨h1, h2⟩ | ⟨h1, u, h2, h3, h4, h5⟩
  · exact .inl ⟨h1, (k0.trans h2).trans' k2 fun b hb => .inr (hN b hb).1⟩
  · have s0 := k0.size
    refine .inr ⟨h1, u, ((k0.mono fun _ _ h => h.elim).trans h2).trans' k2 fun b hb => .inr (hN b hb).1, fun b hb => Nat.le_trans s0 (h3 b hb), h4.keep k2 fun b hb hn => ?_, k2.at h5 fun hn => by have := (hN _ hn).1; omega⟩
    have hn' := hN b hn
    rcases hb with hb | hb | hb | hb | ⟨w, hw, hb⟩
    · have := hlt b (.inl hb); omega
    · have := hlt b (.inr (.inl hb)); omega
    · have := hlt b (.inr (.inr (.inl hb))); omega
    · have := hlt b (.inr (.inr (.inr (.inl hb)))); omega
    · rcases layW_mem hw with rfl | hw
      · have := h3 b hb; omega
      · have := hlt b (.inr (.inr (.inr (.inr ⟨w, hw, hb⟩)))); omega

theorem rqA_one {q : Rq} (hv : q.v.oneCell' = true) : (rqA q).toList.all Value.oneCell' = true := by
  simp only [rqA, List.all_cons, List.all_nil, hv]; rfl
theorem rq_of {b : Nat} {ses : Int} {q : Rq} {t cl : Value} {ty : Nat} (h : H[b]? = some (.cells (clA ses q t cl) ty (0, 0))) : rda 8 (.pointer (some ⟨b, 1, none⟩)) H = some (.agg (rqA q)) := by
  rw [rda_ptr, rdn_at h 8 1 (by simp [clA])]; rfl

theorem c135 {C p : Nat} {lx ax sx dv S K L T cl : Value} {ls : List Nat} {ses : Int} {q : Rq} {bs : List UInt8} (hC : H[C]? = some (clO lx ax sx dv p S K (ptO A) L T)) (hl : LbSl H lx ls) (htx : TxRep H B place sv snap W M ws ended) (hsl : snap.length = ls.length) (ha : H[A]? = some (acO q0 q1 q2 q3 op))
    (hlen : ws.length ≤ 1099511627775) (hq : wtW ws q.key ≤ q3) (hqb : 0 ≤ q2 ∧ q2 ≤ 4611686018427387904 ∧ q3 ≤ 1152921504606846976) (hv : Bs H q.v bs) (hvA : ∀ b, ob q.v b → b ≠ A) (hcl : cl.oneCell' = true)
    (hE : ¬ (0 ≤ q.place ∧ q.place < ls.length) → ∀ H', Keep no H H' → R (.tuple #[rs0 210, .int .i64 0]) H')
    (hR : 0 ≤ q.place ∧ q.place < ls.length → ∀ H', PutP H H' (putE ended q.place snap.length place q.key.size bs.length (q0 < q2 + q3 - (wtW ws q.key : Nat) + (q.key.size + bs.length : Nat))) B place sv snap W M ws ended A q0 q1 q2 q3 op q.key bs →
       R (.tuple #[rs0 (putE ended q.place snap.length place q.key.size bs.length (q0 < q2 + q3 - (wtW ws q.key : Nat) + (q.key.size + bs.length : Nat))), .int .i64 0]) H') :
    Runs Tryz.prog 135 [ptO C, .agg (clA ses q (ptO B) cl)] H R X := by
  refine l135 ?_
  unfold i135 ptO
  have hcc : (Value.agg (clA ses q (ptO B) cl)).cells = clA ses q (ptO B) cl := rfl
  unfold ptO at hcc
  simp only [Nw_iff, hcc]
  generalize hH1 : H.push (.cells (clA ses q (ptO B) cl) 121 (0, 0)) = H1
  unfold ptO at hH1
  rw [hH1]
  have hb1 : H1[H.size]? = some (.cells (clA ses q (ptO B) cl) 121 (0, 0)) := by rw [← hH1]; exact get_push_eq
  have k1 : Keep no H H1 := by rw [← hH1]; exact .push
  have s1 : H1.size = H.size + 1 := by rw [← hH1]; simp
  generalize hH2 : H1.push (.cells z67.cells 67 (0, 0)) = H2
  have hb2 : H2[H1.size]? = some (.cells z67.cells 67 (0, 0)) := by rw [← hH2]; exact get_push_eq
  have k2 : Keep no H1 H2 := by rw [← hH2]; exact .push
  have s2 : H2.size = H1.size + 1 := by rw [← hH2]; simp
  have k02 := k1.trans k2
  have hb12 := k2.at hb1 fun h => h
  have hvo := hv.one.2
  obtain ⟨H4, p1, _, p3, p4, p5⟩ := agg_new (H := H2) (t := 47) (n := 8) (z := z47) (es := rqA q) rfl rfl (by decide) (rqA_one hvo)
  simp only [faV_ptr, Nat.zero_add, Gt_some, rq_of hb12, p1]
  have k04 := k02.trans p3
  have hb14 := p3.at hb12 fun h => h
  have hb24 := p3.at hb2 fun h => h
  have hC4 := k04.at hC fun h => h
  have r3 : rdc H4 H2.size 3 = some (.int .i64 q.place) := by rw [rdc_of p4]; rfl
  simp only [rdv_ptr, r3, Gt_some]
  have fin : ∀ (e : Int) (H5 : Heap), Keep no H4 H5 ∨ (∃ M', Keep M' H4 H5 ∧ ∀ b, M' b → b < H.size) → ∀ (K : Value → Heap → Prop), (∀ H'', Keep (fun b => b = H1.size) H5 H'' → K (rs0 e) H'') →
      Gt (stV 10 (.pointer (some ⟨H1.size, 0, none⟩)) (rs0 e) H5) fun H6 => Gt (rda 10 (.pointer (some ⟨H1.size, 0, none⟩)) H6) fun u1 => K u1 H6 := by
    intro e H5 hk K hK
    have hb25 : H5[H1.size]? = some (.cells z67.cells 67 (0, 0)) := by
      rcases hk with hk | ⟨M', hk, hm⟩
      · exact hk.at hb24 fun h => h
      · exact hk.at hb24 fun h => by have := hm _ h; omega
    obtain ⟨H'', q1, q2, q3, _⟩ := agg_put (n := 10) (es := rsA 0 e 0 0 false (.slice none 0 0) (.slice none 0 0) false 0) hb25 rfl rfl (by decide) (by rfl)
    unfold rs0 at hK ⊢
    simp only [q1, q2, Gt_some]
    exact hK H'' q3
  refine ⟨c182 hC4 (SlC.keep hl k04 fun _ _ h => h) ?_⟩
  by_cases hp : 0 ≤ q.place ∧ q.place < (ls.length : Nat)
  case neg =>
    have e1 : (decide (q.place ≥ 0) && decide (q.place < (ls.length : Nat))) = false := by
      rw [Bool.and_eq_false_iff, decide_eq_false_iff_not, decide_eq_false_iff_not]; omega
    simp only [e1, unV_not, Bool.not_false, Gt_some, If_true]
    refine ⟨c82 fun H5 k5 => ?_⟩
    exact fin 210 H5 (.inl k5) (fun u H' => R (.tuple #[u, .int .i64 0]) H') fun H6 k6 => hE hp H6 ((k04.trans k5).trans' k6 fun b e => .inr (by omega))
  have e1 : (decide (q.place ≥ 0) && decide (q.place < (ls.length : Nat))) = true := by
    rw [Bool.and_eq_true, decide_eq_true_eq, decide_eq_true_eq]; omega
  have r9 : rdc H4 H.size 9 = some (ptO B) := by rw [rdc_of hb14]; rfl
  have r4 : rdc H4 H2.size 4 = some (.string q.key) := by rw [rdc_of p4]; rfl
  have r6 : rdc H4 H2.size 6 = some q.v := by rw [rdc_of p4]; rfl
  have r7 : rdc H4 C 7 = some (ptO A) := by rw [rdc_of hC4]; rfl
  unfold ptO at r9 r7
  simp only [e1, unV_not, Bool.not_true, Gt_some, If_false, faV_ptr, Nat.zero_add, rdv_ptr, r9, r3, r4, r6, ncV_ptr, r7]
  have htl := htx.lt
  have hAl := lt_of_get ha
  refine ⟨c186 (htx.keep k04 fun _ _ h => h) (k04.at ha fun h => h) hlen hq hqb (hv.keep k04 fun _ _ h => h) hvA fun H5 hp5 => ?_⟩
  have hp5 : PutP H4 H5 _ B place sv snap W M ws ended A q0 q1 q2 q3 op q.key bs := hp5
  refine ⟨c82 fun H6 k6 => ?_⟩
  have hM : Keep no H4 H6 ∨ ∃ M', Keep M' H4 H6 ∧ ∀ b, M' b → b < H.size := by
    rcases hp5 with ⟨_, h2⟩ | ⟨_, u, h2, _⟩
    · exact .inl (h2.trans k6)
    · refine .inr ⟨_, h2.trans (k6.mono fun _ _ h => h.elim), ?_⟩
      rintro b (rfl | rfl | rfl)
      · exact htl _ (.inr (.inr (.inl rfl)))
      · exact htl _ (.inr (.inr (.inr (.inl rfl))))
      · exact hAl
  refine fin _ H6 hM (fun u H' => R (.tuple #[u, .int .i64 0]) H') fun H7 k7 => hR hp H7 ?_
  exact hp5.grow (k04.mono (M' := no) fun _ _ h => h) ((k6.mono (M' := fun b => b = H1.size) fun _ _ h => h.elim).trans k7) (fun b e => by subst e; omega) htl hAl

theorem c191 {C p j T G1 G2 : Nat} {lx ax sx dv S K L cl : Value} {q : Rq} {life g : Int} {ms : List MI} {gs : List Int} (hC : H[C]? = some (clO lx ax sx dv p S K (ptO A) L (ptO T))) (htx : TxRep H B place sv snap W M ws false) (ha : H[A]? = some (acO q0 q1 q2 q3 op)) (ho : 0 < op ∧ op ≤ 1000) (hp : (ws.map Wrt.n).sum ≤ q3) (h3 : q3 ≤ 4611686018427387904)
    (htb : TbRep H T life G1 G2 ms gs) (hj : j < ms.length) (hg : gs[j]? = some g) (hf : findC life g ms[j].2 q.life q.num = 0) (hBT : ∀ b, tbF T G1 G2 ms b → ¬ txF B sv W M ws b)
    (hR : ∀ H', Keep (fun b => b = B ∨ b = A ∨ tbF T G1 G2 ms b) H H' → TxRep H' B place sv snap W M ws true → H'[A]? = some (acO q0 q1 q2 (q3 - ((ws.map Wrt.n).sum : Nat)) (op - 1)) → TbRep H' T life G1 G2 (ms.set j (ms[j].1, delI ms[j].2 q.num)) gs → R (.tuple #[]) H') :
    Runs Tryz.prog 191 [ptO C, .agg (clA j q (ptO B) cl)] H R X := by
  refine l191 ?_
  unfold i191 ptO
  have hcc : (Value.agg (clA j q (ptO B) cl)).cells = clA j q (ptO B) cl := rfl
  unfold ptO at hcc
  simp only [Nw_iff, hcc]
  generalize hH1 : H.push (.cells (clA j q (ptO B) cl) 121 (0, 0)) = H1
  unfold ptO at hH1
  rw [hH1]
  have hb1 : H1[H.size]? = some (.cells (clA j q (ptO B) cl) 121 (0, 0)) := by rw [← hH1]; exact get_push_eq
  have k1 : Keep no H H1 := by rw [← hH1]; exact .push
  have hC1 := k1.at hC fun h => h
  have r9 : rdc H1 H.size 9 = some (ptO B) := by rw [rdc_of hb1]; rfl
  have r7 : rdc H1 C 7 = some (ptO A) := by rw [rdc_of hC1]; rfl
  unfold ptO at r9 r7
  simp only [ncV_ptr, faV_ptr, Nat.zero_add, Gt_some, rdv_ptr, r9, r7]
  have hBl := htx.lt B (.inl rfl)
  have hAl := lt_of_get ha
  have hCl := lt_of_get hC
  have hCB : C ≠ B := fun e => by have := hC; rw [e, htx.blk] at this; simp [clO] at this
  have hCA : C ≠ A := fun e => by have := hC; rw [e, ha] at this; simp [clO, acO] at this
  have tbA : ∀ b, tbF T G1 G2 ms b → b ≠ A := by
    rintro b (rfl | rfl | rfl | hb) rfl
    · have := htb.blk; rw [ha] at this; simp [acO] at this
    · have := htb.ses; rw [ha] at this; simp [acO] at this
    · have := htb.giv; rw [ha] at this; simp [acO] at this
    · obtain ⟨m, hm, e⟩ := List.mem_map.1 hb
      obtain ⟨es, c, h1, _⟩ := (htb.maps m hm).blk
      rw [e, ha] at h1; simp [acO] at h1
  refine ⟨c229 (htx.keep k1 fun _ _ h => h) (k1.at ha fun h => h) ho hp h3 fun H2 k2 tx2 a2 => ?_⟩
  have hC2 := k2.at hC1 (by rintro (e | e); exact hCB e; exact hCA e)
  have hb2 := k2.at hb1 (by rintro (e | e) <;> omega)
  have r9 : rdc H2 C 9 = some (ptO T) := by rw [rdc_of hC2]; rfl
  have r0 : rdc H2 H.size 0 = some (.int .i64 j) := by rw [rdc_of hb2]; rfl
  have rh : rda 2 (.pointer (some ⟨H.size, 2, none⟩)) H2 = some (hnV q.life q.num) := by
    rw [rda_ptr, rdn_at hb2 2 2 (by simp [clA])]; rfl
  unfold ptO at r9
  simp only [ncV_ptr, faV_ptr, Nat.zero_add, Nat.reduceAdd, Gt_some, rdv_ptr, r9, r0, rh]
  have tb2 := (htb.keep k1 fun _ _ h => h).keep k2 fun b hb e => by
    rcases e with e | e
    · exact hBT b hb (.inl e)
    · exact tbA b hb e
  refine ⟨c230 tb2 hj hg hf fun H3 k3 tb3 => ?_⟩
  refine hR H3 (((k1.mono fun _ _ h => h.elim).trans (k2.mono fun b _ e => e.imp id .inl)).trans (k3.mono fun _ _ h => .inr (.inr h))) (tx2.keep k3 fun b hb hb' => hBT b hb' hb) (k3.at a2 fun hb => tbA A hb rfl) tb3
end
end Go.Proofs.YtdoimhpmnmmffaaGreat

/- Contracts of the package cell: a commit of one write. No condition but those in each statement. -/
namespace Go.Proofs.YtdoimhpmnmmffaaGreat
open Go IntWalk
variable {H : Heap} {R : Value → Heap → Prop} {X : List PanicEntry → Heap → Prop}

theorem clA_rd {b : Nat} {ses : Int} {q : Rq} {t cl : Value} (h : H[b]? = some (.cells (clA ses q t cl) 121 (0, 0))) : rda 11 (.pointer (some ⟨b, 0, none⟩)) H = some (.agg (clA ses q t cl)) := by
  rw [rda_ptr, rdn_at h 11 0 (by simp [clA])]; rfl
def rsCommit (code stamp : Int) : Value := .agg (rsA 0 code 0 0 false (.slice none 0 0) (.slice none 0 0) false stamp)
theorem c189 {B place W M : Nat} {sv : Value} {snap : List Int} {ws : List Wrt} {ended : Bool} (h : TxRep H B place sv snap W M ws ended) (hl : ws.length ≤ 1)
    (hR : ∀ x vs H', Keep no H H' → (∀ b, vrF x vs b → H.size ≤ b) → VrSl H' x vs → vs.map Vsn.p = ws.map Wrt.q → R x H') : Runs Tryz.prog 189 [ptO B] H R X := by
  refine l189 ?_
  unfold i189 ptO
  have r2 : rdc H B 2 = some (.pointer (some ⟨W, 0, none⟩)) := by rw [rdc_of h.blk]; rfl
  simp only [ptrEq_nil_r, Option.isNone_some, Option.map_some, Gt_some, If_false, ncV_ptr, faV_ptr, Nat.zero_add, rdv_ptr, r2]
  exact ⟨c228 h.set hl hR⟩

theorem c137 {C p j B W M' S M K A L T G1 G2 D P i : Nat} {lx ax sx dv sv cl : Value} {ses : Nat} {q : Rq} {snap : List Int} {ws : List Wrt} {cs : List Chn} {now win q0 q1 q2 q3 op life g : Int} {ms : List MI} {gs : List Int} {ps : List Part} {armed : Bool} {pt : Part} {a : Area} {v : Value}
    (hC : H[C]? = some (clO lx ax sx dv p (ptO S) (ptO K) (ptO A) (ptO L) (ptO T))) (htx : TxRep H B p sv snap W M' ws false) (hl1 : ws.length ≤ 1) (hne : ws ≠ []) (hsl : snap.length ≤ 1048576)
    (so : SoRep H S M cs) (hK : H[K]? = some (ckO now win)) (hnow : 0 ≤ now ∧ now < 4611686018427387904) (hsnap : ∀ h : p < snap.length, 0 ≤ snap[p] ∧ snap[p] ≤ now)
    (ha : H[A]? = some (acO q0 q1 q2 q3 op)) (ho : 0 < op ∧ op ≤ 1000) (hsum : (ws.map Wrt.n).sum ≤ q3) (hq3 : q3 ≤ 4611686018427387904)
    (htb : TbRep H T life G1 G2 ms gs) (hj : j < ms.length) (hg : gs[j]? = some g) (hf : findC life g ms[j].2 q.life q.num = 0)
    (hL : H[L]? = some (lgO D i)) (hDk : DkRep H D P ps armed) (hi : i < ps.length) (hp : ps[i] = pt) (har : ArRep H pt.area a v) (hD : ¬ arM pt.area v D) (hP : ¬ arM pt.area v P)
    (hlast : ∀ k, ∀ l ∈ getS (cs.map Chn.m) k, l.stamp ≤ now) (hlens : ∀ w ∈ ws, (getS (cs.map Chn.m) w.key).length < 1099511627776) (hlive : liveS (cs.map Chn.m) + 4351 ≤ 1048576)
    (hnc : ∀ h : p < snap.length, (ws.map (·.key)).any (above (cs.map Chn.m) snap[p]) = false) (harm : armed = false) (hfit : a.bytes.length + 12000 ≤ 140737488355328) (hdn : 0 ≤ pt.done ∧ pt.done + 2 < 4611686018427387903)
    (hset : liveS (applyL (now + 1) (cs.map Chn.m) (ws.map Wrt.q)) + (q3 - ((ws.map Wrt.n).sum : Nat)) ≤ q0) (hsv : sv.oneCell' = true) (hqv : q.v.oneCell' = true) (hclo : cl.oneCell' = true)
    (sep1 : ∀ b, (b = C ∨ b = A ∨ b = L ∨ b = D ∨ b = K ∨ txF B sv W M' ws b ∨ tbF T G1 G2 ms b) → ¬ stF S M cs b) (sep2 : ∀ b, (b = C ∨ b = A ∨ b = L ∨ b = K ∨ txF B sv W M' ws b ∨ tbF T G1 G2 ms b ∨ stF S M cs b) → ¬ wM pt.area P v b) (sepK : ∀ b, (b = C ∨ b = A ∨ txF B sv W M' ws b ∨ tbF T G1 G2 ms b) → b ≠ K)
    (sepT : ∀ b, tbF T G1 G2 ms b → ¬ txF B sv W M' ws b) (hwlt : ∀ b, wM pt.area P v b → b < H.size)
    (hR : ∀ (H' : Heap) (cs' : List Chn), Keep (fun b => stF S M cs b ∨ b = K ∨ wM pt.area P v b ∨ b = B ∨ b = A ∨ tbF T G1 G2 ms b) H H' → cs'.map Chn.m = applyL (now + 1) (cs.map Chn.m) (ws.map Wrt.q) → SoRep H' S M cs' → H'[K]? = some (ckO (now + 1) win) → R (.tuple #[rsCommit 0 (now + 1), .int .i64 0]) H') :
    Runs Tryz.prog 137 [ptO C, .agg (clA j q (ptO B) cl)] H R X := by
  refine l137 ?_
  unfold i137 ptO
  have hcc : (Value.agg (clA j q (ptO B) cl)).cells = clA j q (ptO B) cl := rfl
  unfold ptO at hcc
  simp only [Nw_iff, hcc]
  generalize hH1 : H.push (.cells (clA j q (ptO B) cl) 121 (0, 0)) = H1
  unfold ptO at hH1
  rw [hH1]
  have hb1 : H1[H.size]? = some (.cells (clA j q (ptO B) cl) 121 (0, 0)) := by rw [← hH1]; exact get_push_eq
  have k1 : Keep no H H1 := by rw [← hH1]; exact .push
  have s1 : H1.size = H.size + 1 := by rw [← hH1]; simp
  generalize hH2 : H1.push (.cells z67.cells 67 (0, 0)) = H2
  have hb2 : H2[H1.size]? = some (.cells z67.cells 67 (0, 0)) := by rw [← hH2]; exact get_push_eq
  have k2 : Keep no H1 H2 := by rw [← hH2]; exact .push
  have s2 : H2.size = H1.size + 1 := by rw [← hH2]; simp
  have k02 := k1.trans k2
  have hb12 := k2.at hb1 fun h => h
  have rc : ∀ {H'}, H'[C]? = some (clO lx ax sx dv p (ptO S) (ptO K) (ptO A) (ptO L) (ptO T)) → rdc H' C 5 = some (ptO S) ∧ rdc H' C 6 = some (ptO K) ∧ rdc H' C 7 = some (ptO A) ∧ rdc H' C 8 = some (ptO L) ∧ rdc H' C 3 = some (.int .i64 p) := fun h => by
    refine ⟨?_, ?_, ?_, ?_, ?_⟩ <;> rw [rdc_of h] <;> rfl
  unfold ptO at rc
  have hC2 := k02.at hC fun h => h
  have hC2' := hC2
  unfold ptO at hC2
  obtain ⟨c5, c6, c7, c8, c3⟩ := rc hC2
  have t9 : rdc H2 H.size 9 = some (ptO B) := by rw [rdc_of hb12]; rfl
  unfold ptO at t9
  simp only [ncV_ptr, faV_ptr, Nat.zero_add, Gt_some, rdv_ptr, c5, c6, c8, t9, c3]
  refine ⟨c189 (htx.keep k02 fun _ _ h => h) hl1 fun x vs H3 k3 f3 vr3 hvs => ?_⟩
  have k03 := k02.trans k3
  have hC3 := k3.at hC2 fun h => h
  have hb13 := k3.at hb12 fun h => h
  have t9 : rdc H3 H.size 9 = some (ptO B) := by rw [rdc_of hb13]; rfl
  unfold ptO at t9
  obtain ⟨c5, c6, c7, c8, c3⟩ := rc hC3
  simp only [rdv_ptr, c3, t9, c8, c6, c5, Sm_some]
  refine ⟨c190 (htx.keep k03 fun _ _ h => h) hsl fun y H4 k4 f4 oi4 => ?_⟩
  have k04 := k03.trans k4
  have hC4 := k4.at hC3 fun h => h
  have hb14 := k4.at hb13 fun h => h
  have hb24 := (k3.trans k4).at hb2 fun h => h
  obtain ⟨c5, c6, c7, c8, c3⟩ := rc hC4
  have hpl := htx.at_
  obtain ⟨w0, w1, w2⟩ := oi4.sl.at hpl
  simp only [iv] at w2
  simp only [rdv_ptr, c3, c8, c6, c5, Sm_some, w1, w2, Gt_some]
  -- the commit
  have hvl : vs.length = ws.length := by have := congrArg List.length hvs; simpa using this
  have hwpos := List.length_pos_iff.2 hne
  have hvl1 : vs.length = 1 := by omega
  have hkeys : vs.map (·.key) = ws.map (·.key) := by
    have := congrArg (List.map (fun z : VP => z.1)) hvs
    simpa [List.map_map, Function.comp_def, Vsn.p, Wrt.q] using this
  have hat : ∀ z ∈ vs, ∃ w ∈ ws, z.p = w.q := fun z hz => by
    have : z.p ∈ ws.map Wrt.q := hvs ▸ List.mem_map.2 ⟨z, hz, rfl⟩
    obtain ⟨w, hw, e⟩ := List.mem_map.1 this
    exact ⟨w, hw, e.symm⟩
  have hok : WsOk vs := by
    refine ⟨by omega, fun i h => by omega, fun z hz => ?_, by rw [hkeys]; exact htx.set.keys⟩
    obtain ⟨w, hw, e⟩ := hat z hz
    simp only [Vsn.p, Wrt.q, Prod.mk.injEq] at e
    have := htx.set.fit w hw
    rw [e.1, e.2.2.1, e.2.2.2]; exact this
  have hz4 : ∀ b, vrF x vs b → H.size ≤ b := fun b hb => by have := f3 b hb; omega
  have hstlt := so.st.lt
  have hKl := lt_of_get hK
  have so4 := so.keep k04 fun _ _ h => h
  refine ⟨c188 so4 (k04.at hK fun h => h) ⟨hnow.1, by omega⟩ (vr3.keep k4 fun _ _ h => h) hok (fun e => by rw [e] at hvl1; simp at hvl1) (hsnap hpl) (k04.at hL fun h => h) (hDk.keep k04 (fun h => h) fun h => h) hi hp (har.keep k04 fun _ _ h => h) hD hP (sep2 L (.inr (.inr (.inl rfl)))) hlast
    (fun z hz => ?_) (by omega) (fun b hb => sep2 b (.inr (.inr (.inr (.inr (.inr (.inr hb))))))) ⟨sep2 K (.inr (.inr (.inr (.inl rfl)))), sep1 K (.inr (.inr (.inr (.inr (.inl rfl)))))⟩ (sep1 D (.inr (.inr (.inr (.inl rfl))))) (fun b hb => ?_) (fun b hb => Nat.lt_of_lt_of_le (hwlt b hb) k04.size) (by rw [hvl1]; omega) (by rw [hvl1]; omega) (fun hbad => ?_) (fun _ hbad => by omega) (fun _ _ _ cs' w H5 k5 f5 g5 m5 so5 sw5 hK5 ar5 dk5 => ?_) (fun _ _ k _ hbad => by rw [harm] at hbad; cases hbad)⟩
  · obtain ⟨u, hu, e⟩ := hat z hz
    simp only [Vsn.p, Wrt.q, Prod.mk.injEq] at e
    rw [e.1]; exact hlens u hu
  · have h1 := hz4 b hb
    exact ⟨fun h => by have := hwlt b h; omega, fun h => by have := hstlt b h; omega, by omega⟩
  · rw [hkeys, hnc hpl] at hbad; cases hbad
  have y0 : ∀ a b : Value, exV 0 (.tuple #[a, b]) = some a := fun _ _ => rfl
  have y1 : ∀ a b : Value, exV 1 (.tuple #[a, b]) = some b := fun _ _ => rfl
  have e1 : ((0 : Int) == 0) = true := rfl
  have z04 := k04.size
  have k05 : Keep (fun b => stF S M cs b ∨ b = K ∨ wM pt.area P v b) H H5 := (k04.mono fun _ _ h => h.elim).trans k5
  have nst : ∀ b, (b = C ∨ b = A ∨ txF B sv W M' ws b ∨ tbF T G1 G2 ms b) → ¬ (stF S M cs b ∨ b = K ∨ wM pt.area P v b) := by
    rintro b hb (h | h | h)
    · refine sep1 b ?_ h
      rcases hb with hb | hb | hb | hb
      · exact .inl hb
      · exact .inr (.inl hb)
      · exact .inr (.inr (.inr (.inr (.inr (.inl hb)))))
      · exact .inr (.inr (.inr (.inr (.inr (.inr hb)))))
    · exact sepK b hb h
    · refine sep2 b ?_ h
      rcases hb with hb | hb | hb | hb
      · exact .inl hb
      · exact .inr (.inl hb)
      · exact .inr (.inr (.inr (.inr (.inl hb))))
      · exact .inr (.inr (.inr (.inr (.inr (.inl hb)))))
  have hfr : ∀ b, H.size ≤ b → ¬ (stF S M cs b ∨ b = K ∨ wM pt.area P v b) := by
    rintro b hb (h | h | h)
    · have := hstlt b h; omega
    · omega
    · have := hwlt b h; omega
  have hC5 := k05.at hC (nst C (.inl rfl))
  have hb15 := k5.at hb14 (hfr _ (by omega))
  have hb25 := k5.at hb24 (hfr _ (by omega))
  have tx5 := htx.keep k05 fun b hb => nst b (.inr (.inr (.inl hb)))
  have tb5 := htb.keep k05 fun b hb => nst b (.inr (.inr (.inr hb)))
  have a5 := k05.at ha (nst A (.inr (.inl rfl)))
  simp only [y0, y1, Gt_some, binI_eql, e1]
  refine Jo1 ?_
  have crd := clA_rd hb15
  simp only [If_true, crd, Gt_some]
  have hqq := hC5
  unfold ptO at hqq
  refine ⟨c191 (j := j) hC5 tx5 a5 ho hsum hq3 tb5 hj hg hf sepT fun H6 k6 tx6 a6 tb6 => ?_⟩
  have hBl := htx.lt B (.inl rfl)
  have hAl := lt_of_get ha
  have hCl := lt_of_get hC
  have htl := htb.lt
  have hCB : C ≠ B := fun e => by have := hC; rw [e, htx.blk] at this; simp [clO] at this
  have hCA : C ≠ A := fun e => by have := hC; rw [e, ha] at this; simp [clO, acO] at this
  have hCT : ¬ tbF T G1 G2 ms C := by
    rintro (e | e | e | hb)
    · have := htb.blk; rw [← e, hC] at this; simp [clO] at this
    · have := htb.ses; rw [← e, hC] at this; simp [clO] at this
    · have := htb.giv; rw [← e, hC] at this; simp [clO] at this
    · obtain ⟨m, hm, e⟩ := List.mem_map.1 hb
      obtain ⟨es, c, h1, _⟩ := (htb.maps m hm).blk
      rw [e, hC] at h1; simp [clO] at h1
  have hC6 := k6.at hC5 (by rintro (e | e | e); exact hCB e; exact hCA e; exact hCT e)
  have hold : ∀ b, (b = B ∨ b = A ∨ tbF T G1 G2 ms b) → b < H.size := by
    rintro b (rfl | rfl | h)
    · exact hBl
    · exact hAl
    · exact htl b h
  have hst5 : ∀ b, stF S M cs' b → ¬ (b = B ∨ b = A ∨ tbF T G1 G2 ms b) := by
    intro b hb h
    rcases f5 b hb with h1 | h1
    · refine sep1 b ?_ h1
      rcases h with h | h | h
      · subst h; exact .inr (.inr (.inr (.inr (.inr (.inl (.inl rfl))))))
      · exact .inr (.inl h)
      · exact .inr (.inr (.inr (.inr (.inr (.inr h)))))
    · have := hold b h; omega
  have so6 := so5.keep k6 hst5
  have hb26 := k6.at hb25 fun h => by have := hold _ h; omega
  have hK6 := k6.at hK5 fun h => by
    rcases h with h | h | h
    · exact sepK B (.inr (.inr (.inl (.inl rfl)))) h.symm
    · exact sepK A (.inr (.inl rfl)) h.symm
    · exact sepK K (.inr (.inr (.inr h))) rfl
  unfold ptO at hC6
  obtain ⟨c5, c6, c7, c8, c3⟩ := rc hC6
  simp only [ncV_ptr, faV_ptr, Nat.zero_add, Gt_some, rdv_ptr, c7, c5]
  refine ⟨c111 so6.st.blk ?_⟩
  simp only [rdv_ptr, c7, Sm_some]
  have hm : cs'.map Chn.m = applyL (now + 1) (cs.map Chn.m) (ws.map Wrt.q) := by rw [m5, hvs]
  have hlv : liveS (cs'.map Chn.m) ≤ 1048576 := by
    rw [hm]
    have := liveS_apply (stamp := now + 1) (ws := ws.map Wrt.q) (m := cs.map Chn.m) fun z hz => by
      obtain ⟨u, hu, rfl⟩ := List.mem_map.1 hz
      have := htx.set.fit u hu
      exact ⟨this.1.2, this.2.1⟩
    have hl : ((ws.map Wrt.q).length : Int) = 1 := by simp; omega
    rw [hl] at this
    omega
  refine ⟨c110 a6 ⟨liveS_nn, hlv⟩ ⟨by omega, by omega⟩ (fun _ => ?_) (fun hbad => by rw [hm] at hbad; omega)⟩
  generalize hH7 : H6.setIfInBounds A _ = H7
  have k7 : Keep (fun b => b = A) H6 H7 := by rw [← hH7]; exact .set rfl
  have hb27 := k7.at hb26 (by omega)
  have so7 := so6.keep k7 fun b hb e => hst5 b hb (.inr (.inl e))
  have hK7 := k7.at hK6 fun e => sepK A (.inr (.inl rfl)) e.symm
  have eb : bdV z67 [(0, 1), (1, 1), (2, 1), (3, 2), (5, 1), (6, 1), (7, 1), (8, 1), (9, 1)] [(2, .int .i64 0), (8, .int .i64 (now + 1))] = some (rsCommit 0 (now + 1)) := rfl
  obtain ⟨H8, p1, p2, p3, _, _⟩ := agg_put (n := 10) (es := rsA 0 0 0 0 false (.slice none 0 0) (.slice none 0 0) false (now + 1)) hb27 rfl rfl (by decide) (by rfl)
  unfold rsCommit at eb hR
  simp only [eb, Gt_some, p1, p2]
  have z7 : ∀ b, stF S M cs' b → b ≠ H1.size := fun b hb e => by
    rcases f5 b hb with h1 | h1
    · have := hstlt b h1; omega
    · have := (k3.trans k4).size; omega
  refine hR H8 cs' ((((k05.mono fun b _ h => ?_).trans (k6.mono fun b _ h => .inr (.inr (.inr h)))).trans (k7.mono fun b _ e => .inr (.inr (.inr (.inr (.inl e)))))).trans' p3 fun b e => .inr (by omega)) hm (so7.keep p3 z7) (p3.at hK7 (by omega))
  rcases h with h | h | h
  · exact .inl h
  · exact .inr (.inl h)
  · exact .inr (.inr (.inl h))
end Go.Proofs.YtdoimhpmnmmffaaGreat

/- Contracts of the package cell: requests are answered. No condition but those in each statement. -/
namespace Go.Proofs.YtdoimhpmnmmffaaGreat
open Go IntWalk
variable {H : Heap} {R : Value → Heap → Prop} {X : List PanicEntry → Heap → Prop}

/-- what is asked of what an inner function leaves: a whole answer, and nothing changed that is new -/
structure AnsOk (n : Nat) (H1 : Heap) (es : Array Value) (H2 : Heap) : Prop where
  size : es.size = 10
  one : es.toList.all Value.oneCell' = true
  keep : ∃ N : Nat → Prop, Keep N H1 H2 ∧ ∀ b, N b → b < n
theorem clA_one {ses : Int} {q : Rq} {t cl : Value} (hv : q.v.oneCell' = true) (ht : t.oneCell' = true) (hc : cl.oneCell' = true) : (clA ses q t cl).toList.all Value.oneCell' = true := by
  simp only [clA, List.all_cons, List.all_nil, hv, ht, hc]; rfl
section
variable {C j : Nat} {cl : Value} {q : Rq} {Q : Heap → Array Value → Int → Heap → Prop}

theorem c47b (hk : q.kind = 1) (hqv : q.v.oneCell' = true)
    (hrun : ∀ (H1 : Heap) (R1 : Value → Heap → Prop), Keep no H H1 → H.size ≤ H1.size → (∀ es H2, Q H1 es 0 H2 → R1 (.agg es) H2) → Runs Tryz.prog 81 [ptO C, .agg (clA j q (.pointer none) cl)] H1 R1 X)
    (hQ : ∀ H1 es H2, Q H1 es 0 H2 → AnsOk H.size H1 es H2)
    (hR : ∀ H1 es H2 H3, Keep no H H1 → Q H1 es 0 H2 → Keep (fun b => H.size ≤ b ∧ b < H1.size) H2 H3 → R (.tuple #[.agg es, .int .i64 0]) H3) :
    Runs Tryz.prog 47 [ptO C, .agg (clA j q (.pointer none) cl)] H R X := by
  refine l47 ?_
  unfold i47 ptO
  have hcc : (Value.agg (clA j q (.pointer none) cl)).cells = clA j q (.pointer none) cl := rfl
  simp only [Nw_iff, hcc]
  generalize hH1 : H.push (.cells (clA j q (.pointer none) cl) 121 (0, 0)) = H1
  have hb1 : H1[H.size]? = some (.cells (clA j q (.pointer none) cl) 121 (0, 0)) := by rw [← hH1]; exact get_push_eq
  have k1 : Keep no H H1 := by rw [← hH1]; exact .push
  have s1 : H1.size = H.size + 1 := by rw [← hH1]; simp
  generalize hH2 : H1.push (.cells z67.cells 67 (0, 0)) = H2
  have hb2 : H2[H1.size]? = some (.cells z67.cells 67 (0, 0)) := by rw [← hH2]; exact get_push_eq
  have k2 : Keep no H1 H2 := by rw [← hH2]; exact .push
  have s2 : H2.size = H1.size + 1 := by rw [← hH2]; simp
  have k02 := k1.trans k2
  have hb12 := k2.at hb1 fun h => h
  obtain ⟨H4, p1, _, p3, p4, p5⟩ := agg_new (H := H2) (t := 47) (n := 8) (z := z47) (es := rqA q) rfl rfl (by decide) (rqA_one hqv)
  have k04 := k02.trans p3
  have hb14 := p3.at hb12 fun h => h
  have hb24 := p3.at hb2 fun h => h
  have r0 : rdc H4 H2.size 0 = some (.int .i64 1) := by rw [rdc_of p4, ← hk]; rfl
  have e1 : ((1 : Int) == 1) = true := rfl
  have rq := rq_of hb12
  have crd := clA_rd hb14
  simp only [faV_ptr, Nat.zero_add, Gt_some, rq, p1, rdv_ptr, r0, binI_eql, e1, If_true, crd]
  refine ⟨hrun H4 _ k04 k04.size fun es H5 hq5 => ?_⟩
  obtain ⟨h1, h2, N, h3, h4⟩ := hQ _ _ _ hq5
  have hb25 := h3.at hb24 fun hn => by have := h4 _ hn; omega
  obtain ⟨H6, q1, q2, q3, _, _⟩ := agg_put (n := 10) (es := es) hb25 rfl h1 (by decide) h2
  simp only [q1, q2, Gt_some]
  have s4 := k04.size
  have hlt := lt_of_get hb24
  exact hR H4 es H5 H6 k04 hq5 (q3.mono fun b _ e => by omega)

theorem c47x {p T G1 G2 : Nat} {lx ax sx dv S K A L t : Value} {life g : Int} {ms : List MI} {gs : List Int} {fk : Nat} (hC : H[C]? = some (clO lx ax sx dv p S K A L (ptO T))) (hkind : (q.kind = 4 ∧ fk = 135) ∨ (q.kind = 6 ∧ fk = 137)) (hqv : q.v.oneCell' = true)
    (htb : TbRep H T life G1 G2 ms gs) (hj : j < ms.length) (hg : gs[j]? = some g) (hf : findC life g ms[j].2 q.life q.num = 0) (hgt : getI ms[j].2 q.num = some t) (ht1 : t.cells = #[t] ∧ t.oneCell' = true)
    (hrun : ∀ (H1 : Heap) (R1 : Value → Heap → Prop), Keep no H H1 → (∀ es e H2, Q H1 es e H2 → R1 (.tuple #[.agg es, .int .i64 e]) H2) → Runs Tryz.prog fk [ptO C, .agg (clA j q t cl)] H1 R1 X)
    (hQ : ∀ H1 es e H2, Q H1 es e H2 → AnsOk H.size H1 es H2)
    (hR : ∀ H1 es e H2 H3, Keep no H H1 → Q H1 es e H2 → Keep (fun b => H.size ≤ b ∧ b < H1.size) H2 H3 → R (.tuple #[.agg es, .int .i64 e]) H3) :
    Runs Tryz.prog 47 [ptO C, .agg (clA j q (.pointer none) cl)] H R X := by
  refine l47 ?_
  unfold i47 ptO
  have hcc : (Value.agg (clA j q (.pointer none) cl)).cells = clA j q (.pointer none) cl := rfl
  simp only [Nw_iff, hcc]
  generalize hH1 : H.push (.cells (clA j q (.pointer none) cl) 121 (0, 0)) = H1
  have hb1 : H1[H.size]? = some (.cells (clA j q (.pointer none) cl) 121 (0, 0)) := by rw [← hH1]; exact get_push_eq
  have k1 : Keep no H H1 := by rw [← hH1]; exact .push
  have s1 : H1.size = H.size + 1 := by rw [← hH1]; simp
  generalize hH2 : H1.push (.cells z67.cells 67 (0, 0)) = H2
  have hb2 : H2[H1.size]? = some (.cells z67.cells 67 (0, 0)) := by rw [← hH2]; exact get_push_eq
  have k2 : Keep no H1 H2 := by rw [← hH2]; exact .push
  have s2 : H2.size = H1.size + 1 := by rw [← hH2]; simp
  have k02 := k1.trans k2
  have hb12 := k2.at hb1 fun h => h
  obtain ⟨H4, p1, _, p3, p4, p5⟩ := agg_new (H := H2) (t := 47) (n := 8) (z := z47) (es := rqA q) rfl rfl (by decide) (rqA_one hqv)
  have k04 := k02.trans p3
  have hb14 := p3.at hb12 fun h => h
  have hb24 := p3.at hb2 fun h => h
  have hC4 := k04.at hC fun h => h
  have r0 : rdc H4 H2.size 0 = some (.int .i64 q.kind) := by rw [rdc_of p4]; rfl
  have e1 : (q.kind == 1) = false := by rw [beq_eq_false_iff_ne]; omega
  have e2 : decide (q.kind < 1) = false := by rw [decide_eq_false_iff_not]; omega
  have e3 : decide (q.kind > 7) = false := by rw [decide_eq_false_iff_not]; omega
  have rq := rq_of hb12
  have r9 : rdc H4 C 9 = some (ptO T) := by rw [rdc_of hC4]; rfl
  have rs : rdc H4 H.size 0 = some (.int .i64 j) := by rw [rdc_of hb14]; rfl
  have rh : rda 2 (.pointer (some ⟨H2.size, 1, none⟩)) H4 = some (hnV q.life q.num) := by
    rw [rda_ptr, rdn_at p4 2 1 (by simp [rqA])]; rfl
  unfold ptO at r9
  simp only [faV_ptr, Nat.zero_add, Gt_some, rq, p1, rdv_ptr, r0, binI_eql, e1, If_false, binI_lss, e2, binI_gtr, e3, Option.bind_some, ifO_false, ncV_ptr, r9, rs, rh]
  refine ⟨c83 (htb.keep k04 fun _ _ h => h) hj hg (fun hbad => absurd hf hbad) fun v hv _ _ H5 k5 => ?_⟩
  rw [hgt] at hv
  cases hv
  have y0 : ∀ a b : Value, exV 0 (.tuple #[a, b]) = some a := fun _ _ => rfl
  have y1 : ∀ a b : Value, exV 1 (.tuple #[a, b]) = some b := fun _ _ => rfl
  have hb15 := k5.at hb14 fun h => h
  have hb25 := k5.at hb24 fun h => h
  have p45 := k5.at p4 fun h => h
  have k05 := k04.trans k5
  have g1 := stV1 (o := 9) (v := t) hb15 (by simp [clA]) ht1.1 ht1.2
  simp only [y0, y1, Gt_some, binI_neq, bne0, If_false, faV_ptr, Nat.zero_add, g1]
  generalize hH6 : H5.setIfInBounds H.size _ = H6
  have k6 : Keep (fun b => b = H.size) H5 H6 := by rw [← hH6]; exact .set rfl
  have hlt2 := lt_of_get p4
  have hlt1 := lt_of_get hb2
  have hlt0 := lt_of_get hb1
  have hb16 : H6[H.size]? = some (.cells (clA j q t cl) 121 (0, 0)) := by rw [← hH6, get_set_eq (lt_of_get hb15)]; rfl
  have p46 := k6.at p45 (by omega)
  have hb26 := k6.at hb25 (by omega)
  have r06 : rdc H6 H2.size 0 = some (.int .i64 q.kind) := by rw [rdc_of p46]; rfl
  have crd := clA_rd hb16
  simp only [rdv_ptr, r06, Gt_some, crd]
  refine ⟨c84 fun b H7 k7 hb hbw => ?_⟩
  have hb17 := k7.at hb16 fun h => h
  have p47 := k7.at p46 fun h => h
  have hb27 := k7.at hb26 fun h => h
  have r07 : rdc H7 H2.size 0 = some (.int .i64 q.kind) := by rw [rdc_of p47]; rfl
  have crd7 := clA_rd hb17
  have k07 : Keep no H H7 := (k05.trans' k6 fun b e => .inr (by omega)).trans k7
  have hcall : ∃ pp, iaV 1 (.slice (some ⟨b, 0, none⟩) 8 8) (.int .i64 q.kind) = some pp ∧ rdv pp H7 = some (.func (.func fk) #[] #[]) := by
    rcases hkind with ⟨h1, rfl⟩ | ⟨h1, rfl⟩
    · rw [h1]
      exact ⟨.pointer (some ⟨b, 4, none⟩), rfl, by rw [rdv_ptr, rdc_of hbw]; rfl⟩
    · rw [h1]
      exact ⟨.pointer (some ⟨b, 6, none⟩), rfl, by rw [rdv_ptr, rdc_of hbw]; rfl⟩
  obtain ⟨pp, w1, w2⟩ := hcall
  simp only [rdv_ptr, r07, crd7, Sm_some, w1, Gt_some]
  rw [show (rdv pp H7) = some (.func (.func fk) #[] #[]) from w2]
  simp only [Gt_some]
  have hfk : tb.fn fk = true := by rcases hkind with ⟨_, rfl⟩ | ⟨_, rfl⟩ <;> rfl
  refine ⟨⟨hfk, ?_⟩⟩
  refine hrun H7 _ k07 fun es e H8 hq8 => ?_
  obtain ⟨h1, h2, N, h3, h4⟩ := hQ _ _ _ _ hq8
  have hb28 := h3.at hb27 fun hn => by have := h4 _ hn; omega
  obtain ⟨H9, q1, q2, q3, _, _⟩ := agg_put (n := 10) (es := es) hb28 rfl h1 (by decide) h2
  simp only [y0, y1, Gt_some, q1, q2]
  have s7 := k07.size
  have hlt7 := lt_of_get hb27
  exact hR H7 es e H8 H9 k07 hq8 (q3.mono fun b _ e => by omega)

theorem c19 {p : Nat} {lx ax sx dv S K A L T : Value} {ls : List Nat} {ss ds : List Int} {cps : List (Option Nat)} (hC : H[C]? = some (clO lx ax sx dv p S K A L T)) (hl : LbSl H lx ls) (hs : IvSl H sx ss) (hd : IvSl H dv ds) (hcl : PtSl H cl cps)
    (hsl : j < ss.length) (hsp : ss[j] = p) (hn : cps.length = ls.length) (hp : p < cps.length) (hpc : cps[p] = some C) (hds : ∀ d ∈ ds, 0 ≤ d ∧ ∃ b, cps[d.toNat]? = some (some b)) (hdl : ds.length ≤ 1048576) (hqv : q.v.oneCell' = true) (hqs : ∃ a n c, q.v = .slice a n c)
    (hrun : ∀ (H1 : Heap) (R1 : Value → Heap → Prop), Keep no H H1 → (∀ es H2, Q H1 es 0 H2 → R1 (.tuple #[.agg es, .int .i64 0]) H2) → Runs Tryz.prog 47 [ptO C, .agg (clA j q (.pointer none) cl)] H1 R1 X)
    (hQ : ∀ H1 es H2, Q H1 es 0 H2 → AnsOk H.size H1 es H2)
    (hR : ∀ H1 es H2 H3, Keep no H H1 → Q H1 es 0 H2 → Keep (fun b => H.size ≤ b ∧ b < H1.size) H2 H3 → R (.tuple #[.agg (es.setIfInBounds 1 (iv j)), .int .i64 0]) H3) :
    Runs Tryz.prog 19 [ptO C, .int .i64 j, .agg (rqA q), cl] H R X := by
  refine l19 ?_
  unfold i19 ptO
  have hcc : (Value.agg (rqA q)).cells = rqA q := rfl
  simp only [Nw_iff, hcc]
  generalize hH1 : H.push (.cells (rqA q) 47 (0, 0)) = H1
  have hb1 : H1[H.size]? = some (.cells (rqA q) 47 (0, 0)) := by rw [← hH1]; exact get_push_eq
  have k1 : Keep no H H1 := by rw [← hH1]; exact .push
  have s1 : H1.size = H.size + 1 := by rw [← hH1]; simp
  generalize hH2 : H1.push (.cells z67.cells 67 (0, 0)) = H2
  have hb2 : H2[H1.size]? = some (.cells z67.cells 67 (0, 0)) := by rw [← hH2]; exact get_push_eq
  have k2 : Keep no H1 H2 := by rw [← hH2]; exact .push
  have s2 : H2.size = H1.size + 1 := by rw [← hH2]; simp
  have k02 := k1.trans k2
  have hb12 := k2.at hb1 fun h => h
  simp only [ptrEq_nil_r, Option.isNone_some, Option.map_some, Gt_some, If_false]
  refine ⟨c46 (k02.at hC fun h => h) (SlC.keep hl k02 fun _ _ h => h) (hs.keep k02 fun _ _ h => h) (hd.keep k02 fun _ _ h => h) (hcl.keep k02 fun _ _ h => h) hsl hsp hn hp hpc hds hdl ?_⟩
  have rq : rda 8 (.pointer (some ⟨H.size, 0, none⟩)) H2 = some (.agg (rqA q)) := by
    rw [rda_ptr, rdn_at hb12 8 0 (by simp [rqA])]; rfl
  have eb : bdV z121 [(0, 1), (1, 8), (9, 1), (10, 1)] [(0, .int .i64 j), (1, .agg (rqA q)), (3, cl)] = some (.agg (clA j q (.pointer none) cl)) := by
    obtain ⟨a, c, e1⟩ := hcl.sl
    obtain ⟨a2, n2, c2, e2⟩ := hqs
    unfold clA rqA
    rw [e1, e2]; rfl
  simp only [unV_not, Bool.not_true, Gt_some, If_false, rq, eb]
  refine ⟨hrun H2 _ k02 fun es H3 hq3 => ?_⟩
  obtain ⟨h1, h2, N, h3, h4⟩ := hQ _ _ _ hq3
  have y0 : ∀ a b : Value, exV 0 (.tuple #[a, b]) = some a := fun _ _ => rfl
  have y1 : ∀ a b : Value, exV 1 (.tuple #[a, b]) = some b := fun _ _ => rfl
  have hb23 := h3.at hb2 fun hn => by have := h4 _ hn; omega
  obtain ⟨H5, q1, q2, q3, q4, q5⟩ := agg_new (H := H3) (t := 67) (n := 10) (z := z67) (es := es) rfl h1 (by decide) h2
  have g1 := stV1 (o := 1) (v := .int .i64 j) q4 (by omega) rfl rfl
  simp only [y0, y1, Gt_some, q1, binI_neq, bne0, If_false, faV_ptr, Nat.zero_add, g1]
  generalize hH6 : H5.setIfInBounds H3.size _ = H6
  have k6 : Keep (fun b => b = H3.size) H5 H6 := by rw [← hH6]; exact .set rfl
  have hb6 : H6[H3.size]? = some (.cells (es.setIfInBounds 1 (iv j)) 67 (0, 0)) := by rw [← hH6, get_set_eq (lt_of_get q4)]; rfl
  have hes : (es.setIfInBounds 1 (iv j)).size = 10 := by simpa using h1
  have hone : (es.setIfInBounds 1 (iv j)).toList.all Value.oneCell' = true := by
    rw [List.all_eq_true] at h2 ⊢
    intro x hx
    rw [Array.toList_setIfInBounds] at hx
    rcases List.mem_or_eq_of_mem_set hx with hx | hx
    · exact h2 x hx
    · subst hx; rfl
  have rd : rda 10 (.pointer (some ⟨H3.size, 0, none⟩)) H6 = some (.agg (es.setIfInBounds 1 (iv j))) := by
    rw [rda_ptr, rdn_at hb6 10 0 (by omega)]
    simp only [List.drop_zero, Option.map_some]
    rw [List.take_of_length_le (by simp; omega)]
  have hlt3 := lt_of_get hb23
  have hb26 := k6.at (q3.at hb23 fun h => h) (by omega)
  obtain ⟨H7, u1, u2, u3, _, _⟩ := agg_put (n := 10) (es := es.setIfInBounds 1 (iv j)) hb26 rfl hes (by decide) hone
  simp only [rd, Gt_some, u1, u2]
  have hs3 := k02.size
  have hlt2 := lt_of_get hb2
  exact hR H2 es H3 H7 k02 hq3 (((q3.mono fun _ _ h => h.elim).trans' k6 fun b e => .inr (by omega)).trans (u3.mono fun b _ e => by omega))
end
end Go.Proofs.YtdoimhpmnmmffaaGreat

/- Contracts of the laws of layer 21: a config, cells over a new disk. No condition but those in each statement. -/
namespace Go.Proofs.YtdoimhpmnmmffaaGreat
open Go IntWalk
variable {H : Heap} {R : Value → Heap → Prop} {X : List PanicEntry → Heap → Prop}

def acc1 : Acc := ⟨100, 2, 1, 1, 7⟩
theorem Own.toSc {z size n : Nat} {v : Value} {xs : List Value} (h : Own z size H v n xs) (h1 : xs.all Value.oneCell' = true) : Sc H size v n xs := by
  obtain ⟨a, c, e⟩ := h.isSl
  exact ⟨⟨a, c, e⟩, h.src, h.len, h1⟩
theorem c36 (hR : ∀ lx ax sx H', Keep no H H' → (∀ b, cfF lx ax sx b → b < H'.size) → CfRep H' lx ax sx [0] [acc1] [0] → R (cfV lx ax sx) H') : Runs Tryz.prog 36 [] H R X := by
  refine l36 ?_
  unfold i36
  have e1 : bsV 1 1 z155 [(0, .int .u64 0)] = some [.int .u64 0] := bsV_one rfl rfl
  have e2 : bdV z104 [(0, 1), (1, 1), (2, 1), (3, 1), (4, 1)] [(0, .int .i64 100), (1, .int .i64 2), (2, .int .i64 1), (3, .int .i64 1), (4, .int .i64 7)] = some (accV acc1) := rfl
  have e3 : bsV 5 1 z104 [(0, accV acc1)] = some (accC acc1) := by simp [bsV, filL, putL, accV, accC, Value.cells, z104]
  have e4 : bsV 1 1 z3 [(0, .int .i64 0)] = some [.int .i64 0] := bsV_one rfl rfl
  simp only [Nw_iff, e1, e2, e3, e4, Gt_some]
  generalize hH1 : H.push (.cells z26.cells 26 (0, 0)) = H1
  have hb1 : H1[H.size]? = some (.cells z26.cells 26 (0, 0)) := by rw [← hH1]; exact get_push_eq
  have k1 : Keep no H H1 := by rw [← hH1]; exact .push
  generalize hH2 : H1.push (.cells ([.int .u64 0] : List Value).toArray 155 (0, 0)) = H2
  have hb2 : H2[H1.size]? = some (.cells ([.int .u64 0] : List Value).toArray 155 (0, 0)) := by rw [← hH2]; exact get_push_eq
  have k2 : Keep no H1 H2 := by rw [← hH2]; exact .push
  generalize hH3 : H2.push (.cells (accC acc1).toArray 104 (0, 0)) = H3
  have hb3 : H3[H2.size]? = some (.cells (accC acc1).toArray 104 (0, 0)) := by rw [← hH3]; exact get_push_eq
  have k3 : Keep no H2 H3 := by rw [← hH3]; exact .push
  generalize hH4 : H3.push (.cells ([.int .i64 0] : List Value).toArray 3 (0, 0)) = H4
  have hb4 : H4[H3.size]? = some (.cells ([.int .i64 0] : List Value).toArray 3 (0, 0)) := by rw [← hH4]; exact get_push_eq
  have k4 : Keep no H3 H4 := by rw [← hH4]; exact .push
  have s1 := k1.size
  have s2 := k2.size
  have s3 := k3.size
  have l1 := lt_of_get hb1
  have l2 := lt_of_get hb2
  have l3 := lt_of_get hb3
  have l4 := lt_of_get hb4
  have e5 : bdV z26 [(0, 1), (1, 1), (2, 1)] [(0, .slice (some ⟨H1.size, 0, none⟩) 1 1), (1, .slice (some ⟨H2.size, 0, none⟩) 1 1), (2, .slice (some ⟨H3.size, 0, none⟩) 1 1)] = some (cfV (.slice (some ⟨H1.size, 0, none⟩) 1 1) (.slice (some ⟨H2.size, 0, none⟩) 1 1) (.slice (some ⟨H3.size, 0, none⟩) 1 1)) := rfl
  obtain ⟨H5, p1, p2, p3, p4, p5⟩ := agg_put (n := 3) (es := #[.slice (some ⟨H1.size, 0, none⟩) 1 1, .slice (some ⟨H2.size, 0, none⟩) 1 1, .slice (some ⟨H3.size, 0, none⟩) 1 1]) (((k2.trans k3).trans k4).at hb1 fun h => h) rfl rfl (by decide) (by rfl)
  unfold cfV at e5 hR
  simp only [e5, Gt_some, p1, p2]
  have b2 := p3.at ((k3.trans k4).at hb2 fun h => h) (by omega)
  have b3 := p3.at (k4.at hb3 fun h => h) (by omega)
  have b4 := p3.at hb4 (by omega)
  have o2 : Own 155 1 H5 (.slice (some ⟨H1.size, 0, none⟩) 1 1) 1 [.int .u64 0] := .blk _ _ _ _ _ b2 rfl (Nat.le_refl _) (by simp) rfl
  have o3 : Own 104 5 H5 (.slice (some ⟨H2.size, 0, none⟩) 1 1) 1 (accC acc1) := .blk _ _ _ _ _ b3 rfl (Nat.le_refl _) (by simp [accC]) rfl
  have o4 : Own 3 1 H5 (.slice (some ⟨H3.size, 0, none⟩) 1 1) 1 [.int .i64 0] := .blk _ _ _ _ _ b4 rfl (Nat.le_refl _) (by simp) rfl
  refine hR _ _ _ H5 ((((k1.trans k2).trans k3).trans k4).trans' p3 fun b e => .inr (by omega)) ?_ ⟨?_, ?_, ?_, o2.toSc rfl, o3.toSc rfl, o4.toSc rfl⟩
  · rintro b (h | h | h)
    · exact o2.lt h
    · exact o3.lt h
    · exact o4.lt h
  · exact Own.slc (z := 155) (css := [[.int .u64 0]]) o2 (by simp)
  · exact Own.slc (z := 104) (css := [accC acc1]) o3 (by simp [accC])
  · exact Own.slc (z := 3) (css := [[.int .i64 0]]) o4 (by simp)
def wrldA (lx ax sx : Value) (life : Int) (com : Value) : Array Value := #[lx, ax, sx, iv life, com, .slice none 0 0]
theorem c40 {lx ax sx : Value} {ls : List Nat} {life : Int} (hlx : lx.cells = #[lx] ∧ lx.oneCell' = true) (hax : ax.cells = #[ax] ∧ ax.oneCell' = true) (hsx : sx.cells = #[sx] ∧ sx.oneCell' = true) (hl : lnV lx = some (.int .i64 ls.length)) (hls : ls.length ≤ 1048576) (hsl : (∃ a n c, lx = .slice a n c) ∧ (∃ a n c, ax = .slice a n c) ∧ ∃ a n c, sx = .slice a n c)
    (hR : ∀ com H', Keep no H H' → com.oneCell' = true → (∃ a n c, com = .slice a n c) → R (.agg (wrldA lx ax sx life com)) H') : Runs Tryz.prog 40 [cfV lx ax sx, .int .i64 life] H R X := by
  refine l40 ?_
  unfold i40
  have hcc : (cfV lx ax sx).cells = #[lx, ax, sx] := rfl
  simp only [Nw_iff, hcc]
  generalize hH1 : H.push (.cells #[lx, ax, sx] 26 (0, 0)) = H1
  have hb1 : H1[H.size]? = some (.cells #[lx, ax, sx] 26 (0, 0)) := by rw [← hH1]; exact get_push_eq
  have k1 : Keep no H H1 := by rw [← hH1]; exact .push
  have s1 := k1.size
  generalize hH2 : H1.push (.cells z35.cells 35 (0, 0)) = H2
  have hb2 : H2[H1.size]? = some (.cells z35.cells 35 (0, 0)) := by rw [← hH2]; exact get_push_eq
  have k2 : Keep no H1 H2 := by rw [← hH2]; exact .push
  have hb12 := k2.at hb1 fun h => h
  have rd : rda 3 (.pointer (some ⟨H.size, 0, none⟩)) H2 = some (cfV lx ax sx) := by
    rw [rda_ptr, rdn_at hb12 3 0 (by simp)]; rfl
  have r0 : rdc H2 H.size 0 = some lx := by rw [rdc_of hb12]; rfl
  have em : mkV 24 (.int .i64 ls.length) (.int .i64 ls.length) = some (ls.length, ls.length) := by
    simp only [mkV]; rw [if_pos (by omega)]; simp
  simp only [rd, faV_ptr, Nat.zero_add, Gt_some, rdv_ptr, r0, hl, em, Nw_iff]
  generalize hH3 : H2.push (.cells (mkC 1 z58 ls.length) 58 (0, 0)) = H3
  have k3 : Keep no H2 H3 := by rw [← hH3]; exact .push
  have eb : bdV z35 [(0, 3), (3, 1), (4, 1), (5, 1)] [(0, cfV lx ax sx), (1, .int .i64 life), (2, .slice (some ⟨H2.size, 0, none⟩) ls.length ls.length)] = some (.agg (wrldA lx ax sx life (.slice (some ⟨H2.size, 0, none⟩) ls.length ls.length))) := by
    obtain ⟨⟨_, _, _, h1⟩, ⟨_, _, _, h2⟩, ⟨_, _, _, h3⟩⟩ := hsl
    rw [h1, h2, h3]; rfl
  have l2 := lt_of_get hb2
  obtain ⟨H4, p1, p2, p3, _, _⟩ := agg_put (n := 6) (es := wrldA lx ax sx life (.slice (some ⟨H2.size, 0, none⟩) ls.length ls.length)) (k3.at hb2 fun h => h) rfl rfl (by decide) (by simp only [wrldA, List.all_cons, List.all_nil, hlx.2, hax.2, hsx.2]; rfl)
  simp only [eb, Gt_some, p1, p2]
  exact hR _ H4 (((k1.trans k2).trans k3).trans' p3 fun b e => .inr (by omega)) rfl ⟨_, _, _, rfl⟩

theorem Own.ptr1 {C : Nat} {v : Value} (h : Own 55 1 H v 1 [ptO C]) : PtSl H v [some C] := by
  refine Own.ptsl (t := 55) (n := 1) ?_
  exact h
def OpI (H : Heap) (b0 : Nat) (D P : Nat) (ps : List Part) (a : Acc) (l : Nat) (x y : Value) (H1 : Heap) : Prop :=
  (y = .int .i64 0 ∧ x = .slice (some ⟨b0, 0, none⟩) 0 0 ∧ H1 = H) ∨ (y = .int .i64 1 ∧ ∃ C H2, Keep no H H2 ∧ NewCell H H2 C D P ps false 0 [l] [a] [0] a l 1 ∧ Keep no H2 H1 ∧ Own 55 1 H1 x 1 [ptO C] ∧ ∀ b, ob x b → H2.size ≤ b)
theorem ap_zero {z size bytes b : Nat} {zero : Value} {c : List Value} {K : Value → Heap → Prop} (hc : c.length = size) (hone : c.all Value.oneCell' = true) (hz : zero.cells.size = size) (hfit : bytes ≤ 140737488355328)
    (hK : ∀ v H', Keep no H H' → (∀ b, ob v b → H.size ≤ b) → Own z size H' v 1 c → K v H') :
    Ap z size bytes zero (.slice (some ⟨b, 0, none⟩) 0 0) (.slice (some ⟨H.size, 0, none⟩) 1 1) (H.push (.cells c.toArray z (0, 0))) K := by
  have hb : (H.push (.cells c.toArray z (0, 0)))[H.size]? = some (.cells c.toArray z (0, 0)) := get_push_eq
  have hsrc : srcC size (.slice (some ⟨H.size, 0, none⟩) 1 1) (H.push (.cells c.toArray z (0, 0))) = some (1, c) := by
    simp only [srcC, rdn_at hb (1 * size) 0 (by simp [hc])]
    simp [← hc]
  refine ⟨some ⟨b, 0, none⟩, 0, 0, 1, c, rfl, hsrc, fun hr => absurd hr (by decide), fun hg => ⟨growslice_fits hg (by omega), [], by simp [srcB, rdn], fun cap hcap => ?_⟩⟩
  refine hK _ _ (Keep.push.trans .push) (fun b hb => ?_) ?_
  · obtain ⟨_, _, _, he⟩ := hb; cases he; simp
  · refine .blk _ _ _ _ _ get_push_eq (by simpa using hc) hcap ?_ ?_
    · simp only [Array.size_append, List.size_toArray, List.length_nil, size_zeroCells, hz, hc]
      have : cap * size = 1 * size + (cap - (0 + 1)) * size := by rw [← Nat.add_mul]; congr 1; omega
      omega
    · simp [← hc]
/-- a new cell stays, whatever is newer -/
theorem c30 {D P : Nat} {ps : List Part} (h : DkRep H D P ps false) (hps : ps.length = 1) (ha : ∀ hi : 0 < ps.length, ArRep H ps[0].area ⟨0, [], 0⟩ (.slice none 0 0)) {lx ax sx : Value} {l : Nat} {a : Acc} (hc : CfRep H lx ax sx [l] [a] [0]) (hok : AccOk a)
    (hR : ∀ x C H1 H2 H', Keep no H H1 → Keep no H1 H2 → NewCell H1 H2 C D P ps false 0 [l] [a] [0] a l 1 → Keep no H2 H' → Own 55 1 H' x 1 [ptO C] → (∀ b, ob x b → H2.size ≤ b) → R (.tuple #[x, .int .i64 0]) H') : Runs Tryz.prog 30 [cfV lx ax sx, .int .i64 1, ptO D] H R X := by
  refine l30 ?_
  unfold i30
  have hcc : (cfV lx ax sx).cells = #[lx, ax, sx] := rfl
  have e0 : bsV 1 0 z55 [] = some [] := by simp [bsV, filL]
  simp only [Nw_iff, hcc, e0, Gt_some]
  generalize hH1 : H.push (.cells #[lx, ax, sx] 26 (0, 0)) = H1
  have hb1 : H1[H.size]? = some (.cells #[lx, ax, sx] 26 (0, 0)) := by rw [← hH1]; exact get_push_eq
  have k1 : Keep no H H1 := by rw [← hH1]; exact .push
  generalize hH2 : H1.push (.cells ([] : List Value).toArray 55 (0, 0)) = H2
  have hb2 : H2[H1.size]? = some (.cells ([] : List Value).toArray 55 (0, 0)) := by rw [← hH2]; exact get_push_eq
  have k2 : Keep no H1 H2 := by rw [← hH2]; exact .push
  have k02 := k1.trans k2
  have hb12 := k2.at hb1 fun h => h
  have s1 := k1.size
  have s2 := k2.size
  have l1 := lt_of_get hb1
  have l2 := lt_of_get hb2
  have r0 : rdc H2 H.size 0 = some lx := by rw [rdc_of hb12]; rfl
  have rd : rda 3 (.pointer (some ⟨H.size, 0, none⟩)) H2 = some (cfV lx ax sx) := by
    rw [rda_ptr, rdn_at hb12 3 0 (by simp)]; rfl
  have hln : lnV lx = some (.int .i64 1) := by have := labLen hc.l; simpa using this
  simp only [faV_ptr, Nat.zero_add, Gt_some, rdv_ptr, r0, hln]
  refine ⟨fun (x y : Value) (H3 : Heap) => OpI H2 H1.size D P ps a l x y H3, fun (_ y : Value) (_ : Heap) => decr 1 y, .inl ⟨rfl, rfl, rfl⟩, ?_⟩
  rintro H3 x y (⟨rfl, rfl, rfl⟩ | ⟨rfl, C, H4, k4, nc, k34, ox, fx⟩)
  · have e1 : decide ((0 : Int) < 1) = true := rfl
    simp only [binI_lss, e1, Gt_some, If_true, rd]
    have hps0 : 0 < ps.length := by omega
    refine ⟨c64e (i := 0) (h.keep k02 (fun h => h) fun h => h) hps0 ((ha hps0).keep k02 fun _ _ h => h) (hc.keep k02 fun _ _ h => h) rfl (by simpa using hps) (by simp) (by simp) (fun a' ha' => by simp at ha'; subst ha'; exact hok) (fun s hs => by simp at hs; subst hs; simp) (fun H1 R1 hx hr => c161 hx (hr H1 (.refl _))) ⟨by decide, by decide⟩ (by simp) (by simp) fun C H4 k4 hC nc => ?_⟩
    have y0 : ∀ a b : Value, exV 0 (.tuple #[a, b]) = some a := fun _ _ => rfl
    have y1 : ∀ a b : Value, exV 1 (.tuple #[a, b]) = some b := fun _ _ => rfl
    have e2 : bsV 1 1 z55 [(0, ptO C)] = some [ptO C] := bsV_one rfl rfl
    unfold ptO at e2
    unfold ptO
    simp only [y0, y1, Gt_some, binI_neq, bne0, If_false, ptrEq_nil_r, Option.isNone_some, Option.map_some, e2, Nw_iff]
    have e6 : IntKind.i64.wrap ((0 : Int) + 1) = 1 := rfl
    refine ap_zero rfl (by rfl) rfl (by decide) fun w H5 k5 f5 o5 => ?_
    simp only [binI_add, e6, Gt_some]
    exact ⟨.inr ⟨rfl, C, H4, k4, nc, k5, o5, f5⟩, by show decr 1 _ < decr 1 _; decide⟩
  · have e1 : decide ((1 : Int) < 1) = false := rfl
    simp only [binI_lss, e1, Gt_some, If_false]
    exact hR x C H2 H4 H3 k02 k4 nc k34 ox fx
end Go.Proofs.YtdoimhpmnmmffaaGreat

/- The laws of layer 21: one cell over a new disk. No condition but those in each statement. -/
namespace Go.Proofs.YtdoimhpmnmmffaaGreat
open Go IntWalk
variable {H : Heap} {R : Value → Heap → Prop} {X : List PanicEntry → Heap → Prop}

structure CvR where
  lx : Value
  ax : Value
  sx : Value
  dv : Value
  cl : Value
  C : Nat
  S : Nat
  M : Nat
  K : Nat
  A : Nat
  L : Nat
  T : Nat
  G1 : Nat
  G2 : Nat
  D : Nat
  P : Nat
  area : Nat
  n0 : Nat
  n9 : Nat
  n1 : Nat
  ms : List MI
def CvR.obj (c : CvR) : Obj := clO c.lx c.ax c.sx c.dv 0 (ptO c.S) (ptO c.K) (ptO c.A) (ptO c.L) (ptO c.T)
structure HsA (c : CvR) (H : Heap) : Prop where
  cell : H[c.C]? = some c.obj
  cf : CfRep H c.lx c.ax c.sx [0] [acc1] [0]
  dv : OI H c.dv [0]
  so : SoRep H c.S c.M []
  k : H[c.K]? = some (ckO 7 1)
  l : H[c.L]? = some (lgO c.D 0)
  dk : DkRep H c.D c.P [nPart c.area] false
  ar : ArRep H c.area ⟨0, [], 0⟩ (.slice none 0 0)
  cl : Own 55 1 H c.cl 1 [ptO c.C]
def hsF (c : CvR) (b : Nat) : Prop := b = c.C ∨ cfF c.lx c.ax c.sx b ∨ ob c.dv b ∨ stF c.S c.M [] b ∨ b = c.K ∨ b = c.L ∨ b = c.D ∨ b = c.P ∨ b = c.area ∨ ob c.cl b
structure HsO (c : CvR) : Prop where
  d : c.D < c.n0 ∧ c.P < c.n0 ∧ c.area < c.n0 ∧ c.n0 ≤ c.C
  cf : ∀ b, cfF c.lx c.ax c.sx b ∨ ob c.dv b → c.n0 ≤ b ∧ b < c.C
  cl : c.C < c.L
  st : ∀ b, stF c.S c.M [] b → c.L < b ∧ b < c.K
  ka : c.K < c.A
  tb : ∀ b, tbF c.T c.G1 c.G2 c.ms b → c.A < b ∧ b < c.n9
  ob : ∀ b, ob c.cl b → c.n9 ≤ b ∧ b < c.n1
  n : c.n9 ≤ c.n1
  ms : c.ms.length = 1 ∧ ∀ m ∈ c.ms, m.2 = []
theorem HsA.keep {c : CvR} {N : Nat → Prop} {H' : Heap} (h : HsA c H) (k : Keep N H H') (hN : ∀ b, hsF c b → ¬ N b) : HsA c H' :=
  ⟨k.at h.cell (hN _ (.inl rfl)), h.cf.keep k fun b hb => hN b (.inr (.inl hb)), h.dv.keep k fun b hb => hN b (.inr (.inr (.inl hb))), h.so.keep k fun b hb => hN b (.inr (.inr (.inr (.inl hb)))), k.at h.k (hN _ (.inr (.inr (.inr (.inr (.inl rfl)))))),
   k.at h.l (hN _ (.inr (.inr (.inr (.inr (.inr (.inl rfl))))))), h.dk.keep k (hN _ (.inr (.inr (.inr (.inr (.inr (.inr (.inl rfl)))))))) (hN _ (.inr (.inr (.inr (.inr (.inr (.inr (.inr (.inl rfl))))))))),
   h.ar.keep k (fun b hb => by
     rcases hb with rfl | hb
     · exact hN _ (.inr (.inr (.inr (.inr (.inr (.inr (.inr (.inr (.inl rfl)))))))))
     · exact (ob_nil hb).elim), h.cl.keep k fun b hb => hN b (.inr (.inr (.inr (.inr (.inr (.inr (.inr (.inr (.inr hb))))))))) ⟩
theorem HsO.far {c : CvR} (o : HsO c) : ∀ b, hsF c b → b < c.A ∨ (c.n9 ≤ b ∧ b < c.n1) := by
  have h1 := o.d
  have h2 := o.cl
  have h3 := o.ka
  have h4 := o.st c.S (.inl rfl)
  rintro b (rfl | hb | hb | hb | rfl | rfl | rfl | rfl | rfl | hb)
  · omega
  · have := o.cf b (.inl hb); omega
  · have := o.cf b (.inr hb); omega
  · have := o.st b hb; omega
  · omega
  · omega
  · omega
  · omega
  · omega
  · have := o.ob b hb; omega
theorem HsO.A9 {c : CvR} (o : HsO c) : c.A < c.n9 := by have := o.tb c.T (.inl rfl); omega
theorem HsA.keepN {c : CvR} (o : HsO c) {N : Nat → Prop} {H' : Heap} (h : HsA c H) (k : Keep N H H') (hN : ∀ b, N b → b = c.A ∨ tbF c.T c.G1 c.G2 c.ms b ∨ c.n1 ≤ b) : HsA c H' := by
  refine h.keep k fun b hb hn => ?_
  have h1 := o.far b hb
  have h9 := o.A9
  have hn9 := o.n
  rcases hN b hn with h | h | h
  · omega
  · have := o.tb b h; omega
  · omega

def runA (lx ax sx : Value) (D : Nat) (cl : Value) (w : Array Value) : Array Value := #[lx, ax, sx, ptO D, cl] ++ w
theorem down0 : downL 0 [0] 0 = [0] := by decide
theorem c10 {lx ax sx : Value} (hc : CfRep H lx ax sx [0] [acc1] [0]) (hcf : ∀ b, cfF lx ax sx b → b < H.size)
    (hR : ∀ (c : CvR) (com : Value) (H' : Heap), Keep no H H' → HsO c → HsA c H' → TbRep H' c.T 1 c.G1 c.G2 c.ms [0] → H'[c.A]? = some (acO 100 2 0 0 0) → c.n1 ≤ H'.size → com.oneCell' = true → (∀ b, b = c.D ∨ b = c.P ∨ b = c.area ∨ c.n0 ≤ b → H.size ≤ b) → R (.tuple #[.agg (runA lx ax sx c.D c.cl (wrldA lx ax sx 1 com)), .bool true]) H') : Runs Tryz.prog 10 [cfV lx ax sx] H R X := by
  refine l10 ?_
  unfold i10
  have hcc : (cfV lx ax sx).cells = #[lx, ax, sx] := rfl
  simp only [Nw_iff, hcc]
  generalize hH1 : H.push (.cells #[lx, ax, sx] 26 (0, 0)) = H1
  have hb1 : H1[H.size]? = some (.cells #[lx, ax, sx] 26 (0, 0)) := by rw [← hH1]; exact get_push_eq
  have k1 : Keep no H H1 := by rw [← hH1]; exact .push
  have s1 := k1.size
  generalize hH2 : H1.push (.cells z37.cells 37 (0, 0)) = H2
  have hb2 : H2[H1.size]? = some (.cells z37.cells 37 (0, 0)) := by rw [← hH2]; exact get_push_eq
  have k2 : Keep no H1 H2 := by rw [← hH2]; exact .push
  have l2 := lt_of_get hb2
  have k02 := k1.trans k2
  have hb12 := k2.at hb1 fun h => h
  have rd : ∀ {H'}, Keep no H2 H' → rda 3 (.pointer (some ⟨H.size, 0, none⟩)) H' = some (cfV lx ax sx) := fun kk => by
    rw [rda_ptr, rdn_at (kk.at hb12 fun h => h) 3 0 (by simp)]; rfl
  have r0 : rdc H2 H.size 0 = some lx := by rw [rdc_of hb12]; rfl
  have hln : lnV lx = some (.int .i64 ((1 : Nat) : Int)) := by have := labLen hc.l; simpa using this
  simp only [faV_ptr, Nat.zero_add, Gt_some, rdv_ptr, r0, hln]
  refine ⟨c39 ⟨by decide, by decide⟩ fun D P al H3 k3 hD hP hal hal2 _ dk3 ar3 => ?_⟩
  obtain ⟨area, rfl⟩ : ∃ x, al = [x] := by
    match al, hal with
    | [x], _ => exact ⟨x, rfl⟩
  have y0 : ∀ a b : Value, exV 0 (.tuple #[a, b]) = some a := fun _ _ => rfl
  have y1 : ∀ a b : Value, exV 1 (.tuple #[a, b]) = some b := fun _ _ => rfl
  have k03 := k02.trans k3
  have ar3' := ar3 area (by simp)
  have ha2 := hal2 area (by simp)
  have rd3 := rd k3
  unfold ptO
  simp only [y0, y1, Gt_some, binI_neq, bne0, ptrEq_nil_r, Option.isNone_some, Option.map_some, Option.bind_some, ifO_false, If_false, rd3]
  refine ⟨c30 dk3 rfl (fun _ => ar3') (hc.keep k03 fun _ _ h => h) ⟨by decide, by decide, by decide, by decide, by decide⟩ fun x C Ha Hb H5 ka kb nc kc ox fx => ?_⟩
  have k35 := (ka.trans kb).trans kc
  have rd5 := rd (k3.trans k35)
  have e1 : ((0 : Int) == 0) = true := rfl
  simp only [y0, y1, Gt_some, rd5, binI_eql, e1]
  obtain ⟨lx', ax', sx', dv, S, M, K, A, L, T, G1, G2, ms, n1, n2, n3, n4, n5, n6, n7, n8, n9, n10, o1, o2, o3, o4, o5, o6⟩ := nc.ex
  refine ⟨c40 (ls := [0]) hc.lsc.onec hc.asc.onec hc.ssc.onec (by simpa using hln) (by simp) ⟨?_, ?_, ?_⟩ fun com H6 k6 hcom hcsl => ?_⟩
  · obtain ⟨a, c, e⟩ := hc.lsc.sl; exact ⟨_, _, _, e⟩
  · obtain ⟨a, c, e⟩ := hc.asc.sl; exact ⟨_, _, _, e⟩
  · obtain ⟨a, c, e⟩ := hc.ssc.sl; exact ⟨_, _, _, e⟩
  have rd6 := rd ((k3.trans k35).trans k6)
  have hb26 := ((k3.trans k35).trans k6).at hb2 fun h => h
  have eb : bdV z37 [(0, 3), (3, 1), (4, 1), (5, 6)] [(0, cfV lx ax sx), (1, ptO D), (2, x), (3, .agg (wrldA lx ax sx 1 com))] = some (.agg (runA lx ax sx D x (wrldA lx ax sx 1 com))) := by
    obtain ⟨_, _, h1⟩ := hc.lsc.sl
    obtain ⟨_, _, h2⟩ := hc.asc.sl
    obtain ⟨_, _, h3⟩ := hc.ssc.sl
    obtain ⟨_, _, h4⟩ := ox.isSl
    obtain ⟨_, _, _, h5⟩ := hcsl
    rw [h1, h2, h3, h4, h5]; rfl
  obtain ⟨H7, p1, p2, p3, p4, p5⟩ := agg_put (n := 11) (es := runA lx ax sx D x (wrldA lx ax sx 1 com)) hb26 rfl rfl (by decide) (by
    simp only [runA, wrldA, Array.toList_append, List.all_append, List.all_cons, List.all_nil, hc.lsc.onec.2, hc.asc.onec.2, hc.ssc.onec.2, ox.one.2, hcom]; rfl)
  unfold ptO at eb
  simp only [rd6, Sm_some, eb, Gt_some, p1, p2]
  have s3 := k3.size
  have sa := ka.size
  have sb := kb.size
  have sc := kc.size
  have s6 := k6.size
  have kB7 : Keep (fun b => b = H1.size) Hb H7 := ((kc.trans k6).mono fun _ _ h => h.elim).trans p3
  have k37 : Keep (fun b => b = H1.size) H3 H7 := ((k35.trans k6).mono fun _ _ h => h.elim).trans p3
  have q : ∀ b, Ha.size ≤ b → b ≠ H1.size := fun b hb => by omega
  have hne : C ≠ H1.size ∧ K ≠ H1.size ∧ L ≠ H1.size ∧ A ≠ H1.size ∧ D ≠ H1.size ∧ P ≠ H1.size := by have := o4 S (.inl rfl); have := ha2; omega
  let c : CvR := ⟨lx', ax', sx', dv, x, C, S, M, K, A, L, T, G1, G2, D, P, area, Ha.size, Hb.size, H5.size, ms⟩
  have hsub : ∀ b, ob x b → Hb.size ≤ b ∧ b < H5.size := fun b hb => ⟨fx b hb, ox.lt hb⟩
  have hstp := o4 S (.inl rfl)
  have hD3 := lt_of_get dk3.blk
  have hP3 : P < H3.size := by obtain ⟨cs, h1, _⟩ := dk3.parts; exact lt_of_get h1
  have ha3 := lt_of_get ar3'.blk
  refine hR c com H7 ((((k03.trans k35).trans k6)).trans' p3 fun b e => .inr (by omega)) ⟨⟨by show D < Ha.size; omega, by show P < Ha.size; omega, by show area < Ha.size; omega, o1⟩, o2, o3, o4, o5, o6, hsub, by show Hb.size ≤ H5.size; omega, by simpa using n9, n10⟩ ?_ ?_ (kB7.at n6 hne.2.2.2.1) (by show H5.size ≤ H7.size; omega) hcom ?_
  · refine ⟨kB7.at n1 hne.1, n2.keep kB7 fun b hb => q b (o2 b (.inl hb)).1, ?_, n4.keep kB7 fun b hb => by have := o4 b hb; exact q b (by omega), kB7.at n5 hne.2.1, kB7.at n7 hne.2.2.1, dk3.keep k37 hne.2.2.2.2.1 hne.2.2.2.2.2, ar3'.keep k37 (fun b hb => ?_), (ox.keep k6 fun _ _ h => h).keep p3 fun b hb => by have := hsub b hb; omega⟩
    · have := n3.keep kB7 fun b hb => q b (o2 b (.inr hb)).1
      rw [down0] at this; exact this
    · rcases hb with rfl | hb
      · omega
      · exact (ob_nil hb).elim
  · exact n8.keep kB7 fun b hb => by have := o6 b hb; exact q b (by omega)
  · rintro b (e | e | e | hb)
    · have e : b = D := e
      omega
    · have e : b = P := e
      omega
    · have e : b = area := e
      omega
    · have hb : Ha.size ≤ b := hb
      omega
end Go.Proofs.YtdoimhpmnmmffaaGreat

/- The laws of layer 21: a Begin, a Put, a Commit of one cell. No condition but those in each statement. -/
namespace Go.Proofs.YtdoimhpmnmmffaaGreat
open Go IntWalk
variable {H : Heap} {R : Value → Heap → Prop} {X : List PanicEntry → Heap → Prop}

abbrev nilS : Value := .slice none 0 0
def keyA : ByteArray := ⟨#[97]⟩
def rq1 : Rq := ⟨1, 0, 0, 0, zstr, zstr, nilS, 0⟩
def rq2 (v : Value) : Rq := ⟨4, 1, 1, 0, keyA, zstr, v, 0⟩
def rq3 : Rq := ⟨6, 1, 1, 0, zstr, zstr, nilS, 0⟩
def es1 : Array Value := rsA 0 0 1 1 false nilS nilS false 0
def es2 : Array Value := rsA 0 0 0 0 false nilS nilS false 0
def es3 : Array Value := rsA 0 0 0 0 false nilS nilS false 8
section
variable {c : CvR} {m : MI}
structure Q1 (c : CvR) (m : MI) (H1 : Heap) (es : Array Value) (e : Int) (H2 : Heap) : Prop where
  e : e = 0
  es : es = es1
  keep : Keep (fun b => b = c.A ∨ tbF c.T c.G1 c.G2 c.ms b) H1 H2
  acc : H2[c.A]? = some (acO 100 2 0 0 1)
  tx : ∃ B sv W M, (∀ b, txF B sv W M [] b → H1.size ≤ b) ∧ TxRep H2 B 0 sv [7] W M [] false ∧ TbRep H2 c.T 1 c.G1 c.G2 [(m.1, [(1, ptO B)])] [1]
theorem tbF1 (hm : c.ms = [m]) {kvs : List (Int × Value)} {b : Nat} : tbF c.T c.G1 c.G2 [(m.1, kvs)] b ↔ tbF c.T c.G1 c.G2 c.ms b := by
  rw [hm]; simp [tbF]
theorem Q1.grow (o : HsO c) (hm : c.ms = [m]) {H0 H1 H2 H3 : Heap} {es : Array Value} {e : Int} (h : Q1 c m H1 es e H2) (hn : c.n1 ≤ H0.size) (k0 : Keep no H0 H1) (k3 : Keep (fun b => H0.size ≤ b ∧ b < H1.size) H2 H3) : Q1 c m H0 es e H3 := by
  obtain ⟨B, sv, W, M, h1, h2, h3⟩ := h.tx
  have s0 := k0.size
  have h9 := o.A9
  have hn9 := o.n
  refine ⟨h.e, h.es, ((k0.mono fun _ _ h => h.elim).trans h.keep).trans' k3 fun b hb => .inr hb.1, k3.at h.acc (by omega), B, sv, W, M, fun b hb => by have := h1 b hb; omega, h2.keep k3 fun b hb hb' => by have := h1 b hb; omega, h3.keep k3 fun b hb hb' => ?_⟩
  have := o.tb b ((tbF1 hm).1 hb); omega

theorem do1 (o : HsO c) (hm : c.ms = [m]) (h : HsA c H) (tb : TbRep H c.T 1 c.G1 c.G2 c.ms [0]) (ha : H[c.A]? = some (acO 100 2 0 0 0)) (hn : c.n1 ≤ H.size) (hR : ∀ H', Q1 c m H es1 0 H' → R (.tuple #[.agg es1, .int .i64 0]) H') :
    Runs Tryz.prog 19 [ptO c.C, .int .i64 0, .agg (rqA rq1), c.cl] H R X := by
  have hm2 : m.2 = [] := o.ms.2 m (by rw [hm]; simp)
  have hcl := h.cl.ptr1
  have obdv : ∀ b, ob c.dv b → b < c.C := fun b hb => (o.cf b (.inr hb)).2
  have h9 := o.A9
  have hn9 := o.n
  have hd0 := o.d
  have hst := o.st c.S (.inl rfl)
  have hcL := o.cl
  have hka := o.ka
  refine c19 (j := 0) (p := 0) (Q := Q1 c m) h.cell h.cf.l h.cf.s h.dv.sl hcl (by simp) rfl rfl (by simp) rfl (fun d hd => ?_) (by simp) rfl ⟨_, _, _, rfl⟩ (fun H1 R1 k1 hr1 => ?_) (fun H1 es H2 hq => ?_) (fun H1 es H2 H3 k1 hq k3 => ?_)
  · simp only [List.mem_singleton] at hd
    subst hd
    exact ⟨by decide, c.C, rfl⟩
  · have s1 := k1.size
    refine c47b (Q := Q1 c m) rfl rfl (fun H2 R2 k2 hs hr2 => ?_) (fun H2 es H3 hq => ?_) (fun H2 es H3 H4 k2 hq k4 => hr1 es H4 (hq.grow o hm (by omega) k2 k4))
    · have k02 := k1.trans k2
      have h2 := h.keep k02 fun _ _ h => h
      refine c81 (kc := fun _ => c.K) (now := fun _ => 7) (g := 0) (life := 1) h2.cell (k02.at ha fun h => h) ⟨by decide, by decide⟩ h2.dv.sl h2.cl.ptr1 (by simp) (by simp) (fun d hd => ?_) (by simp) (fun _ => ?_) (tb.keep k02 fun _ _ h => h) (by rw [hm]; simp) rfl (fun z hz => ?_) ⟨by decide, by decide⟩ (fun hb => ?_) (fun hb => ?_) rfl rfl (fun hbad => by omega) (fun _ H3 hb => ?_)
      · simp only [List.mem_singleton] at hd
        subst hd
        exact ⟨by decide, c.C, rfl, ⟨_, _, _, _, _, _, _, _, _, h2.cell⟩, 1, h2.k⟩
      · show (0 : Int) ≤ 7; decide
      · have : c.ms[0]'(by rw [hm]; simp) = m := by simp [hm]
        rw [this, hm2] at hz; cases hz
      · have := obdv _ hb; omega
      · have := o.ob _ hb; omega
      · obtain ⟨B, sv, W, M, f1, f2, f3⟩ := hb.tx
        refine hr2 es1 H3 ⟨rfl, rfl, hb.keep, hb.acc, B, sv, W, M, f1, f2, ?_⟩
        have : (c.ms.set 0 ((c.ms[0]?.getD default).1, (c.ms[0]?.getD default).2 ++ [((0 : Int) + 1, ptO B)])) = [(m.1, [(1, ptO B)])] := by
          rw [hm]; simp [hm2]
        rw [this] at f3
        exact f3
    · refine ⟨by rw [hq.es]; rfl, by rw [hq.es]; rfl, _, hq.keep, ?_⟩
      rintro b (rfl | hb)
      · omega
      · have := o.tb b hb; omega
  · refine ⟨by rw [hq.es]; rfl, by rw [hq.es]; rfl, _, hq.keep, ?_⟩
    rintro b (rfl | hb)
    · omega
    · have := o.tb b hb; omega
  · have hq' := hq.grow o hm hn k1 k3
    have e1 : es.setIfInBounds 1 (iv ((0 : Nat) : Int)) = es1 := by rw [hq.es]; rfl
    rw [e1]
    exact hR H3 ⟨rfl, rfl, hq'.keep, hq'.acc, hq'.tx⟩

variable {B W M : Nat} {sv : Value}
theorem do2 (o : HsO c) (hm : c.ms = [m]) (h : HsA c H) (htx : TxRep H B 0 sv [7] W M [] false) (tb : TbRep H c.T 1 c.G1 c.G2 [(m.1, [(1, ptO B)])] [1]) (ha : H[c.A]? = some (acO 100 2 0 0 1)) (hn : c.n1 ≤ H.size) {v : Value} (hv : Bs H v [1]) (hvA : ∀ b, ob v b → b ≠ c.A)
    (hR : ∀ H', PutP H H' 0 B 0 sv [7] W M [] false c.A 100 2 0 0 1 keyA [1] → R (.tuple #[.agg es2, .int .i64 0]) H') :
    Runs Tryz.prog 19 [ptO c.C, .int .i64 0, .agg (rqA (rq2 v)), c.cl] H R X := by
  have hcl := h.cl.ptr1
  have hv1 := hv.one.2
  have hvs : ∃ a n c, v = .slice a n c := by obtain ⟨a, c, e⟩ := hv.sl; exact ⟨_, _, _, e⟩
  have h9 := o.A9
  have hn9 := o.n
  have hlt := htx.lt
  have hAl := lt_of_get ha
  have eP : ∀ (x : Prop) [Decidable x], ¬ x → putE false 0 ([7] : List Int).length 0 keyA.size ([1] : List UInt8).length x = 0 := by
    intro x _ hx
    unfold putE
    rw [if_neg (by decide), if_neg (by decide), if_neg (by decide), if_neg (by decide), if_neg (by decide), if_neg hx]
  have hno : ¬ ((100 : Int) < 0 + 0 - (wtW [] keyA : Nat) + (keyA.size + ([1] : List UInt8).length : Nat)) := by decide
  have eQ := eP _ hno
  refine c19 (j := 0) (p := 0) (q := rq2 v) (Q := fun H1 es e H2 => e = 0 ∧ es = es2 ∧ PutP H1 H2 0 B 0 sv [7] W M [] false c.A 100 2 0 0 1 keyA [1]) h.cell h.cf.l h.cf.s h.dv.sl hcl (by simp) rfl rfl (by simp) rfl (fun d hd => ?_) (by simp) hv1 hvs (fun H1 R1 k1 hr1 => ?_) (fun H1 es H2 hq => ?_) (fun H1 es H2 H3 k1 hq k3 => ?_)
  · simp only [List.mem_singleton] at hd
    subst hd
    exact ⟨by decide, c.C, rfl⟩
  · have s1 := k1.size
    have h1 := h.keep k1 fun _ _ h => h
    refine c47x (fk := 135) (g := 1) (life := 1) (t := ptO B) (Q := fun H1 es e H2 => e = 0 ∧ es = es2 ∧ PutP H1 H2 0 B 0 sv [7] W M [] false c.A 100 2 0 0 1 keyA [1]) h1.cell (.inl ⟨rfl, rfl⟩) hv1 (tb.keep k1 fun _ _ h => h) (by simp) rfl (by rfl) (by rfl) ⟨rfl, rfl⟩ (fun H2 R2 k2 hr2 => ?_) (fun H2 es e H3 hq => ?_) (fun H2 es e H3 H4 k2 hq k4 => ?_)
    · have k02 := k1.trans k2
      have h2 := h.keep k02 fun _ _ h => h
      refine c135 (q := rq2 v) h2.cell h2.cf.l (htx.keep k02 fun _ _ h => h) rfl (k02.at ha fun h => h) (by simp) (by simp [wtW]) ⟨by decide, by decide, by decide⟩ (hv.keep k02 fun _ _ h => h) hvA h.cl.one.2 (fun hbad => absurd ⟨Int.le_refl _, by show (0 : Int) < 1; decide⟩ hbad) (fun _ H3 hp => ?_)
      have hp' : PutP H2 H3 (putE false 0 ([7] : List Int).length 0 keyA.size ([1] : List UInt8).length ((100 : Int) < 0 + 0 - (wtW [] keyA : Nat) + (keyA.size + ([1] : List UInt8).length : Nat))) B 0 sv [7] W M [] false c.A 100 2 0 0 1 keyA [1] := hp
      show R2 (.tuple #[rs0 (putE false 0 ([7] : List Int).length 0 keyA.size ([1] : List UInt8).length ((100 : Int) < 0 + 0 - (wtW [] keyA : Nat) + (keyA.size + ([1] : List UInt8).length : Nat))), .int .i64 0]) H3
      rw [eQ] at hp' ⊢
      exact hr2 es2 0 H3 ⟨rfl, rfl, hp'⟩
    · obtain ⟨rfl, rfl, hp⟩ := hq
      rcases hp with ⟨hbad, _⟩ | ⟨_, u, hk, _⟩
      · exact absurd rfl hbad
      · refine ⟨rfl, rfl, _, hk, ?_⟩
        rintro b (rfl | rfl | rfl)
        · have := hlt _ (.inr (.inr (.inl rfl))); omega
        · have := hlt _ (.inr (.inr (.inr (.inl rfl)))); omega
        · omega
    · obtain ⟨rfl, rfl, hp⟩ := hq
      exact hr1 es2 H4 ⟨rfl, rfl, hp.grow k2 k4 (fun b hb => hb) (fun b hb => by have := hlt b hb; omega) (by omega)⟩
  · obtain ⟨_, rfl, hp⟩ := hq
    rcases hp with ⟨hbad, _⟩ | ⟨_, u, hk, _⟩
    · exact absurd rfl hbad
    · refine ⟨rfl, rfl, _, hk, ?_⟩
      rintro b (rfl | rfl | rfl)
      · exact hlt _ (.inr (.inr (.inl rfl)))
      · exact hlt _ (.inr (.inr (.inr (.inl rfl))))
      · exact hAl
  · obtain ⟨_, rfl, hp⟩ := hq
    exact hR H3 (hp.grow k1 k3 (fun b hb => hb) hlt hAl)
/-- what the commit leaves behind -/
structure Q3 (c : CvR) (B : Nat) (H1 : Heap) (es : Array Value) (e : Int) (H2 : Heap) : Prop where
  e : e = 0
  es : es = es3
  keep : Keep (fun b => stF c.S c.M [] b ∨ b = c.K ∨ wM c.area c.P nilS b ∨ b = B ∨ b = c.A ∨ tbF c.T c.G1 c.G2 c.ms b) H1 H2
  k : H2[c.K]? = some (ckO 8 1)
theorem Q3.grow {H0 H1 H2 H3 : Heap} {es : Array Value} {e : Int} (h : Q3 c B H1 es e H2) (hK : c.K < H0.size) (k0 : Keep no H0 H1) (k3 : Keep (fun b => H0.size ≤ b ∧ b < H1.size) H2 H3) : Q3 c B H0 es e H3 :=
  ⟨h.e, h.es, ((k0.mono fun _ _ h => h.elim).trans h.keep).trans' k3 fun b hb => .inr hb.1, k3.at h.k (by omega)⟩
theorem do3 (o : HsO c) (hm : c.ms = [m]) (h : HsA c H) {u : Value} (htx : TxRep H B 0 sv [7] W M [⟨keyA, u, [1], false⟩] false) (hfr : ∀ b, txF B sv W M [⟨keyA, u, [1], false⟩] b → c.n1 ≤ b) (tb : TbRep H c.T 1 c.G1 c.G2 [(m.1, [(1, ptO B)])] [1]) (ha : H[c.A]? = some (acO 100 2 0 2 1)) (hn : c.n1 ≤ H.size)
    (hR : ∀ H', Q3 c B H es3 0 H' → R (.tuple #[.agg es3, .int .i64 0]) H') :
    Runs Tryz.prog 19 [ptO c.C, .int .i64 0, .agg (rqA rq3), c.cl] H R X := by
  have hcl := h.cl.ptr1
  have h9 := o.A9
  have hn9 := o.n
  have hd0 := o.d
  have hcL := o.cl
  have hka := o.ka
  have hlt := htx.lt
  have hAl := lt_of_get ha
  have hst := o.st c.S (.inl rfl)
  have hKl := lt_of_get h.k
  have hBl := hlt B (.inl rfl)
  have hBn := hfr B (.inl rfl)
  have hnil : ∀ b, wM c.area c.P nilS b → b = c.area ∨ b = c.P := by
    rintro b ((rfl | hb) | rfl)
    · exact .inl rfl
    · exact (ob_nil hb).elim
    · exact .inr rfl
  have hN : ∀ b, (stF c.S c.M [] b ∨ b = c.K ∨ wM c.area c.P nilS b ∨ b = B ∨ b = c.A ∨ tbF c.T c.G1 c.G2 c.ms b) → b < H.size := by
    rintro b (hb | rfl | hb | rfl | rfl | hb)
    · have := o.st b hb; omega
    · exact hKl
    · rcases hnil b hb with rfl | rfl <;> omega
    · exact hBl
    · exact hAl
    · have := o.tb b hb; omega
  refine c19 (j := 0) (p := 0) (q := rq3) (Q := Q3 c B) h.cell h.cf.l h.cf.s h.dv.sl hcl (by simp) rfl rfl (by simp) rfl (fun d hd => ?_) (by simp) rfl ⟨_, _, _, rfl⟩ (fun H1 R1 k1 hr1 => ?_) (fun H1 es H2 hq => ?_) (fun H1 es H2 H3 k1 hq k3 => ?_)
  · simp only [List.mem_singleton] at hd
    subst hd
    exact ⟨by decide, c.C, rfl⟩
  · have s1 := k1.size
    have h1 := h.keep k1 fun _ _ h => h
    refine c47x (fk := 137) (g := 1) (life := 1) (t := ptO B) (Q := Q3 c B) h1.cell (.inr ⟨rfl, rfl⟩) rfl (tb.keep k1 fun _ _ h => h) (by simp) rfl (by rfl) (by rfl) ⟨rfl, rfl⟩ (fun H2 R2 k2 hr2 => ?_) (fun H2 es e H3 hq => ?_) (fun H2 es e H3 H4 k2 hq k4 => ?_)
    · have k02 := k1.trans k2
      have h2 := h.keep k02 fun _ _ h => h
      have s2 := k02.size
      have hsum : (([⟨keyA, u, [1], false⟩] : List Wrt).map Wrt.n).sum = 2 := rfl
      have hlv : liveS (applyL (7 + 1) (([] : List Chn).map Chn.m) (([⟨keyA, u, [1], false⟩] : List Wrt).map Wrt.q)) = 2 := rfl
      refine c137 (q := rq3) (ses := 0) (j := 0) (g := 1) (life := 1) (pt := nPart c.area) (i := 0) (a := ⟨0, [], 0⟩) (v := nilS) h2.cell (htx.keep k02 fun _ _ h => h) (by simp) (by simp) (by simp) h2.so h2.k ⟨by decide, by decide⟩ (fun _ => ⟨by show (0 : Int) ≤ 7; decide, by show (7 : Int) ≤ 7; decide⟩) (k02.at ha fun h => h) ⟨by decide, by decide⟩ (by rw [hsum]; decide) (by decide)
        (tb.keep k02 fun _ _ h => h) (by simp) rfl (by rfl) h2.l h2.dk (by simp) rfl h2.ar (fun hb => ?_) (fun hb => ?_) (fun k l hl => by simp [getS] at hl) (fun w _ => by simp [getS]) (by decide) (fun _ => by simp [above, getS, nwS]) rfl (by decide) ⟨Int.le_refl _, by show (0 : Int) + 2 < _; decide⟩ (by rw [hlv, hsum]; decide) (Own.one htx.sna).2 rfl h.cl.one.2 ?_ ?_ ?_ ?_ ?_ (fun H3 cs' k3 m3 so3 hk3 => ?_)
      · rcases hb with hb | hb
        · have hx : c.D ≠ c.area := fun e => by
            have h1 := h.dk.blk
            have h2 := h.ar.blk
            rw [e, h2] at h1; simp [arO] at h1
          exact hx hb
        · exact ob_nil hb
      · rcases hb with hb | hb
        · have hx : c.P ≠ c.area := fun e => by
            obtain ⟨cs, h1, _⟩ := h.dk.parts
            have h2 := h.ar.blk
            rw [e, h2] at h1; simp [arO] at h1
          exact hx hb
        · exact ob_nil hb
      · intro b hb hs
        have hs := o.st b hs
        rcases hb with rfl | rfl | rfl | rfl | rfl | hb | hb
        · omega
        · omega
        · omega
        · omega
        · omega
        · have := hfr b hb; omega
        · have := o.tb b ((tbF1 hm).1 hb); omega
      · intro b hb hw
        have hw : b = c.area ∨ b = c.P := hnil b hw
        have hbn : c.n0 ≤ b := by
          rcases hb with rfl | rfl | rfl | rfl | hb | hb | hb
          · omega
          · omega
          · omega
          · omega
          · have := hfr b hb; omega
          · have := o.tb b ((tbF1 hm).1 hb); omega
          · have := o.st b hb; omega
        omega
      · intro b hb
        rcases hb with rfl | rfl | hb | hb
        · omega
        · omega
        · have := hfr b hb; omega
        · have := o.tb b ((tbF1 hm).1 hb); omega
      · intro b hb hb'
        have := hfr b hb'
        have := o.tb b ((tbF1 hm).1 hb); omega
      · intro b hw
        have hw : b = c.area ∨ b = c.P := hnil b hw
        omega
      · refine hr2 es3 0 H3 ⟨rfl, rfl, k3.mono fun b _ hb => ?_, hk3⟩
        rcases hb with hb | hb | hb | hb | hb | hb
        · exact .inl hb
        · exact .inr (.inl hb)
        · exact .inr (.inr (.inl hb))
        · exact .inr (.inr (.inr (.inl hb)))
        · exact .inr (.inr (.inr (.inr (.inl hb))))
        · exact .inr (.inr (.inr (.inr (.inr ((tbF1 hm).1 hb)))))
    · refine ⟨by rw [hq.es]; rfl, by rw [hq.es]; rfl, _, hq.keep, fun b hb => ?_⟩
      have := hN b hb; omega
    · have := hq.e
      subst this
      have hq' := hq.grow (by omega) k2 k4
      exact hr1 es H4 hq'
  · exact ⟨by rw [hq.es]; rfl, by rw [hq.es]; rfl, _, hq.keep, hN⟩
  · have hq' := hq.grow hKl k1 k3
    have e1 : es.setIfInBounds 1 (iv ((0 : Nat) : Int)) = es3 := by rw [hq.es]; rfl
    rw [e1]
    exact hR H3 ⟨rfl, rfl, hq'.keep, hq'.k⟩
end
end Go.Proofs.YtdoimhpmnmmffaaGreat

/- The laws of layer 21: the answers that the document fixes (head). No condition but those in each statement. -/
namespace Go.Proofs.YtdoimhpmnmmffaaGreat
open Go IntWalk
variable {H : Heap} {R : Value → Heap → Prop} {X : List PanicEntry → Heap → Prop}

theorem TxRep.nty {B place W M : Nat} {sv : Value} {snap : List Int} {ws : List Wrt} {ended : Bool} (h : TxRep H B place sv snap W M ws ended) {b t : Nat} {cs : Array Value} (hb : H[b]? = some (.cells cs t (0, 0))) (ht : t ≠ 290 ∧ t ≠ 3 ∧ t ≠ 322 ∧ t ≠ 5) : ¬ txF B sv W M ws b := by
  rintro (rfl | hb' | rfl | rfl | ⟨w, hw, hb'⟩)
  · rw [h.blk] at hb; simp at hb; exact ht.1 hb.2.symm
  · obtain ⟨cs', h1⟩ := h.sna.typ hb'
    rw [hb] at h1; simp at h1; exact ht.2.1 h1.2
  · rw [h.set.wr.blk] at hb; simp at hb; exact ht.2.2.1 hb.2.symm
  · obtain ⟨es, c, h1, _⟩ := h.set.wr.map.blk
    rw [hb] at h1; simp at h1
  · obtain ⟨cs', h1⟩ := (h.set.vals w hw).typ hb'
    rw [hb] at h1; simp at h1; exact ht.2.2.2 h1.2
/-- where one cell stands, with a transaction open -/
structure A1 (c : CvR) (m : MI) (op q3 : Int) (ws : List (List UInt8)) (H0 H : Heap) (b1 : Nat) (run : Array Value) : Prop where
  keep : Keep no H0 H
  hs : HsA c H
  acc : H[c.A]? = some (acO 100 2 0 q3 op)
  tx : ∃ B sv W M us, us.map Wrt.bs = ws ∧ (∀ w ∈ us, w.key = keyA ∧ w.dead = false) ∧ (∀ b, txF B sv W M us b → c.n1 ≤ b) ∧ TxRep H B 0 sv [7] W M us false ∧ TbRep H c.T 1 c.G1 c.G2 [(m.1, [(1, ptO B)])] [1]
  run : H[b1]? = some (.cells run 37 (0, 0))
  n : c.n1 ≤ H.size
theorem A1.grow {c : CvR} {m : MI} (o : HsO c) (hm : c.ms = [m]) {op q3 : Int} {ws : List (List UInt8)} {H0 H' : Heap} {b1 : Nat} {run : Array Value} (h : A1 c m op q3 ws H0 H b1 run) (hn0 : H0.size ≤ c.n1) {b t : Nat} {cs : Array Value} (k : Keep (fun x => x = b) H H') (hb : c.n1 ≤ b)
    (ht : b < H.size → ∃ cs t, H[b]? = some (.cells cs t (0, 0)) ∧ t ≠ 290 ∧ t ≠ 3 ∧ t ≠ 322 ∧ t ≠ 5 ∧ t ≠ 37) : A1 c m op q3 ws H0 H' b1 run := by
  obtain ⟨B, sv, W, M, us, h0, h1, h2, h3, h4⟩ := h.tx
  have h9 := o.A9
  have hn9 := o.n
  have hh := h.keep.size
  refine ⟨h.keep.trans' k fun x e => .inr (by omega), h.hs.keepN o k fun x e => .inr (.inr (by omega)), k.at h.acc (by omega), ⟨B, sv, W, M, us, h0, h1, h2, h3.keep k fun x hx e => ?_, h4.keep k fun x hx e => ?_⟩, k.at h.run fun e => ?_, Nat.le_trans h.n k.size⟩
  · subst e
    obtain ⟨cs, t, g1, g2, g3, g4, g5, _⟩ := ht (h3.lt x hx)
    exact h3.nty g1 ⟨g2, g3, g4, g5⟩ hx
  · have := o.tb x ((tbF1 hm).1 hx); omega
  · have hlt := lt_of_get h.run
    obtain ⟨cs, t, g1, _, _, _, _, g6⟩ := ht (e ▸ hlt)
    rw [← e, h.run] at g1
    simp at g1; exact g6 g1.2.symm
theorem A1.push {c : CvR} {m : MI} {op q3 : Int} {ws : List (List UInt8)} {H0 H' : Heap} {b1 : Nat} {run : Array Value} (h : A1 c m op q3 ws H0 H b1 run) (k : Keep no H H') : A1 c m op q3 ws H0 H' b1 run := by
  obtain ⟨B, sv, W, M, us, h0, h1, h2, h3, h4⟩ := h.tx
  exact ⟨h.keep.trans k, h.hs.keep k fun _ _ h => h, k.at h.acc fun h => h, ⟨B, sv, W, M, us, h0, h1, h2, h3.keep k fun _ _ h => h, h4.keep k fun _ _ h => h⟩, k.at h.run fun h => h, Nat.le_trans h.n k.size⟩

/-- an answer lies in a block -/
def Jn (es : Array Value) (n : Nat) (P : Heap → Prop) (x y : Value) (H : Heap) : Prop := ∃ b, x = .pointer (some ⟨b, 0, none⟩) ∧ y = .int .i64 0 ∧ H[b]? = some (.cells es 67 (0, 0)) ∧ n ≤ b ∧ P H
theorem c26 {C p K : Nat} {lx ax sx dv S A L T : Value} {n w : Int} (hC : H[C]? = some (clO lx ax sx dv p S (ptO K) A L T)) (hK : H[K]? = some (ckO n w)) (hR : R (.int .i64 n) H) : Runs Tryz.prog 26 [ptO C] H R X := by
  refine l26 ?_
  unfold i26 ptO
  have r6 : rdc H C 6 = some (ptO K) := by rw [rdc_of hC]; rfl
  unfold ptO at r6
  simp only [ptrEq_nil_r, Option.isNone_some, Option.map_some, Gt_some, If_false, ncV_ptr, faV_ptr, Nat.zero_add, rdv_ptr, r6]
  exact ⟨c60 hK hR⟩

theorem c8 (hR : ∀ H', Keep no H H' → R (.bool true) H') : Runs Tryz.prog 8 [] H R X := by
  refine l8 ⟨c36 fun lx ax sx H1 k1 hlt1 cf1 => ?_⟩
  refine ⟨c10 cf1 hlt1 fun c com H2 k2 o hs2 tb2 ac2 hn2 hcom hlow => ?_⟩
  obtain ⟨m, hm⟩ : ∃ m, c.ms = [m] := by
    have := o.ms.1
    match c.ms, this with
    | [m], _ => exact ⟨m, rfl⟩
  have y0 : ∀ a b : Value, exV 0 (.tuple #[a, b]) = some a := fun _ _ => rfl
  have y1 : ∀ a b : Value, exV 1 (.tuple #[a, b]) = some b := fun _ _ => rfl
  have s1 := k1.size
  have h9 := o.A9
  have hn9 := o.n
  have hd0 := o.d
  have hcL := o.cl
  have hka := o.ka
  have hst := o.st c.S (.inl rfl)
  have hlowA : H1.size ≤ c.A := hlow c.A (.inr (.inr (.inr (by omega))))
  have hn01 : H.size ≤ c.n1 := by omega
  let run := runA lx ax sx c.D c.cl (wrldA lx ax sx 1 com)
  obtain ⟨H4, p1, _, p3, p4, p5⟩ := agg_new (H := H2) (t := 37) (n := 11) (z := z37) (es := run) rfl rfl (by decide) (by
    simp only [run, runA, wrldA, Array.toList_append, List.all_append, List.all_cons, List.all_nil, cf1.lsc.onec.2, cf1.asc.onec.2, cf1.ssc.onec.2, hs2.cl.one.2, hcom]; rfl)
  have p1' : stV 11 (.pointer (some ⟨H2.size, 0, none⟩)) (.agg (runA lx ax sx c.D c.cl (wrldA lx ax sx 1 com))) (H2.push (.cells z37.cells 37 (0, 0))) = some H4 := p1
  simp only [y0, y1, Gt_some, Nw_iff, p1', unV_not, Bool.not_true, If_false]
  have k24 := k1.trans (k2.trans p3)
  have hs4 := hs2.keep p3 fun _ _ h => h
  have tb4 := tb2.keep p3 fun _ _ h => h
  have ac4 := p3.at ac2 fun h => h
  have s2 := k2.size
  have s4 : c.n1 ≤ H4.size := by omega
  have hrun4 : ∀ {H'}, H'[H2.size]? = some (.cells run 37 (0, 0)) → rdc H' H2.size 4 = some c.cl := fun h => by rw [rdc_of h]; rfl
  have hclp : ∀ {H'}, HsA c H' → ∃ p, iaV 1 c.cl (.int .i64 0) = some p ∧ rdv p H' = some (ptO c.C) := fun h => by
    obtain ⟨p, h1, h2⟩ := h.cl.ptr1.at (j := 0) (by simp)
    exact ⟨p, h1, h2⟩
  have tbn : ∀ b, tbF c.T c.G1 c.G2 c.ms b → c.A < b ∧ b < c.n9 := o.tb
  -- after Begin
  have bg : ∀ {H5 H6 : Heap}, HsA c H5 → H5[H2.size]? = some (.cells run 37 (0, 0)) → Keep no H H5 → c.n1 ≤ H5.size → Q1 c m H5 es1 0 H6 → A1 c m 1 0 [] H H6 H2.size run := by
    intro H5 H6 hs5 hr5 k05 hn5 q
    obtain ⟨B, sv, W, M, f1, f2, f3⟩ := q.tx
    refine ⟨k05.trans' q.keep fun b hb => ?_, hs5.keepN o q.keep fun b hb => hb.imp id .inl, q.acc, ⟨B, sv, W, M, [], rfl, (fun w h => by cases h), fun b hb => by have := f1 b hb; omega, f2, f3⟩, q.keep.at hr5 fun hb => ?_, Nat.le_trans hn5 q.keep.size⟩
    · rcases hb with rfl | hb
      · exact .inr (by omega)
      · have := tbn b hb; exact .inr (by omega)
    · rcases hb with hb | hb
      · omega
      · have := tbn _ hb; omega
  refine ⟨fun (x y : Value) (H11 : Heap) => Jn es1 c.n1 (fun H11 => A1 c m 1 0 [] H H11 H2.size run) x y H11, ?_, ?_⟩
  · rintro H11 _ _ ⟨b3, rfl, rfl, hb3, hn3, hA⟩
    have r2 : rdc H11 b3 2 = some (.int .i64 0) := by rw [rdc_of hb3]; rfl
    have e44 : bdV z44 [(0, 1), (1, 1)] [(0, .int .i64 1), (1, .int .i64 1)] = some (.agg #[iv 1, iv 1]) := rfl
    obtain ⟨H13, w1, w2, w3, w4, w5⟩ := agg_new (H := H11) (t := 44) (n := 2) (z := z44) (es := #[iv 1, iv 1]) rfl rfl (by decide) (by rfl)
    simp only [binI_neq, bne0, Gt_some, faV_ptr, Nat.zero_add, rdv_ptr, r2, Option.bind_some, ifO_or, Bool.or_false, If_false, e44, Nw_iff, w1]
    have hA13 := hA.push w3
    have hb313 := w3.at hb3 fun h => h
    have hn5 : c.n1 ≤ H11.size := hA.n
    -- what stays through a call
    have put : ∀ (Hx : Heap) (v : Value), Keep no H13 Hx → Bs Hx v [1] → (∀ b, ob v b → c.n1 ≤ b) → ∀ (K : Value → Heap → Prop),
        (∀ H', A1 c m 1 2 [[1]] H H' H2.size run → (∀ b t cs, Hx[b]? = some (.cells cs t (0, 0)) → c.n1 ≤ b → t ≠ 290 ∧ t ≠ 3 ∧ t ≠ 322 ∧ t ≠ 5 → H'[b]? = some (.cells cs t (0, 0))) → K (.tuple #[.agg es2, .int .i64 0]) H') →
        Runs Tryz.prog 19 [ptO c.C, .int .i64 0, .agg (rqA (rq2 v)), c.cl] Hx K X := by
      intro Hx v kx hv hvn K hK
      have hAx := hA13.push kx
      obtain ⟨B, sv, W, M, us, f0, f1, f2, f3, f4⟩ := hAx.tx
      have hus : us = [] := List.map_eq_nil_iff.1 f0
      subst hus
      refine do2 o hm hAx.hs f3 f4 hAx.acc hAx.n hv (fun b hb e => by have := hvn b hb; omega) fun H' hp => ?_
      rcases hp with ⟨hbad, _⟩ | ⟨_, u, g1, g2, g3, g4⟩
      · exact absurd rfl hbad
      · have hW := f2 W (.inr (.inr (.inl rfl)))
        have hM := f2 M (.inr (.inr (.inr (.inl rfl))))
        have hnx := hAx.n
        have stay : ∀ b t cs, Hx[b]? = some (.cells cs t (0, 0)) → c.n1 ≤ b → t ≠ 290 ∧ t ≠ 3 ∧ t ≠ 322 ∧ t ≠ 5 → H'[b]? = some (.cells cs t (0, 0)) := fun b t cs hb hbn ht => g1.at hb fun h => by
          have hty := f3.nty hb ht
          rcases h with rfl | rfl | rfl
          · exact hty (.inr (.inr (.inl rfl)))
          · exact hty (.inr (.inr (.inr (.inl rfl))))
          · omega
        refine hK H' ⟨hAx.keep.trans' g1 fun b hb => .inr ?_, hAx.hs.keepN o g1 fun b hb => ?_, g4, ⟨B, sv, W, M, [⟨keyA, u, [1], false⟩], rfl, fun w hw => by simp at hw; subst hw; exact ⟨rfl, rfl⟩, fun b hb => ?_, g3, f4.keep g1 fun b hb hb' => ?_⟩, stay _ _ _ hAx.run (by omega) (by decide), Nat.le_trans hnx g1.size⟩ stay
        · rcases hb with rfl | rfl | rfl <;> omega
        · rcases hb with rfl | rfl | rfl
          · exact .inr (.inr hW)
          · exact .inr (.inr hM)
          · exact .inl rfl
        · rcases hb with hb | hb | hb | hb | ⟨w, hw, hb⟩
          · exact f2 b (.inl hb)
          · exact f2 b (.inr (.inl hb))
          · exact f2 b (.inr (.inr (.inl hb)))
          · exact f2 b (.inr (.inr (.inr (.inl hb))))
          · simp at hw; subst hw
            have := g2 b hb; omega
        · have := tbn b ((tbF1 hm).1 hb)
          rcases hb' with rfl | rfl | rfl <;> omega
    refine ⟨fun (y x : Value) (H25 : Heap) => Jn es2 c.n1 (fun H25 => A1 c m 1 2 [[1]] H H25 H2.size run ∧ H25[b3]? = some (.cells es1 67 (0, 0)) ∧ H25[H11.size]? = some (.cells #[iv 1, iv 1] 44 (0, 0))) x y H25, ?_, ?_⟩
    · rintro H25 _ _ ⟨b6, rfl, rfl, hb6, hn6, hB, hb325, hb525⟩
      have r2 : rdc H25 b6 2 = some (.int .i64 0) := by rw [rdc_of hb6]; rfl
      have rh : rda 2 (.pointer (some ⟨H11.size, 0, none⟩)) H25 = some (.agg #[iv 1, iv 1]) := by
        rw [rda_ptr, rdn_at hb525 2 0 (by simp)]; rfl
      have eq3 : bdV z47 [(0, 1), (1, 2), (3, 1), (4, 1), (5, 1), (6, 1), (7, 1)] [(0, .int .i64 6), (1, .agg #[iv 1, iv 1])] = some (.agg (rqA rq3)) := rfl
      simp only [binI_neq, bne0, Gt_some, faV_ptr, Nat.zero_add, rdv_ptr, r2, Option.bind_some, ifO_or, Bool.or_false, If_false]
      have com3 : ∀ (Hx : Heap), Keep no H25 Hx → ∀ (K : Value → Heap → Prop),
          (∀ H', Keep no H H' → H'[c.C]? = some c.obj → H'[c.K]? = some (ckO 8 1) → Own 55 1 H' c.cl 1 [ptO c.C] → (∀ b t cs, Hx[b]? = some (.cells cs t (0, 0)) → c.n1 ≤ b → t ≠ 290 ∧ t ≠ 3 ∧ t ≠ 322 ∧ t ≠ 5 → H'[b]? = some (.cells cs t (0, 0))) → K (.tuple #[.agg es3, .int .i64 0]) H') →
          Runs Tryz.prog 19 [ptO c.C, .int .i64 0, .agg (rqA rq3), c.cl] Hx K X := by
        intro Hx kx K hK
        have hBx := hB.push kx
        obtain ⟨B, sv, W, M, us, f0, f1, f2, f3, f4⟩ := hBx.tx
        have hl1 : us.length = 1 := by have := congrArg List.length f0; simpa using this
        obtain ⟨w, rfl⟩ := List.length_eq_one_iff.1 hl1
        have hw := f1 w (by simp)
        have hwb : w.bs = [1] := by simpa using f0
        obtain ⟨wk, wv, wb, wd⟩ := w
        obtain ⟨h1, h2⟩ := hw
        simp only at h1 h2 hwb
        subst h1 h2 hwb
        have hBn := f2 B (.inl rfl)
        refine do3 o hm hBx.hs f3 f2 f4 hBx.acc hBx.n fun H' q => ?_
        have hnil : ∀ b, wM c.area c.P nilS b → b = c.area ∨ b = c.P := by
          rintro b ((rfl | hb) | rfl)
          · exact .inl rfl
          · exact (ob_nil hb).elim
          · exact .inr rfl
        have hlo : ∀ b, (stF c.S c.M [] b ∨ b = c.K ∨ wM c.area c.P nilS b ∨ b = B ∨ b = c.A ∨ tbF c.T c.G1 c.G2 c.ms b) → H1.size ≤ b := by
          rintro b (hb | rfl | hb | rfl | rfl | hb)
          · have := o.st b hb; exact hlow b (.inr (.inr (.inr (by omega))))
          · exact hlow _ (.inr (.inr (.inr (by omega))))
          · rcases hnil b hb with rfl | rfl
            · exact hlow _ (.inr (.inr (.inl rfl)))
            · exact hlow _ (.inr (.inl rfl))
          · omega
          · exact hlowA
          · have := tbn b hb; omega
        have hCn : ¬ (stF c.S c.M [] c.C ∨ c.C = c.K ∨ wM c.area c.P nilS c.C ∨ c.C = B ∨ c.C = c.A ∨ tbF c.T c.G1 c.G2 c.ms c.C) := by
          rintro (hb | hb | hb | hb | hb | hb)
          · have := o.st _ hb; omega
          · omega
          · rcases hnil _ hb with hb | hb <;> omega
          · omega
          · omega
          · have := tbn _ hb; omega
        refine hK H' (hBx.keep.trans' q.keep fun b hb => .inr (by have := hlo b hb; omega)) (q.keep.at hBx.hs.cell hCn) q.k (hBx.hs.cl.keep q.keep fun b hb hb' => ?_) fun b t cs hb hbn ht => q.keep.at hb fun h => ?_
        · have hob := o.ob b hb
          rcases hb' with h | h | h | h | h | h
          · have := o.st b h; omega
          · omega
          · rcases hnil b h with h | h <;> omega
          · omega
          · omega
          · have := tbn b h; omega
        · rcases h with h | h | h | h | h | h
          · have := o.st b h; omega
          · omega
          · rcases hnil b h with h | h <;> omega
          · exact f3.nty hb ht (.inl h)
          · omega
          · have := tbn b h; omega
      refine ⟨fun (y x : Value) (H32 : Heap) => Jn es3 0 (fun H32 => Keep no H H32 ∧ H32[c.C]? = some c.obj ∧ H32[c.K]? = some (ckO 8 1) ∧ Own 55 1 H32 c.cl 1 [ptO c.C] ∧ H32[b3]? = some (.cells es1 67 (0, 0)) ∧ H32[H11.size]? = some (.cells #[iv 1, iv 1] 44 (0, 0)) ∧ H32[H2.size]? = some (.cells run 37 (0, 0))) x y H32, ?_, ?_⟩
      · rintro H32 _ _ ⟨b7, rfl, rfl, hb7, _, g1, g2, g3, g4, g5, g6, g7⟩
        have t2 : rdc H32 b7 2 = some (.int .i64 0) := by rw [rdc_of hb7]; rfl
        have t9 : rdc H32 b7 9 = some (.int .i64 8) := by rw [rdc_of hb7]; rfl
        have th : rda 2 (.pointer (some ⟨b3, 3, none⟩)) H32 = some (.agg #[iv 1, iv 1]) := by
          rw [rda_ptr, rdn_at g5 2 3 (by simp [es1, rsA])]; rfl
        have t5 : rda 2 (.pointer (some ⟨H11.size, 0, none⟩)) H32 = some (.agg #[iv 1, iv 1]) := by
          rw [rda_ptr, rdn_at g6 2 0 (by simp)]; rfl
        have e0 : ((0 : Int) == 0) = true := rfl
        have e8 : ((8 : Int) == 8) = true := rfl
        have ep : pairV (.agg #[iv 1, iv 1]) (.agg #[iv 1, iv 1]) = some true := rfl
        obtain ⟨p, v1, v2⟩ := g4.ptr1.at (j := 0) (by simp)
        have v1 : iaV 1 c.cl (.int .i64 0) = some p := v1
        have v2 : rdv p H32 = some (ptO c.C) := v2
        have r4 := hrun4 g7
        simp only [binI_eql, e0, Gt_some, faV_ptr, Nat.zero_add, rdv_ptr, t2, Option.bind_some, ifO_true, t9, e8, th, t5, ep, Option.map_some, If_true, r4, v1]
        rw [show rdv p H32 = some (ptO c.C) from v2]
        simp only [Gt_some]
        refine ⟨c26 (K := c.K) g2 g3 ?_⟩
        simp only [binI_eql, e8, Gt_some]
        exact hR H32 g1
      · obtain ⟨q, q1, q2⟩ := hclp hB.hs
        have r4 := hrun4 hB.run
        simp only [faV_ptr, Nat.zero_add, Gt_some, rdv_ptr, r4, q1, q2, rh, eq3]
        have s25 := hB.n
        have l3 := lt_of_get hb325
        have l5 := lt_of_get hb525
        have l1 := lt_of_get hB.run
        refine ⟨⟨?_⟩, ⟨?_⟩⟩
        · refine com3 H25 (.refl _) _ fun H26 x1 x2 x3 x4 stay => ?_
          obtain ⟨H27, u1, _, u3, u4, _⟩ := agg_new (H := H26) (t := 67) (n := 10) (z := z67) (es := es3) rfl rfl (by decide) (by rfl)
          simp only [y0, y1, Gt_some, Nw_iff, u1]
          exact ⟨H26.size, rfl, rfl, u4, Nat.zero_le _, x1.trans u3, u3.at x2 fun h => h, u3.at x3 fun h => h, x4.keep u3 fun _ _ h => h, u3.at (stay _ _ _ hb325 hn3 (by decide)) fun h => h, u3.at (stay _ _ _ hb525 hn5 (by decide)) fun h => h, u3.at (stay _ _ _ hB.run (by omega) (by decide)) fun h => h⟩
        · generalize hH29 : H25.push (.cells z67.cells 67 (0, 0)) = H29
          have hb29 : H29[H25.size]? = some (.cells z67.cells 67 (0, 0)) := by rw [← hH29]; exact get_push_eq
          have k29 : Keep no H25 H29 := by rw [← hH29]; exact .push
          refine com3 H29 k29 _ fun H30 x1 x2 x3 x4 stay => ?_
          obtain ⟨H31, u1, _, u3, u4, _⟩ := agg_put (n := 10) (es := es3) (stay _ _ _ hb29 s25 (by decide)) rfl rfl (by decide) (by rfl)
          simp only [y0, y1, Gt_some, u1]
          have hKn : c.K < c.n1 := by omega
          have hCn : c.C < c.n1 := by omega
          exact ⟨H25.size, rfl, rfl, u4, Nat.zero_le _, x1.trans' u3 fun b e => .inr (by omega), u3.at x2 (by omega), u3.at x3 (by omega), x4.keep u3 fun b hb e => by have := o.ob b hb; omega, u3.at (stay _ _ _ (k29.at hb325 fun h => h) hn3 (by decide)) (by omega), u3.at (stay _ _ _ (k29.at hb525 fun h => h) hn5 (by decide)) (by omega), u3.at (stay _ _ _ (k29.at hB.run fun h => h) (by omega) (by decide)) (by omega)⟩
    · obtain ⟨q, q1, q2⟩ := hclp hA13.hs
      have r4 := hrun4 hA13.run
      have rh : rda 2 (.pointer (some ⟨H11.size, 0, none⟩)) H13 = some (.agg #[iv 1, iv 1]) := w2
      have e5 : bsV 1 1 z5 [(0, .int .u8 1)] = some [.int .u8 1] := bsV_one rfl rfl
      have eq2 : ∀ b, bdV z47 [(0, 1), (1, 2), (3, 1), (4, 1), (5, 1), (6, 1), (7, 1)] [(0, .int .i64 4), (1, .agg #[iv 1, iv 1]), (3, .string ⟨#[97]⟩), (5, .slice (some ⟨b, 0, none⟩) 1 1)] = some (.agg (rqA (rq2 (.slice (some ⟨b, 0, none⟩) 1 1)))) := fun _ => rfl
      simp only [faV_ptr, Nat.zero_add, Gt_some, rdv_ptr, r4, q1, q2, rh, e5, eq2, Nw_iff]
      have bsl : ∀ {Hx : Heap} {b : Nat}, Hx[b]? = some (.cells ([.int .u8 1] : List Value).toArray 5 (0, 0)) → Bs Hx (.slice (some ⟨b, 0, none⟩) 1 1) [1] := fun hb => by
        have : OB _ (.slice (some ⟨_, 0, none⟩) 1 1) [1] := Own.blk _ _ _ _ _ hb rfl (Nat.le_refl _) (by simp) rfl
        exact this.bs
      have s13 := hA13.n
      have l3 := lt_of_get hb313
      refine ⟨⟨⟨?_⟩, ⟨?_⟩⟩, ⟨?_⟩⟩
      · generalize hH14 : H13.push (.cells ([.int .u8 1] : List Value).toArray 5 (0, 0)) = H14
        have hb14 : H14[H13.size]? = some (.cells ([.int .u8 1] : List Value).toArray 5 (0, 0)) := by rw [← hH14]; exact get_push_eq
        have k14 : Keep no H13 H14 := by rw [← hH14]; exact .push
        refine put H14 _ k14 (bsl hb14) (fun b hb => by obtain ⟨_, _, _, e⟩ := hb; cases e; exact s13) _ fun H15 hB stay => ?_
        obtain ⟨H16, u1, _, u3, u4, _⟩ := agg_new (H := H15) (t := 67) (n := 10) (z := z67) (es := es2) rfl rfl (by decide) (by rfl)
        simp only [y0, y1, Gt_some, Nw_iff, u1]
        exact ⟨H15.size, rfl, rfl, u4, hB.n, hB.push u3, u3.at (stay _ _ _ (k14.at hb313 fun h => h) hn3 (by decide)) fun h => h, u3.at (stay _ _ _ (k14.at w4 fun h => h) hn5 (by decide)) fun h => h⟩
      · generalize hH14 : H13.push (.cells ([.int .u8 1] : List Value).toArray 5 (0, 0)) = H14
        have hb14 : H14[H13.size]? = some (.cells ([.int .u8 1] : List Value).toArray 5 (0, 0)) := by rw [← hH14]; exact get_push_eq
        have k14 : Keep no H13 H14 := by rw [← hH14]; exact .push
        generalize hH15 : H14.push (.cells z67.cells 67 (0, 0)) = H15
        have hb15 : H15[H14.size]? = some (.cells z67.cells 67 (0, 0)) := by rw [← hH15]; exact get_push_eq
        have k15 : Keep no H14 H15 := by rw [← hH15]; exact .push
        have s14 := k14.size
        refine put H15 _ (k14.trans k15) (bsl (k15.at hb14 fun h => h)) (fun b hb => by obtain ⟨_, _, _, e⟩ := hb; cases e; exact s13) _ fun H16 hB stay => ?_
        have hb16 := stay _ _ _ hb15 (by omega) (by decide)
        obtain ⟨H17, u1, _, u3, u4, _⟩ := agg_put (n := 10) (es := es2) hb16 rfl rfl (by decide) (by rfl)
        simp only [y0, y1, Gt_some, u1]
        have l14 := lt_of_get w4
        exact ⟨H14.size, rfl, rfl, u4, by omega, hB.grow (t := 67) (cs := es2) o hm hn01 u3 (by omega) fun _ => ⟨_, _, hb16, by decide⟩, u3.at (stay _ _ _ ((k14.trans k15).at hb313 fun h => h) hn3 (by decide)) (by omega), u3.at (stay _ _ _ ((k14.trans k15).at w4 fun h => h) hn5 (by decide)) (by omega)⟩
      · generalize hH14 : H13.push (.cells z67.cells 67 (0, 0)) = H14
        have hb14 : H14[H13.size]? = some (.cells z67.cells 67 (0, 0)) := by rw [← hH14]; exact get_push_eq
        have k14 : Keep no H13 H14 := by rw [← hH14]; exact .push
        generalize hH15 : H14.push (.cells ([.int .u8 1] : List Value).toArray 5 (0, 0)) = H15
        have hb15 : H15[H14.size]? = some (.cells ([.int .u8 1] : List Value).toArray 5 (0, 0)) := by rw [← hH15]; exact get_push_eq
        have k15 : Keep no H14 H15 := by rw [← hH15]; exact .push
        have s14 := k14.size
        refine put H15 _ (k14.trans k15) (bsl hb15) (fun b hb => by obtain ⟨_, _, _, e⟩ := hb; cases e; omega) _ fun H16 hB stay => ?_
        have hb16 := stay _ _ _ (k15.at hb14 fun h => h) s13 (by decide)
        obtain ⟨H17, u1, _, u3, u4, _⟩ := agg_put (n := 10) (es := es2) hb16 rfl rfl (by decide) (by rfl)
        simp only [y0, y1, Gt_some, u1]
        have l14 := lt_of_get w4
        exact ⟨H13.size, rfl, rfl, u4, s13, hB.grow (t := 67) (cs := es2) o hm hn01 u3 s13 fun _ => ⟨_, _, hb16, by decide⟩, u3.at (stay _ _ _ ((k14.trans k15).at hb313 fun h => h) hn3 (by decide)) (by omega), u3.at (stay _ _ _ ((k14.trans k15).at w4 fun h => h) hn5 (by decide)) (by omega)⟩
  · obtain ⟨q, q1, q2⟩ := hclp hs4
    have r4 := hrun4 p4
    have eq1 : bdV z47 [(0, 1), (1, 2), (3, 1), (4, 1), (5, 1), (6, 1), (7, 1)] [(0, .int .i64 1)] = some (.agg (rqA rq1)) := rfl
    simp only [faV_ptr, Nat.zero_add, Gt_some, rdv_ptr, r4, q1, q2, eq1]
    refine ⟨⟨do1 o hm hs4 tb4 ac4 s4 fun H5 hq5 => ?_⟩, ⟨?_⟩⟩
    · obtain ⟨H6, u1, _, u3, u4, _⟩ := agg_new (H := H5) (t := 67) (n := 10) (z := z67) (es := es1) rfl rfl (by decide) (by rfl)
      have hA := bg hs4 p4 k24 s4 hq5
      simp only [y0, y1, Gt_some, Nw_iff, u1]
      exact ⟨H5.size, rfl, rfl, u4, hA.n, hA.push u3⟩
    · generalize hH5 : H4.push (.cells z67.cells 67 (0, 0)) = H5
      have hb5 : H5[H4.size]? = some (.cells z67.cells 67 (0, 0)) := by rw [← hH5]; exact get_push_eq
      have k5 : Keep no H4 H5 := by rw [← hH5]; exact .push
      have s5 := k5.size
      refine do1 o hm (hs4.keep k5 fun _ _ h => h) (tb4.keep k5 fun _ _ h => h) (k5.at ac4 fun h => h) (by omega) fun H6 hq6 => ?_
      have hA := bg (hs4.keep k5 fun _ _ h => h) (k5.at p4 fun h => h) (k24.trans k5) (by omega) hq6
      have hb6 := hq6.keep.at hb5 fun hb => by
        rcases hb with hb | hb
        · omega
        · have := tbn _ hb; omega
      obtain ⟨H7, u1, _, u3, u4, _⟩ := agg_put (n := 10) (es := es1) hb6 rfl rfl (by decide) (by rfl)
      simp only [y0, y1, Gt_some, u1]
      exact ⟨H4.size, rfl, rfl, u4, by omega, hA.grow (t := 67) (cs := es1) o hm hn01 u3 (by omega) fun _ => ⟨_, _, hb6, by decide⟩⟩
end Go.Proofs.YtdoimhpmnmmffaaGreat

/- The laws of layer 21: a cell that is not there. No condition but those in each statement. -/
namespace Go.Proofs.YtdoimhpmnmmffaaGreat
open Go IntWalk
variable {H : Heap} {R : Value → Heap → Prop} {X : List PanicEntry → Heap → Prop}

def nilP : Value := .pointer none
theorem c19n {s : Int} {x y : Value} (hR : ∀ H', Keep no H H' → R (.tuple #[.agg es2, .int .i64 1]) H') : Runs Tryz.prog 19 [nilP, .int .i64 s, x, y] H R X := by
  refine l19 ?_
  unfold i19 nilP
  have eb : bdV z67 [(0, 1), (1, 1), (2, 1), (3, 2), (5, 1), (6, 1), (7, 1), (8, 1), (9, 1)] [] = some (.agg es2) := rfl
  simp only [Nw_iff, ptrEq_nil_r, Option.isNone_none, Option.map_some, Gt_some, If_true, eb]
  generalize hH1 : H.push (.cells x.cells 47 (0, 0)) = H1
  have k1 : Keep no H H1 := by rw [← hH1]; exact .push
  obtain ⟨H', p1, p2, p3, _⟩ := agg_new (H := H1) (t := 67) (n := 10) (z := z67) (es := es2) rfl rfl (by decide) (by rfl)
  simp only [p1, p2, Gt_some]
  exact hR H' (k1.trans p3)
theorem c20n (hR : R (.int .i64 1) H) : Runs Tryz.prog 20 [nilP] H R X := by
  refine l20 ?_
  unfold i20 nilP
  simp only [ptrEq_nil_r, Option.isNone_none, Option.map_some, Gt_some, If_true]
  exact hR
theorem c21n {x y : Value} (hR : R (.tuple #[nilS, .bool false]) H) : Runs Tryz.prog 21 [nilP, x, y] H R X := by
  refine l21 ?_
  unfold i21 nilP
  simp only [ptrEq_nil_r, Option.isNone_none, Option.map_some, Gt_some, If_true]
  exact hR
theorem c22n (hR : R (.tuple #[.int .i64 0, .int .i64 0]) H) : Runs Tryz.prog 22 [nilP] H R X := by
  refine l22 ?_
  unfold i22 nilP
  simp only [ptrEq_nil_r, Option.isNone_none, Option.map_some, Gt_some, If_true]
  exact hR
theorem c23n {x y z : Value} (hR : R (.func (.func 56) #[] #[]) H) : Runs Tryz.prog 23 [nilP, x, y, z] H R X := by
  refine l23 ?_
  unfold i23 nilP
  simp only [ptrEq_nil_r, Option.isNone_none, Option.map_some, Gt_some, If_true]
  exact hR
theorem c24n (hR : ∀ H', Keep no H H' → R (.agg #[iv 0, nilS]) H') : Runs Tryz.prog 24 [nilP] H R X := by
  refine l24 ?_
  unfold i24 nilP
  have eb : bdV z79 [(0, 1), (1, 1)] [] = some (.agg #[iv 0, nilS]) := rfl
  obtain ⟨H', p1, p2, p3, _⟩ := agg_new (H := H) (t := 79) (n := 2) (z := z79) (es := #[iv 0, nilS]) rfl rfl (by decide) (by rfl)
  simp only [Nw_iff, ptrEq_nil_r, Option.isNone_none, Option.map_some, Gt_some, If_true, eb, p1, p2]
  exact hR H' p3
theorem c26n (hR : R (.int .i64 0) H) : Runs Tryz.prog 26 [nilP] H R X := by
  refine l26 ?_
  unfold i26 nilP
  simp only [ptrEq_nil_r, Option.isNone_none, Option.map_some, Gt_some, If_true]
  exact hR
theorem c27n (hR : R (.int .i64 0) H) : Runs Tryz.prog 27 [nilP] H R X := by
  refine l27 ?_
  unfold i27 nilP
  simp only [ptrEq_nil_r, Option.isNone_none, Option.map_some, Gt_some, If_true]
  exact hR
theorem c16n (hR : R (.int .i64 0) H) : Runs Tryz.prog 16 [nilP] H R X := by
  refine l16 ?_
  unfold i16 nilP
  simp only [ptrEq_nil_r, Option.isNone_none, Option.map_some, Gt_some, If_true]
  exact hR
theorem c77n (hR : R (.bool true) H) : Runs Tryz.prog 77 [nilS, nilS] H R X := by
  refine l77 ?_
  unfold i77
  have e1 : (((0 : Nat) : Int) != ((0 : Nat) : Int)) = false := rfl
  have e2 : decide ((0 : Int) < ((0 : Nat) : Int)) = false := rfl
  simp only [lnV_slice, Gt_some, binI_neq, e1, If_false]
  refine ⟨fun (y : Value) (H1 : Heap) => AtZ H y H1, fun _ _ => 0, ⟨rfl, rfl⟩, ?_⟩
  rintro H1 y ⟨rfl, rfl⟩
  simp only [lnV_slice, Gt_some, binI_lss, e2, If_false]
  exact hR
theorem c25z (hR : ∀ H', Keep no H H' → R (.bool true) H') : Runs Tryz.prog 25 [.agg es2] H R X := by
  refine l25 ?_
  unfold i25
  have hcc : (Value.agg es2).cells = es2 := rfl
  have eb : bdV z67 [(0, 1), (1, 1), (2, 1), (3, 2), (5, 1), (6, 1), (7, 1), (8, 1), (9, 1)] [] = some (.agg es2) := rfl
  simp only [Nw_iff, hcc, eb, Gt_some]
  generalize hH1 : H.push (.cells es2 67 (0, 0)) = H1
  have hb1 : H1[H.size]? = some (.cells es2 67 (0, 0)) := by rw [← hH1]; exact get_push_eq
  have k1 : Keep no H H1 := by rw [← hH1]; exact .push
  have rd : rda 10 (.pointer (some ⟨H.size, 0, none⟩)) H1 = some (.agg es2) := by
    rw [rda_ptr, rdn_at hb1 10 0 (by simp [es2, rsA])]; rfl
  simp only [rd, Gt_some]
  refine ⟨l59 ?_⟩
  unfold i59
  simp only [Nw_iff, hcc]
  generalize hH2 : H1.push (.cells es2 67 (0, 0)) = H2
  have hb2 : H2[H1.size]? = some (.cells es2 67 (0, 0)) := by rw [← hH2]; exact get_push_eq
  have k2 : Keep no H1 H2 := by rw [← hH2]; exact .push
  generalize hH3 : H2.push (.cells es2 67 (0, 0)) = H3
  have hb3 : H3[H2.size]? = some (.cells es2 67 (0, 0)) := by rw [← hH3]; exact get_push_eq
  have k3 : Keep no H2 H3 := by rw [← hH3]; exact .push
  have hb23 := k3.at hb2 fun h => h
  have fl : ∀ {b : Nat}, H3[b]? = some (.cells es2 67 (0, 0)) → rdc H3 b 0 = some (.int .i64 0) ∧ rdc H3 b 1 = some (.int .i64 0) ∧ rdc H3 b 2 = some (.int .i64 0) ∧ rda 2 (.pointer (some ⟨b, 3, none⟩)) H3 = some (.agg #[iv 0, iv 0]) ∧ rdc H3 b 5 = some (.bool false) ∧ rdc H3 b 6 = some nilS ∧ rdc H3 b 7 = some nilS ∧ rdc H3 b 8 = some (.bool false) ∧ rdc H3 b 9 = some (.int .i64 0) := fun h => by
    refine ⟨?_, ?_, ?_, ?_, ?_, ?_, ?_, ?_, ?_⟩
    case refine_4 => rw [rda_ptr, rdn_at h 2 3 (by simp [es2, rsA])]; rfl
    all_goals rw [rdc_of h]; rfl
  obtain ⟨a0, a1, a2, a3, a5, a6, a7, a8, a9⟩ := fl hb23
  obtain ⟨d0, d1, d2, d3, d5, d6, d7, d8, d9⟩ := fl hb3
  have ep : pairV (.agg #[iv 0, iv 0]) (.agg #[iv 0, iv 0]) = some true := rfl
  have en : nilEq .bool (.bool false) (.bool false) = some true := rfl
  have es : bsS nilS H3 = some (.string .empty) := rfl
  have eb0 : binS .eql (.string .empty) (.string .empty) = some (.bool true) := by simp
  have e00 : ((0 : Int) == 0) = true := rfl
  simp only [faV_ptr, Nat.zero_add, Gt_some, rdv_ptr, a0, a1, a2, a3, a5, a6, d0, d1, d2, d3, d5, d6, binI_neq, bne0, Option.bind_some, ifO_false, ep, Option.map_some, Bool.not_true, en, If_false, es, eb0, If_true, a7, d7]
  refine ⟨c77n ?_⟩
  simp only [faV_ptr, Nat.zero_add, rdv_ptr, a8, d8, a9, d9, Option.bind_some, ifO_true, en, Option.map_some, Gt_some, binI_eql, e00]
  exact hR H3 ((k1.trans k2).trans k3)

theorem c5 (hR : ∀ H', Keep no H H' → R (.bool true) H') : Runs Tryz.prog 5 [] H R X := by
  refine l5 ⟨c8 fun H1 k1 => ?_⟩
  have y0 : ∀ a b : Value, exV 0 (.tuple #[a, b]) = some a := fun _ _ => rfl
  have y1 : ∀ a b : Value, exV 1 (.tuple #[a, b]) = some b := fun _ _ => rfl
  have e1 : bdV z47 [(0, 1), (1, 2), (3, 1), (4, 1), (5, 1), (6, 1), (7, 1)] [(0, .int .i64 1)] = some (.agg (rqA rq1)) := rfl
  have e2 : bsV 1 1 z55 [(0, .pointer none)] = some [.pointer none] := bsV_one rfl rfl
  simp only [unV_not, Bool.not_true, Gt_some, If_false, e1, e2, Nw_iff]
  refine ⟨c19n fun H3 k3 => ?_⟩
  have k13 : Keep no H H3 := (k1.trans .push).trans k3
  obtain ⟨H5, p1, _, p3, p4, _⟩ := agg_new (H := H3) (t := 67) (n := 10) (z := z67) (es := es2) rfl rfl (by decide) (by rfl)
  simp only [y0, y1, Gt_some, Nw_iff, p1]
  refine ⟨c20n ⟨c21n ?_⟩⟩
  simp only [y0, y1, Gt_some]
  refine ⟨c22n ?_⟩
  simp only [y0, y1, Gt_some]
  refine ⟨c23n ?_⟩
  have en : nilEq (.func #[128] #[] false) (.func (.func 56) #[] #[]) .nilFunc = some false := rfl
  have g1 := stV1 (H := H5.push (.cells z3.cells 3 (0, 0))) (b := H5.size) (o := 0) (v := .int .i64 0) get_push_eq (by decide) rfl rfl
  simp only [en, Option.map_some, Gt_some, If_false, Nw_iff, g1]
  generalize hH11 : (H5.push (.cells z3.cells 3 (0, 0))).setIfInBounds H5.size _ = H11
  have hb11 : H11[H5.size]? = some (.cells #[.int .i64 0] 3 (0, 0)) := by rw [← hH11, get_set_eq (by simp)]; rfl
  have k11 : Keep no H5 H11 := by
    rw [← hH11]
    exact ⟨by simp, fun b hb _ => (get_set_ne (by omega)).trans (get_push_lt hb)⟩
  have s11 := k11.size
  have l5 := lt_of_get hb11
  refine ⟨56, [], [], rfl, rfl, fun r hy => ?_⟩
  generalize hH12 : (H11.push (.deferred (some []))).push (lo r .ready none) = H12
  have hd12 : H12[H11.size]? = some (.deferred (some [])) := by rw [← hH12, get_push_lt (by simp)]; exact get_push_eq
  have hl12 : H12[H11.size + 1]? = some (lo r .ready none) := by
    rw [← hH12]
    have := get_push_eq (H := H11.push (.deferred (some []))) (o := lo r .ready none)
    simpa using this
  have k12 : Keep no H11 H12 := by rw [← hH12]; exact Keep.push.trans .push
  refine l56 ?_
  unfold i56
  refine .fin .ready (by decide) hl12 ?_
  generalize hH15 : H12.setIfInBounds (H11.size + 1) (lo r .exhausted none) = H15
  have k15 : Keep (fun c => c = H11.size + 1) H12 H15 := by rw [← hH15]; exact .set rfl
  have hd15 := k15.at hd12 (by omega)
  have hn15 := k15.at (k12.at hb11 fun h => h) (by omega)
  have l3 := lt_of_get p4
  have hr15 := k15.at ((k11.trans k12).at p4 fun h => h) (by omega)
  refine ⟨c24n fun H18 k18 => ?_⟩
  obtain ⟨H20, u1, _, u3, u4, _⟩ := agg_new (H := H18) (t := 79) (n := 2) (z := z79) (es := #[iv 0, nilS]) rfl rfl (by decide) (by rfl)
  simp only [Nw_iff, u1, Gt_some]
  have k1520 := k18.trans u3
  have hd20 := k1520.at hd15 fun h => h
  have hn20 := k1520.at hn15 fun h => h
  have hr20 := k1520.at hr15 fun h => h
  have e11 : ((1 : Int) != 1) = false := rfl
  have e00 : ((0 : Int) == 0) = true := rfl
  have eb00 : (((0 : Nat) : Int) == 0) = true := rfl
  have rd : rda 10 (.pointer (some ⟨H3.size, 0, none⟩)) H20 = some (.agg es2) := by
    rw [rda_ptr, rdn_at hr20 10 0 (by simp [es2, rsA])]; rfl
  refine Jo1 ?_
  simp only [binI_neq, e11, Gt_some, If_false, rd]
  refine ⟨c25z fun H21 k21 => ?_⟩
  simp only [unV_not, Bool.not_true, Gt_some, binI_neq, e11, Option.bind_some, ifO_false, If_false]
  refine ⟨c16n ?_⟩
  have rn : rdc H21 H5.size 0 = some (.int .i64 0) := by rw [rdc_of (k21.at hn20 fun h => h)]; rfl
  simp only [binI_neq, bne0, Gt_some, rdv_ptr, rn, Option.bind_some, ifO_false, If_false]
  refine ⟨c26n ?_⟩
  simp only [binI_eql, e00, Gt_some, If_true]
  refine ⟨c27n ?_⟩
  have hs21 := k21.at u4 fun h => h
  have v0 : rdc H21 H18.size 0 = some (.int .i64 0) := by rw [rdc_of hs21]; rfl
  have v1 : rdc H21 H18.size 1 = some nilS := by rw [rdc_of hs21]; rfl
  simp only [binI_eql, e00, Gt_some, lnV_slice, eb00, Option.bind_some, ifO_true, unV_not, Bool.not_false, faV_ptr, Nat.zero_add, rdv_ptr, v0, v1]
  have k011 : Keep no H H12 := ((k13.trans p3).trans k11).trans k12
  have z0 := ((k13.trans p3).trans k11).size
  have kf : Keep (fun b => b = H11.size) H21 (H21.setIfInBounds H11.size (.deferred none)) := .set rfl
  exact ⟨k21.at hd20 fun h => h, hR _ ((((k011.trans' k15 fun b e => .inr (by omega)).trans k1520).trans k21).trans' kf fun b e => .inr (by omega))⟩
end Go.Proofs.YtdoimhpmnmmffaaGreat

