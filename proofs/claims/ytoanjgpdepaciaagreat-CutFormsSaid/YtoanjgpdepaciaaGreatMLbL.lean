/-
  'casebooklaw36.CutForms' returns true for every graph and every cut, and changes nothing that was handed to it.
-/
import Derived.Test.YtoanjgpdepaciaaGreatRows
import Derived.Test.YtoanjgpdepaciaaGreatLd
import Derived.Test.YtoanjgpdepaciaaGreatMEwJ
import Derived.Test.YtoanjgpdepaciaaGreatEngb
namespace Go.Proofs.YtoanjgpdepaciaaGreat
open Go.RowKit Go.Cb Go.En Go.ChangeShapes Go.WideShapes Go.ChangeAt
set_option linter.all false
set_option maxRecDepth 100000

theorem tAgg25_LbL : AggT Tryz.prog 25 4 = true := by kernel_rfl
theorem tAgg28_LbL : AggT Tryz.prog 28 2 = true := by kernel_rfl

/-! ### The plain law -/
theorem allB_iff {n : Nat} {p : Nat → Bool} : allB n p = true ↔ ∀ i, i < n → p i = true := by
  unfold allB; rw [List.all_eq_true]
  exact ⟨fun h i hi => h i (List.mem_range.2 hi), fun h i hi => h i (List.mem_range.1 hi)⟩
theorem anyB_iff {n : Nat} {p : Nat → Bool} : anyB n p = true ↔ ∃ i, i < n ∧ p i = true := by
  unfold anyB; rw [List.any_eq_true]
  exact ⟨fun ⟨i, hi, h⟩ => ⟨i, List.mem_range.1 hi, h⟩, fun ⟨i, hi, h⟩ => ⟨i, List.mem_range.2 hi, h⟩⟩
theorem atF_lt (c : Cut) (l : List ByteArray) (i : Nat) : atF c l i < c.parts.length := (idx_bd _ _).2
theorem forms_law {l : List ByteArray} {n : Nat} {E : Nat → Nat → Bool} {S F : Nat → Bool} {c : Cut} (hF : formedB c = true) : validB l n E S F c = refB l n E S F c := by
  have hk : 1 ≤ c.kind ∧ c.kind ≤ 4 := by
    unfold formedB at hF
    simp only [Bool.and_eq_true, decide_eq_true_eq] at hF
    exact ⟨hF.1.1.1, hF.1.1.2⟩
  have hlt := atF_lt c l
  generalize hat : atF c l = A at hlt
  generalize hR : reachB n E = R
  unfold validB refB
  rw [hat, hR, Bool.eq_iff_iff]
  simp only [Bool.and_eq_true, decide_eq_true_eq, Bool.or_eq_true, Bool.not_eq_true', decide_eq_false_iff_not, allB_iff]
  have core : (∀ i, i < n → 0 ≤ A i) → (((∀ i, i < n → okA n E R S F c.kind A i = true) ∧ (¬c.kind = 3 ∨ ∀ i, i < c.parts.length → okP n S F A i = true)) ↔
      ((∀ i, i < c.parts.length → endOk n S F c.kind A i = true) ∧ ∀ i, i < n → ∀ j, j < n → ¬A i < A j ∨ pairB n E R S F c.kind i j (decide (A i = 0)) = true)) := fun h0 => by
    have okA' : ∀ a, okA n E R S F c.kind A a = true ↔ (¬ (c.kind = 4 ∧ A a ≠ 0 ∧ (S a = true ∨ F a = true)) ∧ ∀ b, b < n → A a = A b ∨ fitsB n E R S F c.kind A a b = true) := fun a => by
      unfold okA
      simp only [Bool.and_eq_true, Bool.not_eq_true', allB_iff, Bool.or_eq_true, decide_eq_true_eq]
      rw [← Bool.not_eq_true]
      simp only [Bool.and_eq_true, decide_eq_true_eq, Bool.or_eq_true, and_assoc]
    have endOk' : ∀ i : Nat, endOk n S F c.kind A i = true ↔ ((c.kind = 3 → (∃ a, a < n ∧ A a = i ∧ S a = true) ∧ (∃ a, a < n ∧ A a = i ∧ F a = true)) ∧ (c.kind = 4 → 0 < i → (∀ a, a < n → A a = i → S a = false) ∧ (∀ a, a < n → A a = i → F a = false))) := fun i => by
      have hs : ∀ X : Nat → Bool, anyB n (fun a => decide (A a = i) && X a) = true ↔ ∃ a, a < n ∧ A a = i ∧ X a = true := fun X => by
        rw [anyB_iff]; simp only [Bool.and_eq_true, decide_eq_true_eq]
      have hn : ∀ X : Nat → Bool, anyB n (fun a => decide (A a = i) && X a) = false ↔ ∀ a, a < n → A a = i → X a = false := fun X => by
        rw [← Bool.not_eq_true, hs]
        constructor
        · intro h a ha hai; rw [← Bool.not_eq_true]; exact fun hx => h ⟨a, ha, hai, hx⟩
        · rintro h ⟨a, ha, hai, hx⟩; rw [h a ha hai] at hx; cases hx
      constructor
      · intro h
        refine ⟨fun h3 => ⟨?_, ?_⟩, fun h4 hi => ⟨?_, ?_⟩⟩
        · rw [← hs]; rw [← Bool.not_eq_false]; intro hx; rw [endOk_no rfl rfl (.inl ⟨h3, .inl hx⟩)] at h; cases h
        · rw [← hs]; rw [← Bool.not_eq_false]; intro hx; rw [endOk_no rfl rfl (.inl ⟨h3, .inr hx⟩)] at h; cases h
        · rw [← hn]; rw [← Bool.not_eq_true]; intro hx; rw [endOk_no rfl rfl (.inr ⟨h4, hi, .inl hx⟩)] at h; cases h
        · rw [← hn]; rw [← Bool.not_eq_true]; intro hx; rw [endOk_no rfl rfl (.inr ⟨h4, hi, .inr hx⟩)] at h; cases h
      · rintro ⟨h1, h2⟩
        exact endOk_yes rfl rfl (fun h3 => ⟨(hs S).2 (h1 h3).1, (hs F).2 (h1 h3).2⟩) (fun h4 hi => ⟨(hn S).2 (h2 h4 hi).1, (hn F).2 (h2 h4 hi).2⟩)
    have okP' : ∀ i : Nat, okP n S F A i = true ↔ (∃ a, a < n ∧ A a = i ∧ S a = true) ∧ (∃ a, a < n ∧ A a = i ∧ F a = true) := fun i => by
      unfold okP
      rw [Bool.and_eq_true, anyB_iff, anyB_iff]
      simp only [Bool.and_eq_true, decide_eq_true_eq]
    simp only [okA', endOk', okP']
    have hkc : c.kind = 1 ∨ c.kind = 2 ∨ c.kind = 3 ∨ c.kind = 4 := by omega
    constructor
    · rintro ⟨h1, h2⟩
      refine ⟨fun i hi => ⟨fun h3 => (h2.resolve_left (fun h => h h3)) i hi, fun h4 h0i => ⟨fun a ha hai => ?_, fun a ha hai => ?_⟩⟩, fun i hi j hj => ?_⟩
      · rw [← Bool.not_eq_true]; exact fun hx => (h1 a ha).1 ⟨h4, by omega, .inl hx⟩
      · rw [← Bool.not_eq_true]; exact fun hx => (h1 a ha).1 ⟨h4, by omega, .inr hx⟩
      · by_cases hij : A i < A j
        · right
          have f1 := ((h1 i hi).2 j hj).resolve_left (by omega)
          have f2 := ((h1 j hj).2 i hi).resolve_left (by omega)
          unfold fitsB at f1 f2
          unfold pairB
          have := h0 i hi
          rcases hkc with h | h | h | h
          · rw [if_pos h] at f1 f2 ⊢; rw [f1, f2]; rfl
          · rw [if_neg (by omega), if_pos h] at f1 f2 ⊢
            rw [decide_eq_false (show ¬ A j < A i by omega), Bool.false_or] at f1; exact f1
          · rw [if_neg (by omega), if_neg (by omega), if_pos h] at f1 f2 ⊢; rw [f1, f2]; rfl
          · rw [if_neg (by omega), if_neg (by omega), if_neg (by omega)] at f1 f2 ⊢
            by_cases hz : A i = 0
            · rw [if_neg (by omega), if_pos hz] at f1
              rw [decide_eq_true hz, if_pos rfl]; exact f1
            · rw [if_pos ⟨hz, by omega⟩] at f1
              rw [if_pos ⟨by omega, hz⟩] at f2
              rw [decide_eq_false hz, if_neg (by simp), f1, f2]; rfl
        · exact .inl hij
    · rintro ⟨h1, h2⟩
      refine ⟨fun a ha => ⟨?_, fun b hb => ?_⟩, ?_⟩
      · rintro ⟨h4, hz, hx⟩
        have h00 := h0 a ha
        have hla := hlt a
        have := (h1 (A a).toNat (by omega)).2 h4 (by omega)
        rcases hx with hx | hx
        · rw [this.1 a ha (by omega)] at hx; cases hx
        · rw [this.2 a ha (by omega)] at hx; cases hx
      · by_cases hab : A a = A b
        · exact .inl hab
        · right
          have h0a := h0 a ha
          have h0b := h0 b hb
          have g1 : A a < A b → pairB n E R S F c.kind a b (decide (A a = 0)) = true := fun h => (h2 a ha b hb).resolve_left (fun h' => h' h)
          have g2 : A b < A a → pairB n E R S F c.kind b a (decide (A b = 0)) = true := fun h => (h2 b hb a ha).resolve_left (fun h' => h' h)
          unfold pairB at g1 g2
          unfold fitsB
          rcases hkc with h | h | h | h
          · rw [if_pos h] at g1 g2 ⊢
            simp only [Bool.and_eq_true] at g1 g2
            rcases Int.lt_or_gt_of_ne hab with hl | hl
            · exact (g1 hl).1
            · exact (g2 hl).2
          · rw [if_neg (by omega), if_pos h] at g1 g2 ⊢
            rcases Int.lt_or_gt_of_ne hab with hl | hl
            · rw [g1 hl]; simp
            · rw [decide_eq_true hl]; rfl
          · rw [if_neg (by omega), if_neg (by omega), if_pos h] at g1 g2 ⊢
            simp only [Bool.and_eq_true] at g1 g2
            rcases Int.lt_or_gt_of_ne hab with hl | hl
            · exact (g1 hl).1
            · exact (g2 hl).2
          · rw [if_neg (by omega), if_neg (by omega), if_neg (by omega)] at g1 g2 ⊢
            by_cases hz : A a = 0
            · rw [if_neg (by omega), if_pos hz]
              have := g1 (by omega)
              rw [decide_eq_true hz, if_pos rfl] at this; exact this
            · by_cases hzb : A b = 0
              · rw [if_neg (by omega), if_neg hz]
              · rw [if_pos ⟨hz, hzb⟩]
                rcases Int.lt_or_gt_of_ne hab with hl | hl
                · have := g1 hl
                  rw [decide_eq_false hz, if_neg (by simp), Bool.and_eq_true] at this; exact this.1
                · have := g2 hl
                  rw [decide_eq_false hzb, if_neg (by simp), Bool.and_eq_true] at this; exact this.2
      · by_cases h3 : c.kind = 3
        · exact .inr fun i hi => (h1 i hi).1 h3
        · exact .inl h3
  constructor
  · rintro ⟨⟨⟨h1, h2⟩, h3⟩, h4⟩
    obtain ⟨h5, h6⟩ := (core h2).1 ⟨h3, h4⟩
    exact ⟨⟨h2, h1, h5⟩, h6⟩
  · rintro ⟨⟨h2, h1, h5⟩, h6⟩
    obtain ⟨h3, h4⟩ := (core h2).2 ⟨h5, h6⟩
    exact ⟨⟨⟨h1, h2⟩, h3⟩, h4⟩
/-- Which cuts are cuts of a graph. -/
def cutOk (g : Dfg) (c : Cut) : Bool := dfgOk g && formedB c && refB (cnames g.acts) g.acts.length (edgeF (cnames g.acts) g.follows) (markF (cnames g.acts) g.starts) (markF (cnames g.acts) g.ends) c
theorem cValid_e (g : Dfg) (c : Cut) (hf : fitD g) (ha : g.acts.length ≤ 1000000) (hst : g.starts.length ≤ 1000000) (he : g.ends.length ≤ 1000000) (hs : ∀ p ∈ c.parts, ∀ s ∈ p, s.size ≤ 140737488355328) (hpl : c.parts.length ≤ 1000000) : AF Tryz.prog 10 [pDfg g, pCut c] (· = pBool (cutOk g c)) := by
  have hb := cBegin_e g hf ha hst he
  unfold RBegin at hb
  unfold cutOk
  cases hd : dfgOk g with
  | false =>
    rw [hd] at hb
    exact cValid_no g c hb hs
  | true =>
    rw [hd] at hb
    have hna : (cnames g.acts).length = g.acts.length := by simp [cnames]
    have h40 := (dfg_parts hd).1
    cases hF : formedB c with
    | false => exact cValid_unformed g (cnames g.acts) g.acts.length _ _ _ c hb hF hs
    | true =>
      rw [← forms_law hF]
      exact cValid_good g (cnames g.acts) g.acts.length _ _ _ c hb hna (by omega) hF hs hpl
theorem rValid36_e (g : Dfg) (c : Cut) (hf : fitD g) (ha : g.acts.length ≤ 1000000) (hs : ∀ p ∈ c.parts, ∀ s ∈ p, s.size ≤ 140737488355328) (hfl : c.parts.flatten.length ≤ 1000000) (hpl : c.parts.length ≤ 1000000) : AF Tryz.prog 11 [pDfg g, pCut c] (· = pBool (cutOk g c)) := by
  have hv := r17Valid_e g hf ha
  unfold cutOk
  cases hd : dfgOk g with
  | false => exact rValid36_no g c hv hs hfl hpl (.inl hd)
  | true =>
    cases hF : formedB c with
    | false => exact rValid36_no g c hv hs hfl hpl (.inr hF)
    | true =>
      rw [hd] at hv
      have hna : (cnames g.acts).length = g.acts.length := by simp [cnames]
      have h40 := (dfg_parts hd).1
      exact rValid36_good g (cnames g.acts) g.acts.length _ _ _ c hv (rOf_e g hd hf.2.2.2.1 hf.2.1.1 hf.2.2.1.1) hna (by omega) hF hs hfl hpl
theorem plainB_lens {g : Dfg} (h : plainB g = true) : g.acts.length ≤ 10 ∧ g.starts.length ≤ 12 ∧ g.ends.length ≤ 12 ∧ g.follows.length ≤ 110 := by
  unfold plainB at h
  simp only [Bool.and_eq_true, decide_eq_true_eq] at h
  exact ⟨h.1.1.1.1.1, h.1.1.1.1.2, h.1.1.1.2, h.1.1.2⟩
theorem fewB_lens {c : Cut} (h : fewB c = true) : c.parts.length ≤ 10 ∧ c.parts.flatten.length ≤ 120 := by
  unfold fewB at h
  simp only [Bool.and_eq_true, decide_eq_true_eq, Bool.not_eq_true', List.any_eq_false] at h
  have h2 : ∀ p ∈ c.parts, p.length ≤ 12 := fun p hp => by
    have := h.2 p hp
    unfold manyPart at this
    simp only [Bool.or_eq_true, decide_eq_true_eq, not_or] at this
    omega
  have key : ∀ l : List (List ByteArray), (∀ p ∈ l, p.length ≤ 12) → l.flatten.length ≤ l.length * 12 := fun l => by
    induction l with
    | nil => intro _; simp
    | cons p l ih =>
      intro hl
      rw [List.flatten_cons, List.length_append, List.length_cons, Nat.add_mul]
      have h3 := hl p (by simp)
      have h4 := ih fun q hq => hl q (by simp [hq])
      omega
  have := key _ h2
  omega
theorem cutForms_e (g : Dfg) (c : Cut) (hf : fitD g) (hc : fitC c) : AF Tryz.prog 3 [pDfg g, pCut c] (· = pBool true) := by
  have hs : ∀ p ∈ c.parts, ∀ s ∈ p, s.size ≤ 140737488355328 := fun p hp s hs => (hc.2.1 p hp).2 s hs
  refine AF.of_body 25 Tryz.func3 rfl Tryz.ntmps3 (Nat.le_of_ble_eq_true rfl) ?_
  intro w0 M0 vs hl hv
  obtain ⟨v0, v1, rfl⟩ := len2 hl
  clear hl hv
  refine nav ?_
  (refine aC_region ?_
    <;> refine s_boxa 2 4 fun h2 => ?_
    <;> refine s_boxa 3 2 fun h3 => ?_
    <;> refine xL 4 q_assign ?_
    <;> refine aL_end (nav ?_) <;> try dsimp only)
  (refine aC_region ?_
    <;> (refine cS 5 (cA Tryz.call7 (awake_e)) fun v5 hv5 => ?_; cases hv5)
    <;> refine xL 6 q_not ?_
    <;> refine xL 7 q_move ?_
    <;> (refine yL 8 (q_ldao 2 tAgg25_LbL) fun v8 hv8 => ?_; cases hv8)
    <;> (refine cS 9 (cA Tryz.call8 (plain36_e g)) fun v9 hv9 => ?_; cases hv9)
    <;> refine xL 10 q_not ?_
    <;> refine xL 11 q_pick ?_
    <;> refine xL 12 q_move ?_
    <;> (refine bL 12 (fun hb12 => ?_) (fun hb12 => ?_) <;> (first | refine kL 13 ?_ | (refine yL 13 (q_ldao 3 tAgg28_LbL) fun v13 hv13 => ?_; cases hv13)))
    <;> (first | refine kL 14 ?_ | (refine cS 14 (cA Tryz.call9 (few_e c)) fun v14 hv14 => ?_; cases hv14))
    <;> (first | refine kL 15 ?_ | refine xL 15 q_not ?_)
    <;> refine xL 16 q_pick ?_
    <;> refine aL_end (nav ?_) <;> try dsimp only) <;> (
    first | refine cCd (fun hb16 => ?_) (fun hb16 => ?_) | refine cC (fun hb16 => ?_) (fun hb16 => ?_)
    · first
      | exact Bool.noConfusion hb16
      | (
          refine nav ?_
          (refine aC_region ?_
            <;> (refine cS 17 (cA Tryz.call7 (awake_e)) fun v17 hv17 => ?_; cases hv17)
            <;> refine xL 4 q_assign ?_
            <;> refine aL_end (nav ?_) <;> try dsimp only)
          exact ret_shr Tryz.results3 rfl rfl)
    · first
      | exact Bool.noConfusion hb16
      | (
          have hpl := plainB_lens (g := g) (by simpa using hb12)
          have hfe := fewB_lens (c := c) (by simpa using hb16)
          refine nav ?_
          (refine aC_draw (fun i => ([] : List Nat).elem i) [2, 3] (by kernel_rfl) ?_
            <;> (refine yD 0 18 rfl (q_ldao 2 tAgg25_LbL) fun v18 hv18 => ?_; cases hv18)
            <;> (refine yD 1 19 rfl (q_ldao 3 tAgg28_LbL) fun v19 hv19 => ?_; cases hv19)
            <;> (refine yD 3 21 rfl (q_ldao 2 tAgg25_LbL) fun v21 hv21 => ?_; cases hv21)
            <;> (refine yD 4 22 rfl (q_ldao 3 tAgg28_LbL) fun v22 hv22 => ?_; cases hv22)
            <;> (refine aD_one 2 (by kernel_rfl) ?_)
            <;> (refine aW_call (d := 20) rfl (cA Tryz.call10 (cValid_e g c hf (by omega) (by omega) (by omega) hs (by omega))) fun v20 hv20 => ?_; cases hv20)
            <;> (refine aD_one 5 (by kernel_rfl) ?_)
            <;> (refine aW_call (d := 23) rfl (cA Tryz.call11 (rValid36_e g c hf (by omega) hs (by omega) (by omega))) fun v23 hv23 => ?_; cases hv23)
            <;> refine xE 6 24 rfl (q_beql Tryz.underlying4) ?_
            <;> refine xE 7 4 rfl q_assign ?_
            <;> refine aD_end (by kernel_rfl) (nav ?_)
            <;> try dsimp only)
          refine ret_shr (Tryz.results3) rfl ?_
          simp))
/-! ### How the arguments read -/
theorem dStr : Dec Tryz.prog 9 1 (fun s : ByteArray => [pStr s]) (fun s => s.size ≤ 140737488355328) := dec_str Tryz.underlying9 (by kernel_rfl)
theorem dStrs : Dec Tryz.prog 36 1 (fun l => [pStrs l]) fitS :=
  dec_map id (dec_slice Tryz.underlying36 (by kernel_rfl) (by decide) (Nat.le_of_ble_eq_true (by kernel_rfl)) dStr) (fun _ => rfl) (fun l => by show [PV.sl l.length (l.map pStr)] = _; rw [flat_one]) (fun _ h => h)
theorem dStrss : Dec Tryz.prog 26 1 (fun l => [pStrss l]) (fun l => l.length ≤ 140737488355328 ∧ ∀ p ∈ l, fitS p) :=
  dec_map id (dec_slice Tryz.underlying26 (by kernel_rfl) (by decide) (Nat.le_of_ble_eq_true (by kernel_rfl)) dStrs) (fun _ => rfl) (fun l => by show [PV.sl l.length (l.map pStrs)] = _; rw [flat_one]) (fun _ h => h)
theorem dInt : Dec Tryz.prog 3 1 (fun n : Int => [pInt n]) (fun n => -9223372036854775808 ≤ n ∧ n ≤ 9223372036854775807) := dec_int Tryz.underlying3 (by kernel_rfl)
theorem dCut : Dec Tryz.prog 28 2 (fun c : Cut => [pInt c.kind, pStrss c.parts]) fitC :=
  dec_map (fun x => ⟨x.1, x.2⟩) (dec_struct2 Tryz.underlying28 (by kernel_rfl) dInt dStrss rfl rfl) (fun _ => rfl) (fun _ => rfl) (fun _ h => ⟨h.2.1, h.2.2, h.1⟩)
theorem dCnt : Dec Tryz.prog 62 2 cCnt (fun x => x.name.size ≤ 140737488355328 ∧ -9223372036854775808 ≤ x.n ∧ x.n ≤ 9223372036854775807) :=
  dec_map (fun x => ⟨x.1, x.2⟩) (dec_struct2 Tryz.underlying62 (by kernel_rfl) dStr dInt rfl rfl) (fun _ => rfl) (fun _ => rfl) (fun _ h => h)
theorem dCnts : Dec Tryz.prog 22 1 (fun l => [pCnts l]) fitCnt :=
  dec_map id (dec_slice Tryz.underlying22 (by kernel_rfl) (by decide) (Nat.le_of_ble_eq_true (by kernel_rfl)) dCnt) (fun _ => rfl) (fun _ => rfl) (fun _ h => h)
theorem dFlw : Dec Tryz.prog 68 3 cFlw (fun x => x.src.size ≤ 140737488355328 ∧ x.dst.size ≤ 140737488355328 ∧ -9223372036854775808 ≤ x.n ∧ x.n ≤ 9223372036854775807) :=
  dec_map (fun x => ⟨x.1, x.2.1, x.2.2⟩) (dec_struct3 Tryz.underlying68 (by kernel_rfl) dStr dStr dInt rfl rfl rfl) (fun _ => rfl) (fun _ => rfl) (fun _ h => h)
theorem dFlws : Dec Tryz.prog 23 1 (fun l => [pFlws l]) fitFlw :=
  dec_map id (dec_slice Tryz.underlying23 (by kernel_rfl) (by decide) (Nat.le_of_ble_eq_true (by kernel_rfl)) dFlw) (fun _ => rfl) (fun _ => rfl) (fun _ h => h)
theorem dDfg : Dec Tryz.prog 25 4 (fun g : Dfg => [pCnts g.acts, pCnts g.starts, pCnts g.ends, pFlws g.follows]) fitD :=
  dec_map (fun x : List Cnt × List Cnt × List Cnt × List Flw => (⟨x.1, x.2.1, x.2.2.1, x.2.2.2⟩ : Dfg)) (dec_struct4 Tryz.underlying25 (by kernel_rfl) dCnts dCnts dCnts dFlws rfl rfl rfl rfl) (fun _ => rfl) (fun _ => rfl) (fun _ h => h)
/-! ### The row -/
theorem own : ownKnob Tryz.prog.godebug = none := by kernel_rfl
theorem laidOut : laidOutB Tryz.prog = true := by kernel_rfl
theorem lifted (os : Os) (started : os.Started) (H : Type) (enc : TypeId × Value → H) :
    ReturnsInHanded {} Tryz.checked os 3 .any (Rows.cutFormsSpec.pre6 enc Tryz.prog Tryz.f3 Rows.cutFormsRow.domain false) (Rows.cutFormsSpec.post enc Tryz.prog Tryz.f3 false true false false) := by
  refine returnsInHanded_of_change_sized (C := Tryz.checked) own started (by kernel_rfl) Tryz.func3
    (ChangeSpec.witness6 (enc := enc) (C := Tryz.checked) false ⟨#[], #[(.agg #[(.slice none 0 0), (.slice none 0 0), (.slice none 0 0), (.slice none 0 0)]), (.agg #[(.int .i64 0), (.slice none 0 0)])], []⟩ 8 (by kernel_rfl) (by kernel_rfl) (by kernel_rfl) (by kernel_rfl)) ?_
  intro W base args ds gs before hval0 hW hcnd hsz _
  have hval : ∀ (j : Nat) t v, Tryz.f3.params[j]? = some t → args[j]? = some v → Value.okWide Tryz.prog W .any base t v := hval0
  have hW' := hW
  obtain ⟨p, q, hA0, hV, rfl, hfz, hnd⟩ := hW
  have hA : DataW.TrodAll enc Tryz.prog W 0 (fun _ => true) true Tryz.f3.params.toList args.toList ds p := hA0
  have hsz' : ∀ n ∈ DataW.weightsEach Tryz.prog (Tryz.f3.params.toList ++ Rows.cutFormsSpec.plain.varTypes Tryz.prog) (ds ++ gs), n ≤ reachBytes := fun n hn => by
    have := List.all_eq_true.1 hsz n hn
    exact of_decide_eq_true this
  have hK := hA
  rw [Tryz.params3] at hA hval hsz'
  obtain ⟨v0, vs0, d0, ds0, p0, q0, hargs, rfl, rfl, h0, r0⟩ := trodAll_cons hA
  obtain ⟨v1, vs1, d1, ds1, p1, q1, rfl, rfl, rfl, h1, r1⟩ := trodAll_cons r0
  obtain ⟨rfl, rfl, rfl⟩ := trodAll_nil r1
  obtain rfl : args = #[v0, v1] := by cases args; simp_all
  obtain ⟨rfl, rfl⟩ := trodVars_none hV
  obtain ⟨xg, hxg, s0⟩ := argA dDfg (by kernel_rfl) (hval 0 _ v0 rfl rfl) h0 (fun n hn => hsz' n (weightsEach_mem _ 0 rfl rfl hn))
  obtain ⟨xc, hxc, s1⟩ := argA dCut (by kernel_rfl) (hval 1 _ v1 rfl rfl) h1 (fun n hn => hsz' n (weightsEach_mem _ 1 rfl rfl hn))
  refine ((cutForms_e xg xc hxg hxc).law (vs := [v0, v1]) rfl (fun i v p hv hp => ?_)).mono fun e W' ⟨he, bel⟩ => ?_
  · match i with
    | 0 => simp at hv hp; subst hv hp; exact s0
    | 1 => simp at hv hp; subst hv hp; exact s1
    | i + 2 => simp at hv
  subst he
  exact ⟨_, rfl, _, _, _, [], _, [], hW', trodAll_mk1 (shut_bool Tryz.underlying4 _), trodAll_back laidOut bel (by kernel_rfl) hK, rfl, bel.frame _, fun h => by cases h⟩

theorem over : Rows.cutFormsRow.holds Tryz.pinned (OpenSpec.ofChange Rows.cutFormsSpec) :=
  OpenClaim.holds_of_wide 3 Tryz.f3 rfl rfl rfl rfl rfl rfl rfl ⟨rfl, rfl, rfl, rfl, rfl⟩ rfl rfl rfl rfl rfl (by kernel_rfl) Tryz.func3 (by kernel_rfl)
    (of_decide_eq_true (by kernel_rfl)) (by unfold Func.isWrapper; first | (rw [if_pos (by decide +kernel)]; kernel_rfl) | (rw [if_neg (by decide +kernel)]; exact ⟨rfl, rfl⟩))
    (fun os started H enc _ => lifted os started H enc)

theorem cutForms_holds : Rows.CutFormsSaid := over
end Go.Proofs.YtoanjgpdepaciaaGreat
