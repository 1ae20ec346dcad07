/-
  Which cuts are cuts of a graph: two ways agree; how graphs and cuts read that came in.
-/
import Derived.Test.YtoanjgpdepaciaaGreatLd
import Derived.Test.YtoanjgpdepaciaaGreatMEwJ
import Derived.Test.YtoanjgpdepaciaaGreatEngb
namespace Go.Proofs.YtoanjgpdepaciaaGreat
open Go.RowKit Go.Cb Go.En Go.ChangeShapes Go.WideShapes Go.ChangeAt
set_option linter.all false
set_option maxRecDepth 100000



/-! ### The plain law -/
theorem allB_iff {n : Nat} {p : Nat → Bool} : allB n p = true ↔ ∀ i, i < n → p i = true := by
  unfold allB; rw [List.all_eq_true]
  exact ⟨fun h i hi => h i (List.mem_range.2 hi), fun h i hi => h i (List.mem_range.1 hi)⟩
theorem anyB_iff {n : Nat} {p : Nat → Bool} : anyB n p = true ↔ ∃ i, i < n ∧ p i = true := by
  unfold anyB; rw [List.any_eq_true]
  exact ⟨fun ⟨i, hi, h⟩ => ⟨i, List.mem_range.1 hi, h⟩, fun ⟨i, hi, h⟩ => ⟨i, List.mem_range.2 hi, h⟩⟩
theorem atF_lt (c : Cut) (l : List ByteArray) (i : Nat) : atF c l i < c.parts.length := (idx_bd _ _).2
theorem forms_law {l : List ByteArray} {n : Nat} {E : Nat → Nat → Bool} {S F : Nat → Bool} {c : Cut} (hF : formedB c = true) : validB l n E S F c = refB l n E S F c := by
  have hk : 1 ≤ c.kind ∧ c.kind ≤ 4 := by
    unfold formedB at hF
    simp only [Bool.and_eq_true, decide_eq_true_eq] at hF
    exact ⟨hF.1.1.1, hF.1.1.2⟩
  have hlt := atF_lt c l
  generalize hat : atF c l = A at hlt
  generalize hR : reachB n E = R
  unfold validB refB
  rw [hat, hR, Bool.eq_iff_iff]
  simp only [Bool.and_eq_true, decide_eq_true_eq, Bool.or_eq_true, Bool.not_eq_true', decide_eq_false_iff_not, allB_iff]
  have core : (∀ i, i < n → 0 ≤ A i) → (((∀ i, i < n → okA n E R S F c.kind A i = true) ∧ (¬c.kind = 3 ∨ ∀ i, i < c.parts.length → okP n S F A i = true)) ↔
      ((∀ i, i < c.parts.length → endOk n S F c.kind A i = true) ∧ ∀ i, i < n → ∀ j, j < n → ¬A i < A j ∨ pairB n E R S F c.kind i j (decide (A i = 0)) = true)) := fun h0 => by
    have okA' : ∀ a, okA n E R S F c.kind A a = true ↔ (¬ (c.kind = 4 ∧ A a ≠ 0 ∧ (S a = true ∨ F a = true)) ∧ ∀ b, b < n → A a = A b ∨ fitsB n E R S F c.kind A a b = true) := fun a => by
      unfold okA
      simp only [Bool.and_eq_true, Bool.not_eq_true', allB_iff, Bool.or_eq_true, decide_eq_true_eq]
      rw [← Bool.not_eq_true]
      simp only [Bool.and_eq_true, decide_eq_true_eq, Bool.or_eq_true, and_assoc]
    have endOk' : ∀ i : Nat, endOk n S F c.kind A i = true ↔ ((c.kind = 3 → (∃ a, a < n ∧ A a = i ∧ S a = true) ∧ (∃ a, a < n ∧ A a = i ∧ F a = true)) ∧ (c.kind = 4 → 0 < i → (∀ a, a < n → A a = i → S a = false) ∧ (∀ a, a < n → A a = i → F a = false))) := fun i => by
      have hs : ∀ X : Nat → Bool, anyB n (fun a => decide (A a = i) && X a) = true ↔ ∃ a, a < n ∧ A a = i ∧ X a = true := fun X => by
        rw [anyB_iff]; simp only [Bool.and_eq_true, decide_eq_true_eq]
      have hn : ∀ X : Nat → Bool, anyB n (fun a => decide (A a = i) && X a) = false ↔ ∀ a, a < n → A a = i → X a = false := fun X => by
        rw [← Bool.not_eq_true, hs]
        constructor
        · intro h a ha hai; rw [← Bool.not_eq_true]; exact fun hx => h ⟨a, ha, hai, hx⟩
        · rintro h ⟨a, ha, hai, hx⟩; rw [h a ha hai] at hx; cases hx
      constructor
      · intro h
        refine ⟨fun h3 => ⟨?_, ?_⟩, fun h4 hi => ⟨?_, ?_⟩⟩
        · rw [← hs]; rw [← Bool.not_eq_false]; intro hx; rw [endOk_no rfl rfl (.inl ⟨h3, .inl hx⟩)] at h; cases h
        · rw [← hs]; rw [← Bool.not_eq_false]; intro hx; rw [endOk_no rfl rfl (.inl ⟨h3, .inr hx⟩)] at h; cases h
        · rw [← hn]; rw [← Bool.not_eq_true]; intro hx; rw [endOk_no rfl rfl (.inr ⟨h4, hi, .inl hx⟩)] at h; cases h
        · rw [← hn]; rw [← Bool.not_eq_true]; intro hx; rw [endOk_no rfl rfl (.inr ⟨h4, hi, .inr hx⟩)] at h; cases h
      · rintro ⟨h1, h2⟩
        exact endOk_yes rfl rfl (fun h3 => ⟨(hs S).2 (h1 h3).1, (hs F).2 (h1 h3).2⟩) (fun h4 hi => ⟨(hn S).2 (h2 h4 hi).1, (hn F).2 (h2 h4 hi).2⟩)
    have okP' : ∀ i : Nat, okP n S F A i = true ↔ (∃ a, a < n ∧ A a = i ∧ S a = true) ∧ (∃ a, a < n ∧ A a = i ∧ F a = true) := fun i => by
      unfold okP
      rw [Bool.and_eq_true, anyB_iff, anyB_iff]
      simp only [Bool.and_eq_true, decide_eq_true_eq]
    simp only [okA', endOk', okP']
    have hkc : c.kind = 1 ∨ c.kind = 2 ∨ c.kind = 3 ∨ c.kind = 4 := by omega
    constructor
    · rintro ⟨h1, h2⟩
      refine ⟨fun i hi => ⟨fun h3 => (h2.resolve_left (fun h => h h3)) i hi, fun h4 h0i => ⟨fun a ha hai => ?_, fun a ha hai => ?_⟩⟩, fun i hi j hj => ?_⟩
      · rw [← Bool.not_eq_true]; exact fun hx => (h1 a ha).1 ⟨h4, by omega, .inl hx⟩
      · rw [← Bool.not_eq_true]; exact fun hx => (h1 a ha).1 ⟨h4, by omega, .inr hx⟩
      · by_cases hij : A i < A j
        · right
          have f1 := ((h1 i hi).2 j hj).resolve_left (by omega)
          have f2 := ((h1 j hj).2 i hi).resolve_left (by omega)
          unfold fitsB at f1 f2
          unfold pairB
          have := h0 i hi
          rcases hkc with h | h | h | h
          · rw [if_pos h] at f1 f2 ⊢; rw [f1, f2]; rfl
          · rw [if_neg (by omega), if_pos h] at f1 f2 ⊢
            rw [decide_eq_false (show ¬ A j < A i by omega), Bool.false_or] at f1; exact f1
          · rw [if_neg (by omega), if_neg (by omega), if_pos h] at f1 f2 ⊢; rw [f1, f2]; rfl
          · rw [if_neg (by omega), if_neg (by omega), if_neg (by omega)] at f1 f2 ⊢
            by_cases hz : A i = 0
            · rw [if_neg (by omega), if_pos hz] at f1
              rw [decide_eq_true hz, if_pos rfl]; exact f1
            · rw [if_pos ⟨hz, by omega⟩] at f1
              rw [if_pos ⟨by omega, hz⟩] at f2
              rw [decide_eq_false hz, if_neg (by simp), f1, f2]; rfl
        · exact .inl hij
    · rintro ⟨h1, h2⟩
      refine ⟨fun a ha => ⟨?_, fun b hb => ?_⟩, ?_⟩
      · rintro ⟨h4, hz, hx⟩
        have h00 := h0 a ha
        have hla := hlt a
        have := (h1 (A a).toNat (by omega)).2 h4 (by omega)
        rcases hx with hx | hx
        · rw [this.1 a ha (by omega)] at hx; cases hx
        · rw [this.2 a ha (by omega)] at hx; cases hx
      · by_cases hab : A a = A b
        · exact .inl hab
        · right
          have h0a := h0 a ha
          have h0b := h0 b hb
          have g1 : A a < A b → pairB n E R S F c.kind a b (decide (A a = 0)) = true := fun h => (h2 a ha b hb).resolve_left (fun h' => h' h)
          have g2 : A b < A a → pairB n E R S F c.kind b a (decide (A b = 0)) = true := fun h => (h2 b hb a ha).resolve_left (fun h' => h' h)
          unfold pairB at g1 g2
          unfold fitsB
          rcases hkc with h | h | h | h
          · rw [if_pos h] at g1 g2 ⊢
            simp only [Bool.and_eq_true] at g1 g2
            rcases Int.lt_or_gt_of_ne hab with hl | hl
            · exact (g1 hl).1
            · exact (g2 hl).2
          · rw [if_neg (by omega), if_pos h] at g1 g2 ⊢
            rcases Int.lt_or_gt_of_ne hab with hl | hl
            · rw [g1 hl]; simp
            · rw [decide_eq_true hl]; rfl
          · rw [if_neg (by omega), if_neg (by omega), if_pos h] at g1 g2 ⊢
            simp only [Bool.and_eq_true] at g1 g2
            rcases Int.lt_or_gt_of_ne hab with hl | hl
            · exact (g1 hl).1
            · exact (g2 hl).2
          · rw [if_neg (by omega), if_neg (by omega), if_neg (by omega)] at g1 g2 ⊢
            by_cases hz : A a = 0
            · rw [if_neg (by omega), if_pos hz]
              have := g1 (by omega)
              rw [decide_eq_true hz, if_pos rfl] at this; exact this
            · by_cases hzb : A b = 0
              · rw [if_neg (by omega), if_neg hz]
              · rw [if_pos ⟨hz, hzb⟩]
                rcases Int.lt_or_gt_of_ne hab with hl | hl
                · have := g1 hl
                  rw [decide_eq_false hz, if_neg (by simp), Bool.and_eq_true] at this; exact this.1
                · have := g2 hl
                  rw [decide_eq_false hzb, if_neg (by simp), Bool.and_eq_true] at this; exact this.2
      · by_cases h3 : c.kind = 3
        · exact .inr fun i hi => (h1 i hi).1 h3
        · exact .inl h3
  constructor
  · rintro ⟨⟨⟨h1, h2⟩, h3⟩, h4⟩
    obtain ⟨h5, h6⟩ := (core h2).1 ⟨h3, h4⟩
    exact ⟨⟨h2, h1, h5⟩, h6⟩
  · rintro ⟨⟨h2, h1, h5⟩, h6⟩
    obtain ⟨h3, h4⟩ := (core h2).2 ⟨h5, h6⟩
    exact ⟨⟨⟨h1, h2⟩, h3⟩, h4⟩
/-- Which cuts are cuts of a graph. -/
def cutOk (g : Dfg) (c : Cut) : Bool := dfgOk g && formedB c && refB (cnames g.acts) g.acts.length (edgeF (cnames g.acts) g.follows) (markF (cnames g.acts) g.starts) (markF (cnames g.acts) g.ends) c
theorem cValid_e (g : Dfg) (c : Cut) (hf : fitD g) (ha : g.acts.length ≤ 1000000) (hst : g.starts.length ≤ 1000000) (he : g.ends.length ≤ 1000000) (hs : ∀ p ∈ c.parts, ∀ s ∈ p, s.size ≤ 140737488355328) (hpl : c.parts.length ≤ 1000000) : AF Tryz.prog 10 [pDfg g, pCut c] (· = pBool (cutOk g c)) := by
  have hb := cBegin_e g hf ha hst he
  unfold RBegin at hb
  unfold cutOk
  cases hd : dfgOk g with
  | false =>
    rw [hd] at hb
    exact cValid_no g c hb hs
  | true =>
    rw [hd] at hb
    have hna : (cnames g.acts).length = g.acts.length := by simp [cnames]
    have h40 := (dfg_parts hd).1
    cases hF : formedB c with
    | false => exact cValid_unformed g (cnames g.acts) g.acts.length _ _ _ c hb hF hs
    | true =>
      rw [← forms_law hF]
      exact cValid_good g (cnames g.acts) g.acts.length _ _ _ c hb hna (by omega) hF hs hpl
theorem rValid36_e (g : Dfg) (c : Cut) (hf : fitD g) (ha : g.acts.length ≤ 1000000) (hs : ∀ p ∈ c.parts, ∀ s ∈ p, s.size ≤ 140737488355328) (hfl : c.parts.flatten.length ≤ 1000000) (hpl : c.parts.length ≤ 1000000) : AF Tryz.prog 11 [pDfg g, pCut c] (· = pBool (cutOk g c)) := by
  have hv := r17Valid_e g hf ha
  unfold cutOk
  cases hd : dfgOk g with
  | false => exact rValid36_no g c hv hs hfl hpl (.inl hd)
  | true =>
    cases hF : formedB c with
    | false => exact rValid36_no g c hv hs hfl hpl (.inr hF)
    | true =>
      rw [hd] at hv
      have hna : (cnames g.acts).length = g.acts.length := by simp [cnames]
      have h40 := (dfg_parts hd).1
      exact rValid36_good g (cnames g.acts) g.acts.length _ _ _ c hv (rOf_e g hd hf.2.2.2.1 hf.2.1.1 hf.2.2.1.1) hna (by omega) hF hs hfl hpl
theorem plainB_lens {g : Dfg} (h : plainB g = true) : g.acts.length ≤ 10 ∧ g.starts.length ≤ 12 ∧ g.ends.length ≤ 12 ∧ g.follows.length ≤ 110 := by
  unfold plainB at h
  simp only [Bool.and_eq_true, decide_eq_true_eq] at h
  exact ⟨h.1.1.1.1.1, h.1.1.1.1.2, h.1.1.1.2, h.1.1.2⟩
theorem fewB_lens {c : Cut} (h : fewB c = true) : c.parts.length ≤ 10 ∧ c.parts.flatten.length ≤ 120 := by
  unfold fewB at h
  simp only [Bool.and_eq_true, decide_eq_true_eq, Bool.not_eq_true', List.any_eq_false] at h
  have h2 : ∀ p ∈ c.parts, p.length ≤ 12 := fun p hp => by
    have := h.2 p hp
    unfold manyPart at this
    simp only [Bool.or_eq_true, decide_eq_true_eq, not_or] at this
    omega
  have key : ∀ l : List (List ByteArray), (∀ p ∈ l, p.length ≤ 12) → l.flatten.length ≤ l.length * 12 := fun l => by
    induction l with
    | nil => intro _; simp
    | cons p l ih =>
      intro hl
      rw [List.flatten_cons, List.length_append, List.length_cons, Nat.add_mul]
      have h3 := hl p (by simp)
      have h4 := ih fun q hq => hl q (by simp [hq])
      omega
  have := key _ h2
  omega
/-! ### How the arguments read -/
theorem dStr : Dec Tryz.prog 9 1 (fun s : ByteArray => [pStr s]) (fun s => s.size ≤ 140737488355328) := dec_str Tryz.underlying9 (by kernel_rfl)
theorem dStrs : Dec Tryz.prog 36 1 (fun l => [pStrs l]) fitS :=
  dec_map id (dec_slice Tryz.underlying36 (by kernel_rfl) (by decide) (Nat.le_of_ble_eq_true (by kernel_rfl)) dStr) (fun _ => rfl) (fun l => by show [PV.sl l.length (l.map pStr)] = _; rw [flat_one]) (fun _ h => h)
theorem dStrss : Dec Tryz.prog 26 1 (fun l => [pStrss l]) (fun l => l.length ≤ 140737488355328 ∧ ∀ p ∈ l, fitS p) :=
  dec_map id (dec_slice Tryz.underlying26 (by kernel_rfl) (by decide) (Nat.le_of_ble_eq_true (by kernel_rfl)) dStrs) (fun _ => rfl) (fun l => by show [PV.sl l.length (l.map pStrs)] = _; rw [flat_one]) (fun _ h => h)
theorem dInt : Dec Tryz.prog 3 1 (fun n : Int => [pInt n]) (fun n => -9223372036854775808 ≤ n ∧ n ≤ 9223372036854775807) := dec_int Tryz.underlying3 (by kernel_rfl)
theorem dCut : Dec Tryz.prog 28 2 (fun c : Cut => [pInt c.kind, pStrss c.parts]) fitC :=
  dec_map (fun x => ⟨x.1, x.2⟩) (dec_struct2 Tryz.underlying28 (by kernel_rfl) dInt dStrss rfl rfl) (fun _ => rfl) (fun _ => rfl) (fun _ h => ⟨h.2.1, h.2.2, h.1⟩)
theorem dCnt : Dec Tryz.prog 62 2 cCnt (fun x => x.name.size ≤ 140737488355328 ∧ -9223372036854775808 ≤ x.n ∧ x.n ≤ 9223372036854775807) :=
  dec_map (fun x => ⟨x.1, x.2⟩) (dec_struct2 Tryz.underlying62 (by kernel_rfl) dStr dInt rfl rfl) (fun _ => rfl) (fun _ => rfl) (fun _ h => h)
theorem dCnts : Dec Tryz.prog 22 1 (fun l => [pCnts l]) fitCnt :=
  dec_map id (dec_slice Tryz.underlying22 (by kernel_rfl) (by decide) (Nat.le_of_ble_eq_true (by kernel_rfl)) dCnt) (fun _ => rfl) (fun _ => rfl) (fun _ h => h)
theorem dFlw : Dec Tryz.prog 68 3 cFlw (fun x => x.src.size ≤ 140737488355328 ∧ x.dst.size ≤ 140737488355328 ∧ -9223372036854775808 ≤ x.n ∧ x.n ≤ 9223372036854775807) :=
  dec_map (fun x => ⟨x.1, x.2.1, x.2.2⟩) (dec_struct3 Tryz.underlying68 (by kernel_rfl) dStr dStr dInt rfl rfl rfl) (fun _ => rfl) (fun _ => rfl) (fun _ h => h)
theorem dFlws : Dec Tryz.prog 23 1 (fun l => [pFlws l]) fitFlw :=
  dec_map id (dec_slice Tryz.underlying23 (by kernel_rfl) (by decide) (Nat.le_of_ble_eq_true (by kernel_rfl)) dFlw) (fun _ => rfl) (fun _ => rfl) (fun _ h => h)
theorem dDfg : Dec Tryz.prog 25 4 (fun g : Dfg => [pCnts g.acts, pCnts g.starts, pCnts g.ends, pFlws g.follows]) fitD :=
  dec_map (fun x : List Cnt × List Cnt × List Cnt × List Flw => (⟨x.1, x.2.1, x.2.2.1, x.2.2.2⟩ : Dfg)) (dec_struct4 Tryz.underlying25 (by kernel_rfl) dCnts dCnts dCnts dFlws rfl rfl rfl rfl) (fun _ => rfl) (fun _ => rfl) (fun _ h => h)
end Go.Proofs.YtoanjgpdepaciaaGreat
