/-
  Contracts of other texts, turned into the engine's.
  Contracts of Go's library, turned into the engine's: strings.Join, slices.Clone.
  Plain laws: words in order; variants counted by first occurrence, then sorted, are those added in order. No program in sight.
  Walks: what cut.Split hands to ContainsFunc and SortFunc.
  slices.SortFunc over variants, on this program.
  Plain laws: cut.Split's way (counted by first occurrence, by the joined word) against the reference's. No program in sight.
-/
import Derived.Lib.Join
import Derived.Test.YtoanjgpdepaciaaMEwD
import Derived.Test.YtoanjgpdepaciaaWalkTwo
import Derived.Test.YtoanjgpdepaciaaMShelf
import Derived.Test.YtoanjgpdepaciaaPlain
import Derived.Test.YtoanjgpdepaciaaEng
import Derived.Test.YtoanjgpdepaciaaEa
namespace Go.Proofs.Ytoanjgpdepaciaa
open Go.RowKit Go.Cb Go.En
set_option linter.all false
set_option maxRecDepth 100000

/-! ### From the engine's reading to the other -/
def fitS (l : List ByteArray) : Prop := l.length ≤ 140737488355328 ∧ ∀ s ∈ l, s.size ≤ 140737488355328
def fitV (l : List Var) : Prop := l.length ≤ 140737488355328 ∧ ∀ x ∈ l, fitS x.acts ∧ -9223372036854775808 ≤ x.count ∧ x.count ≤ 9223372036854775807
def fitC (c : Cut) : Prop := c.parts.length ≤ 140737488355328 ∧ (∀ p ∈ c.parts, fitS p) ∧ -9223372036854775808 ≤ c.kind ∧ c.kind ≤ 9223372036854775807
theorem shr_sl {α : Type} {k : Nat} {E : Elt α} {f : α → List PV} (hf : ∀ x, (f x).length = k) {M : BS} {w : World} {v : Value} {l : List α} (h : Shr M w v (.sl l.length (l.flatMap f))) (hl : l.length ≤ 140737488355328)
    (hE : ∀ (x : α) (b o : Nat) (vs : Nat → Value), x ∈ l → (∀ j, j < k → w.cell? ⟨b, o + j, none⟩ = some (vs j) ∧ ¬ M b) → (∀ (j : Nat) (p : PV), (f x)[j]? = some p → Shr M w (vs j) p) → E M w b o x) : SlR k E M w v l := by
  generalize hn : l.length = n at h
  generalize hcs : l.flatMap f = cs at h
  cases h with
  | emp a c hc ha =>
    have : l = [] := List.eq_nil_of_length_eq_zero hn
    subst this
    exact ⟨a, c, rfl, Nat.zero_le _, by unfold maxLen at hc; exact hc, by simp, ha, fun i x hx => by simp at hx⟩
  | sl b off n c cs vs hnc hc hcell hT =>
    subst hn hcs
    refine ⟨some ⟨b, off, none⟩, c, rfl, hnc, by unfold maxLen at hc; exact hc, hl, (by intro h; cases h), fun i x hx => ⟨b, off, rfl, ?_⟩⟩
    have hfit := flat_fit hf hx
    refine hE x b (off + i * k) (fun j => vs (i * k + j)) (List.mem_of_getElem? hx) (fun j hj => ?_) (fun j p hp => ?_)
    · have := hcell (i * k + j) (by omega)
      rw [Nat.add_assoc]; exact this
    · have hj : j < k := by rw [← hf x]; exact lt_of_get hp
      exact hT _ p (by rw [flat_at hf hx hj]; exact hp)
theorem flat_one {α β : Type} (f : α → β) (l : List α) : l.map f = l.flatMap fun x => [f x] := by
  induction l with
  | nil => rfl
  | cons x l ih => rw [List.map_cons, ih]; rfl
theorem shr_strs {M : BS} {w : World} {v : Value} {l : List ByteArray} (h : Shr M w v (pStrs l)) (hf : fitS l) : Strs M w v l := by
  unfold pStrs at h
  rw [flat_one] at h
  refine shr_sl (k := 1) (f := fun x => [pStr x]) (fun _ => rfl) h hf.1 fun x b o vs hx hc hT => ?_
  have h0 : vs 0 = .string x := (hT 0 _ rfl).vOf
  have := hc 0 (by decide)
  rw [h0] at this
  exact ⟨this, hf.2 x hx⟩
theorem shr_vars {M : BS} {w : World} {v : Value} {l : List Var} (h : Shr M w v (pVars l)) (hf : fitV l) : Vars M w v l := by
  refine shr_sl cVar_len h hf.1 fun x b o vs hx hc hT => ?_
  obtain ⟨f1, f2, f3⟩ := hf.2 x hx
  have h1 : vs 1 = .int .i64 x.count := (hT 1 _ rfl).vOf
  have c1 := hc 1 (by decide)
  rw [h1] at c1
  exact ⟨⟨vs 0, hc 0 (by decide), shr_strs (hT 0 _ rfl) f1⟩, c1, f2, f3⟩
theorem shr_strss {M : BS} {w : World} {v : Value} {l : List (List ByteArray)} (h : Shr M w v (pStrss l)) (hl : l.length ≤ 140737488355328) (hf : ∀ p ∈ l, fitS p) : Strss M w v l := by
  unfold pStrss at h
  rw [flat_one] at h
  refine shr_sl (k := 1) (f := fun x => [pStrs x]) (fun _ => rfl) h hl fun x b o vs hx hc hT => ?_
  exact ⟨vs 0, hc 0 (by decide), shr_strs (hT 0 _ rfl) (hf x hx)⟩
theorem shr_cut {M : BS} {w : World} {v : Value} {c : Cut} (h : Shr M w v (pCut c)) (hf : fitC c) : CutR M w v c := by
  unfold pCut at h
  generalize hps : [pInt c.kind, pStrss c.parts] = ps at h
  cases h with
  | agg vs ps hl hT =>
    subst hps
    obtain ⟨a, b, rfl⟩ := len2 hl
    have h0 : a = .int .i64 c.kind := (hT 0 a _ rfl rfl).vOf
    subst h0
    exact ⟨b, rfl, shr_strss (hT 1 b _ rfl rfl) hf.1 hf.2.1, hf.2.2⟩

/-! ### And back -/
theorem sl_shr {α : Type} {k : Nat} {E : Elt α} {f : α → List PV} (hf : ∀ x, (f x).length = k) (hk : 0 < k) {M : BS} {w : World} {v : Value} {l : List α} (h : SlR k E M w v l)
    (hE : ∀ (x : α) (b o : Nat), E M w b o x → ∃ vs : Nat → Value, (∀ j, j < k → w.cell? ⟨b, o + j, none⟩ = some (vs j) ∧ ¬ M b) ∧ ∀ (j : Nat) (p : PV), (f x)[j]? = some p → Shr M w (vs j) p) : Shr M w v (.sl l.length (l.flatMap f)) := by
  obtain ⟨a, c, rfl, h1, h2, h3, h4, h5⟩ := h
  cases l with
  | nil => exact .emp a c (by unfold maxLen; exact h2) h4
  | cons x0 l0 =>
    obtain ⟨b, off, rfl, _⟩ := h5 0 x0 rfl
    generalize hL : x0 :: l0 = l at h1 h3 h5 ⊢
    have hex : ∀ i x, l[i]? = some x → ∃ vs : Nat → Value, (∀ j, j < k → w.cell? ⟨b, off + i * k + j, none⟩ = some (vs j) ∧ ¬ M b) ∧ ∀ (j : Nat) (p : PV), (f x)[j]? = some p → Shr M w (vs j) p := fun i x hx => by
      obtain ⟨b', off', e, hEx⟩ := h5 i x hx
      cases e
      exact hE x b _ hEx
    have hdec : ∀ i, i < (l.flatMap f).length → ∃ x, l[i / k]? = some x ∧ i % k < k ∧ i = i / k * k + i % k := fun i hi => by
      rw [flat_len hf] at hi
      have hd : i / k < l.length := by rw [Nat.div_lt_iff_lt_mul hk]; exact hi
      obtain ⟨x, hx⟩ := get_some hd
      exact ⟨x, hx, Nat.mod_lt _ hk, by rw [Nat.mul_comm]; exact (Nat.div_add_mod _ _).symm⟩
    refine .sl b off l.length c (l.flatMap f) (fun i => (w.cell? ⟨b, off + i, none⟩).getD undef) h1 (by unfold maxLen; exact h2) (fun i hi => ?_) (fun i p hp => ?_)
    · obtain ⟨x, hx, hm, he⟩ := hdec i hi
      obtain ⟨vs, hv, _⟩ := hex _ x hx
      have := hv (i % k) hm
      rw [Nat.add_assoc, ← he] at this
      exact ⟨by rw [this.1]; rfl, this.2⟩
    · obtain ⟨x, hx, hm, he⟩ := hdec i (lt_of_get hp)
      obtain ⟨vs, hv, hS⟩ := hex _ x hx
      have h9 := (hv (i % k) hm).1
      rw [Nat.add_assoc, ← he] at h9
      rw [he, flat_at hf hx hm] at hp
      show Shr M w ((w.cell? ⟨b, off + i, none⟩).getD undef) p
      rw [h9]
      exact hS _ p hp
theorem strs_shr {M : BS} {w : World} {v : Value} {l : List ByteArray} (h : Strs M w v l) : Shr M w v (pStrs l) := by
  unfold pStrs
  rw [flat_one]
  refine sl_shr (k := 1) (f := fun x => [pStr x]) (fun _ => rfl) (by decide) h fun x b o ⟨hc, _⟩ => ⟨fun _ => .string x, fun j hj => ?_, fun j p hp => ?_⟩
  · have : j = 0 := by omega
    subst this; exact hc
  · match j with
    | 0 => simp at hp; subst hp; exact .val _
    | j + 1 => simp at hp
theorem vars_shr {M : BS} {w : World} {v : Value} {l : List Var} (h : Vars M w v l) : Shr M w v (pVars l) := by
  refine sl_shr cVar_len (by decide) h fun x b o ⟨⟨u, hu, hS⟩, hc, _⟩ => ⟨fun j => if j = 0 then u else .int .i64 x.count, fun j hj => ?_, fun j p hp => ?_⟩
  · match j with
    | 0 => exact hu
    | 1 => exact hc
    | j + 2 => omega
  · match j with
    | 0 => simp [cVar] at hp; subst hp; exact strs_shr hS
    | 1 => simp [cVar] at hp; subst hp; exact .val _
    | j + 2 => simp [cVar] at hp
theorem varss_shr {M : BS} {w : World} {v : Value} {l : List (List Var)} (h : Varss M w v l) : Shr M w v (pVarss l) := by
  unfold pVarss
  rw [flat_one]
  refine sl_shr (k := 1) (f := fun x => [pVars x]) (fun _ => rfl) (by decide) h fun x b o ⟨u, hu, hS⟩ => ⟨fun _ => u, fun j hj => ?_, fun j p hp => ?_⟩
  · have : j = 0 := by omega
    subst this; exact hu
  · match j with
    | 0 => simp at hp; subst hp; exact vars_shr hS
    | j + 1 => simp at hp

/-! ### The contracts -/
theorem ret_val {w w' : World} {M : BS} {v : Value} {e : Ending} (h1 : e = .returned v) (h2 : Ext w w') : RetAF ⟨w, M, fun _ => False, 0⟩ (· = .val v) e w' := ⟨v, _, fun _ => False, h1, rfl, h2, .shr (.val _) (fun _ h => h), fun _ h => h.elim⟩
theorem validVariants_e (l : List Var) (hf : fitV l) : AF Try.prog 20 [pVars l] (· = pBool (validVars l)) := fun M w vs hM hl hv => by
  obtain ⟨v, rfl⟩ := len1 hl
  exact (validVariants_c l v w (shr_vars (hv 0 v _ rfl rfl) hf)).mono fun e w' ⟨h1, h2⟩ => ret_val h1 h2
theorem nameCompare_e (l m : List ByteArray) (hf : fitS l) (hg : fitS m) : AF Try.prog 27 [pStrs l, pStrs m] (· = pInt (cmpStrs l m)) := fun M w vs hM hl hv => by
  obtain ⟨v, u, rfl⟩ := len2 hl
  exact (nameCompare_c l m v u w (shr_strs (hv 0 v _ rfl rfl) hf) (shr_strs (hv 1 u _ rfl rfl) hg)).mono fun e w' ⟨h1, h2⟩ => ret_val h1 (h2 ▸ Ext.rfl' _)
theorem fewVariants_e (l : List Var) (hf : fitV l) : AF Try.prog 5 [pVars l] (· = pBool (fewVarsB l)) := fun M w vs hM hl hv => by
  obtain ⟨v, rfl⟩ := len1 hl
  exact (fewVariants_c l v w (shr_vars (hv 0 v _ rfl rfl) hf)).mono fun e w' ⟨h1, h2⟩ => ret_val h1 h2
theorem few_e (c : Cut) (hf : fitC c) : AF Try.prog 6 [pCut c] (· = pBool (fewB c)) := fun M w vs hM hl hv => by
  obtain ⟨v, rfl⟩ := len1 hl
  exact (few_c c v w (shr_cut (hv 0 v _ rfl rfl) hf)).mono fun e w' ⟨h1, h2⟩ => ret_val h1 h2
theorem rSameVariants_e (l m : List Var) (hf : fitV l) (hg : fitV m) : AF Try.prog 11 [pVars l, pVars m] (· = pBool (sameVars l m)) := fun M w vs hM hl hv => by
  obtain ⟨v, u, rfl⟩ := len2 hl
  exact (rSameVariants_c l m v u w (shr_vars (hv 0 v _ rfl rfl) hf) (shr_vars (hv 1 u _ rfl rfl) hg)).mono fun e w' ⟨h1, h2⟩ => ret_val h1 h2
end Go.Proofs.Ytoanjgpdepaciaa

namespace Go.Proofs.Ytoanjgpdepaciaa
open Go.RowKit Go.Cb Go.En
set_option linter.all false
set_option maxRecDepth 100000

/-- A new row of plain values may be shared. -/
theorem row_shr {M : BS} {w : World} {B e n : Nat} {v : Value} {xs : List Value} (h : w.ownsRow B e 1 v n xs) (hM : ∀ b, M b → b < B) : Shr M w v (.sl n (xs.map PV.val)) := by
  rcases h.2 with ⟨rfl, rfl⟩ | ⟨g, cap, cur, rfl, hg, hh, h4, h5, h6, h7⟩
  · have : xs = [] := List.eq_nil_of_length_eq_zero (by rw [h.1])
    subst this
    exact .emp none 0 (by unfold maxLen; omega) (fun _ => rfl)
  · refine .sl g 0 n cap _ (fun i => (xs[i]?).getD undef) h4 h5 (fun i hi => ?_) (fun i p hp => ?_)
    · rw [List.length_map] at hi
      obtain ⟨x, hx⟩ := get_of_lt hi
      refine ⟨?_, fun hm => by have := hM g hm; omega⟩
      rw [Nat.zero_add, h.cellAt i (by rw [← h.1]; exact hi), hx]; rfl
    · rw [List.getElem?_map, Option.map_eq_some_iff] at hp
      obtain ⟨x, hx, rfl⟩ := hp
      show Shr M w ((xs[i]?).getD undef) (.val x)
      rw [hx]; exact .val _
theorem ret_shrAF {w w' : World} {M : BS} {v : Value} {p : PV} {e : Ending} (h1 : e = .returned v) (h2 : Ext w w') (h3 : Shr M w' v p) : RetAF ⟨w, M, fun _ => False, 0⟩ (· = p) e w' :=
  ⟨v, p, fun _ => False, h1, rfl, h2, .shr (h3.anti fun b _ hb => hb.elim id False.elim) (fun _ h => h), fun _ h => h.elim⟩
theorem shr_cells {M : BS} {w : World} {b off n c : Nat} {l : List ByteArray} (h : Shr M w (.slice (some ⟨b, off, none⟩) n c) (pStrs l)) : ∀ (j : Nat) (s : ByteArray), l[j]? = some s → w.cell? ⟨b, off + j, none⟩ = some (.string s) := fun j s hs => by
  unfold pStrs at h
  generalize hn : l.length = m at h
  generalize hcs : l.map pStr = cs at h
  cases h with
  | emp =>
    have : l = [] := List.eq_nil_of_length_eq_zero hn
    subst this; simp at hs
  | sl _ _ _ _ _ vs hn hc hcell hT =>
    subst hcs
    have h1 := (hcell j (by rw [List.length_map]; exact lt_of_get hs)).1
    have h2 : vs j = .string s := (hT j (pStr s) (by rw [List.getElem?_map, hs]; rfl)).vOf
    rw [h1, h2]
theorem clone_e (l : List ByteArray) (hl : l.length ≤ 1000000) : AF Try.prog 23 [pStrs l] (· = pStrs l) := fun M w vs hM hlen hv => by
  obtain ⟨v, rfl⟩ := len1 hlen
  have hS := hv 0 v _ rfl rfl
  have hS' := hS
  unfold pStrs at hS'
  generalize hn : l.length = n at hS'
  generalize hcs : l.map pStr = cs at hS'
  cases hS' with
  | emp a c hc ha =>
    have : l = [] := List.eq_nil_of_length_eq_zero hn
    subst this
    cases a with
    | none => exact (Try.slices_Clone_string_nil 0 c w).mono fun e w' ⟨h1, h2⟩ => ret_shrAF h1 (h2 ▸ Ext.rfl' _) (.emp none 0 (by unfold maxLen; omega) (fun _ => rfl))
    | some a => exact (Try.slices_Clone_string_zero a c w).mono fun e w' ⟨v', h1, h2, _, h3⟩ => ret_shrAF h1 h3 (row_shr h2 hM)
  | sl b off n c cs vs' hnc hc hcell hT =>
    subst hn hcs
    have hcl := shr_cells hS
    refine (Try.slices_Clone_string b off l.length c l w (Nat.le_refl _) (by omega) (fun j hj => ?_)).mono fun e w' ⟨v', h1, h2, _, h3⟩ => ret_shrAF h1 h3 ?_
    · obtain ⟨s, hs⟩ := get_of_lt hj
      rw [hcl j s hs, List.getD, hs]; rfl
    · have := row_shr h2 hM
      rw [List.take_length, List.map_map] at this
      exact this
/-- The words, joined. -/
def joinW (l : List ByteArray) : ByteArray := ⟨(Lib.join (l.map (·.data.toList)) [32]).toArray⟩
theorem join_e (l : List ByteArray) (hl : l.length ≤ 1000000) (hj : (Lib.join (l.map (·.data.toList)) [32]).length ≤ 140737488355328) : AF Try.prog 22 [pStrs l, pStr ⟨#[32]⟩] (· = pStr (joinW l)) := fun M w vs hM hlen hv => by
  obtain ⟨v, u, rfl⟩ := len2 hlen
  have hu : u = .string ⟨#[32]⟩ := (hv 1 u _ rfl rfl).vOf
  subst hu
  have hS := hv 0 v _ rfl rfl
  have hS' := hS
  unfold pStrs at hS'
  generalize hn : l.length = n at hS'
  generalize hcs : l.map pStr = cs at hS'
  cases hS' with
  | emp a c hc ha =>
    have : l = [] := List.eq_nil_of_length_eq_zero hn
    subst this
    exact (Try.strings_Join_none a c ⟨#[32]⟩ w).mono fun e w' ⟨h1, h2⟩ => ret_val (v := .string (joinW [])) (by rw [h1]; rfl) (h2 ▸ Ext.rfl' _)
  | sl b off n c cs vs' hnc hc hcell hT =>
    subst hn hcs
    have hcl := shr_cells hS
    cases hl0 : l with
    | nil =>
      subst hl0
      exact (Try.strings_Join_none (some ⟨b, off, none⟩) c ⟨#[32]⟩ w).mono fun e w' ⟨h1, h2⟩ => ret_val (v := .string (joinW [])) (by rw [h1]; rfl) (h2 ▸ Ext.rfl' _)
    | cons s0 l0 =>
      rw [← hl0]
      have hb : b < w.heap.size := World.block_lt_of_cell? _ _ (hcl 0 s0 (by rw [hl0]; rfl))
      exact (Try.strings_Join b off c l ⟨#[32]⟩ w hcl hb (by omega) hnc hj).mono fun e w' ⟨h1, h2⟩ => ret_val (v := .string (joinW l)) h1 h2
end Go.Proofs.Ytoanjgpdepaciaa

namespace Go.Cb
set_option linter.all false

/-! ### Strings in order -/
theorem bl_irrefl : ∀ l : List UInt8, Op.bytesLess l l = false
  | [] => rfl
  | a :: l => by simp [Op.bytesLess, bl_irrefl l, UInt8.lt_irrefl]
theorem bl_trans : ∀ a b c : List UInt8, Op.bytesLess a b = true → Op.bytesLess b c = true → Op.bytesLess a c = true
  | _, _, [], _, h => by cases h' : (‹List UInt8› : List UInt8) <;> simp_all [Op.bytesLess]
  | _, [], _ :: _, h, _ => by simp [Op.bytesLess] at h
  | [], _ :: _, _ :: _, _, _ => rfl
  | x :: a, y :: b, z :: c, h1, h2 => by
    simp only [Op.bytesLess, Bool.or_eq_true, Bool.and_eq_true, decide_eq_true_eq, beq_iff_eq] at h1 h2 ⊢
    rcases h1 with h1 | ⟨rfl, h1⟩
    · rcases h2 with h2 | ⟨rfl, h2⟩
      · exact .inl (UInt8.lt_trans h1 h2)
      · exact .inl h1
    · rcases h2 with h2 | ⟨rfl, h2⟩
      · exact .inl h2
      · exact .inr ⟨rfl, bl_trans a b c h1 h2⟩
theorem bl_total : ∀ a b : List UInt8, Op.bytesLess a b = false → Op.bytesLess b a = false → a = b
  | [], [], _, _ => rfl
  | [], _ :: _, h, _ => by simp [Op.bytesLess] at h
  | _ :: _, [], _, h => by simp [Op.bytesLess] at h
  | x :: a, y :: b, h1, h2 => by
    simp only [Op.bytesLess, Bool.or_eq_false_iff, decide_eq_false_iff_not] at h1 h2
    have hxy : x = y := UInt8.le_antisymm (UInt8.not_lt.1 h2.1) (UInt8.not_lt.1 h1.1)
    subst hxy
    simp only [beq_self_eq_true, Bool.true_and] at h1 h2
    rw [bl_total a b h1.2 h2.2]
theorem strLt_irrefl (a : ByteArray) : strLt a a = false := bl_irrefl _
theorem strLt_trans {a b c : ByteArray} (h : strLt a b = true) (k : strLt b c = true) : strLt a c = true := bl_trans _ _ _ h k
theorem strLt_total {a b : ByteArray} (h : strLt a b = false) (k : strLt b a = false) : a = b := by
  have := bl_total _ _ h k
  rw [ByteArray.toList_eq, ByteArray.toList_eq] at this
  exact WideShapes.bytes_inj this
theorem cmpStr_zero {a b : ByteArray} : cmpStr a b = 0 ↔ a = b := by
  unfold cmpStr
  constructor
  · intro h
    split at h
    · omega
    · split at h
      · rename_i h2; exact strEq_iff.1 h2
      · omega
  · rintro rfl
    rw [strLt_irrefl, strEq_iff.2 rfl]; rfl
theorem cmpStr_neg {a b : ByteArray} : cmpStr a b < 0 ↔ strLt a b = true := by
  unfold cmpStr
  constructor
  · intro h
    split at h
    · assumption
    · split at h <;> omega
  · intro h; rw [h, if_pos rfl]; decide
/-! ### Words in order -/
theorem cmpStrs_zero : ∀ {l m : List ByteArray}, cmpStrs l m = 0 ↔ l = m
  | [], [] => by simp [cmpStrs]
  | [], _ :: _ => by simp [cmpStrs]
  | _ :: _, [] => by simp [cmpStrs]
  | a :: l, b :: m => by
    rw [cmpStrs]
    split
    · rename_i h
      rw [cmpStrs_zero, cmpStr_zero.1 h]; simp
    · rename_i h
      constructor
      · intro h'; exact absurd h' h
      · intro h'; cases h'; exact absurd (cmpStr_zero.2 rfl) h
def ltW (l m : List ByteArray) : Bool := decide (cmpStrs l m < 0)
theorem ltW_cons {a b : ByteArray} {l m : List ByteArray} : ltW (a :: l) (b :: m) = true ↔ strLt a b = true ∨ (a = b ∧ ltW l m = true) := by
  unfold ltW
  rw [cmpStrs]
  split
  · rename_i h
    have := cmpStr_zero.1 h
    subst this
    simp [strLt_irrefl]
  · rename_i h
    rw [decide_eq_true_eq, cmpStr_neg]
    constructor
    · exact .inl
    · rintro (h1 | ⟨rfl, _⟩)
      · exact h1
      · exact absurd (cmpStr_zero.2 rfl) h
theorem ltW_irrefl (l : List ByteArray) : ltW l l = false := by unfold ltW; rw [cmpStrs_zero.2 rfl]; rfl
theorem ltW_trans : ∀ {a b c : List ByteArray}, ltW a b = true → ltW b c = true → ltW a c = true
  | _, b, [], _, h => by cases b <;> simp [ltW, cmpStrs] at h
  | a, [], _ :: _, h, _ => by cases a <;> simp [ltW, cmpStrs] at h
  | [], _ :: _, _ :: _, _, _ => by simp [ltW, cmpStrs]
  | x :: a, y :: b, z :: c, h1, h2 => by
    rw [ltW_cons] at h1 h2 ⊢
    rcases h1 with h1 | ⟨rfl, h1⟩
    · rcases h2 with h2 | ⟨rfl, h2⟩
      · exact .inl (strLt_trans h1 h2)
      · exact .inl h1
    · rcases h2 with h2 | ⟨rfl, h2⟩
      · exact .inl h2
      · exact .inr ⟨rfl, ltW_trans h1 h2⟩
theorem ltW_total : ∀ {a b : List ByteArray}, ltW a b = false → ltW b a = false → a = b
  | [], [], _, _ => rfl
  | [], _ :: _, h, _ => by simp [ltW, cmpStrs] at h
  | _ :: _, [], _, h => by simp [ltW, cmpStrs] at h
  | x :: a, y :: b, h1, h2 => by
    have g1 : ¬ (strLt x y = true ∨ (x = y ∧ ltW a b = true)) := fun h => by rw [ltW_cons.2 h] at h1; cases h1
    have g2 : ¬ (strLt y x = true ∨ (y = x ∧ ltW b a = true)) := fun h => by rw [ltW_cons.2 h] at h2; cases h2
    have hxy : x = y := strLt_total (by cases h : strLt x y with | false => rfl | true => exact absurd (.inl h) g1) (by cases h : strLt y x with | false => rfl | true => exact absurd (.inl h) g2)
    subst hxy
    rw [ltW_total (a := a) (b := b) (by cases h : ltW a b with | false => rfl | true => exact absurd (.inr ⟨rfl, h⟩) g1) (by cases h : ltW b a with | false => rfl | true => exact absurd (.inr ⟨rfl, h⟩) g2)]

/-! ### Counting -/
/-- A number of cases with a word, counted by first occurrence. -/
def bump : List Var → List ByteArray → Int → List Var
  | [], w, n => [⟨w, n⟩]
  | x :: r, w, n => if x.acts = w then ⟨x.acts, x.count + n⟩ :: r else x :: bump r w n
/-- Ascending, no word twice. -/
def Asc (r : List Var) : Prop := r.Pairwise fun x y => ltW x.acts y.acts = true
theorem addVar_mem {w : List ByteArray} {n : Int} : ∀ {r : List Var} {x : Var}, x ∈ addVar r w n → x.acts = w ∨ x ∈ r
  | [], x, h => by simp [addVar] at h; exact .inl (by rw [h])
  | y :: r, x, h => by
    rw [addVar] at h
    split at h
    · rcases List.mem_cons.1 h with rfl | h
      · exact .inr (by simp)
      · exact (addVar_mem h).imp id fun h => by simp [h]
    · split at h
      · rcases List.mem_cons.1 h with rfl | h
        · exact .inl rfl
        · exact .inr (by simp [h])
      · rcases List.mem_cons.1 h with rfl | h
        · exact .inl rfl
        · exact .inr h
theorem addVar_asc {w : List ByteArray} {n : Int} : ∀ {r : List Var}, Asc r → Asc (addVar r w n)
  | [], _ => by simp [addVar, Asc]
  | x :: r, h => by
    have hx := List.pairwise_cons.1 h
    rw [addVar]
    split
    · rename_i hc
      refine List.pairwise_cons.2 ⟨fun y hy => ?_, addVar_asc hx.2⟩
      rcases addVar_mem hy with h1 | h1
      · rw [h1]; simpa [ltW] using hc
      · exact hx.1 y h1
    · split
      · rename_i hc
        have hw : x.acts = w := cmpStrs_zero.1 hc
        refine List.pairwise_cons.2 ⟨fun y hy => ?_, hx.2⟩
        show ltW w y.acts = true
        rw [← hw]; exact hx.1 y hy
      · rename_i h1 h2
        have hlt : ltW w x.acts = true := by
          cases h3 : ltW w x.acts with
          | true => rfl
          | false =>
            have h4 : ltW x.acts w = false := by simpa [ltW] using h1
            exact absurd (cmpStrs_zero.2 (ltW_total h4 h3)) h2
        refine List.pairwise_cons.2 ⟨fun y hy => ?_, h⟩
        rcases List.mem_cons.1 hy with rfl | hy
        · exact hlt
        · exact ltW_trans hlt (hx.1 y hy)
/-- No word twice. -/
def Nodup (r : List Var) : Prop := r.Pairwise fun x y => x.acts ≠ y.acts
theorem Asc.nodup {r : List Var} (h : Asc r) : Nodup r := h.imp fun {x y} h e => by rw [e, ltW_irrefl] at h; cases h
theorem Nodup.perm {r s : List Var} (h : Nodup r) (p : r.Perm s) : Nodup s := (p.pairwise_iff (fun {x y} h => Ne.symm h)).1 h
theorem bump_none {w : List ByteArray} {n : Int} : ∀ {r : List Var}, (∀ x ∈ r, x.acts ≠ w) → bump r w n = r ++ [⟨w, n⟩]
  | [], _ => rfl
  | x :: r, h => by rw [bump, if_neg (h x (by simp)), bump_none fun y hy => h y (by simp [hy])]; rfl
theorem bump_perm {w : List ByteArray} {n : Int} {r s : List Var} (hn : Nodup r) (p : r.Perm s) : (bump r w n).Perm (bump s w n) := by
  induction p with
  | nil => exact .refl _
  | cons x p ih =>
    have h := List.pairwise_cons.1 hn
    simp only [bump]
    split
    · exact p.cons _
    · exact (ih h.2).cons _
  | swap x y l =>
    have h := List.pairwise_cons.1 hn
    have hxy : y.acts ≠ x.acts := h.1 x (by simp)
    simp only [bump]
    by_cases h1 : y.acts = w
    · have h2 : x.acts ≠ w := fun e => hxy (h1.trans e.symm)
      rw [if_pos h1, if_neg h2, if_pos h1]; exact .swap ..
    · by_cases h2 : x.acts = w
      · rw [if_neg h1, if_pos h2, if_pos h2]; exact .swap ..
      · rw [if_neg h1, if_neg h2, if_neg h2, if_neg h1]; exact .swap ..
  | trans p q ih1 ih2 => exact (ih1 hn).trans (ih2 (hn.perm p))
theorem add_bump {w : List ByteArray} {n : Int} : ∀ {r : List Var}, Asc r → (addVar r w n).Perm (bump r w n)
  | [], _ => .refl _
  | x :: r, h => by
    have hx := List.pairwise_cons.1 h
    rw [addVar, bump]
    split
    · rename_i hc
      have hne : x.acts ≠ w := fun e => by rw [cmpStrs_zero.2 e] at hc; omega
      rw [if_neg hne]
      exact (add_bump hx.2).cons _
    · split
      · rename_i hc
        have hw : x.acts = w := cmpStrs_zero.1 hc
        rw [if_pos hw, hw]
      · rename_i h1 h2
        have hne : x.acts ≠ w := fun e => h2 (cmpStrs_zero.2 e)
        have hlt : ltW w x.acts = true := by
          cases h3 : ltW w x.acts with
          | true => rfl
          | false =>
            have h4 : ltW x.acts w = false := by simpa [ltW] using h1
            exact absurd (cmpStrs_zero.2 (ltW_total h4 h3)) h2
        rw [if_neg hne, bump_none fun y hy e => by
          have h5 := ltW_trans hlt (hx.1 y hy)
          rw [e, ltW_irrefl] at h5; cases h5]
        have := (List.perm_append_comm (l₁ := [(⟨w, n⟩ : Var)]) (l₂ := x :: r))
        simpa using this
theorem bump_nodup {w : List ByteArray} {n : Int} : ∀ {r : List Var}, Nodup r → Nodup (bump r w n)
  | [], _ => by simp [bump, Nodup]
  | x :: r, h => by
    have hx := List.pairwise_cons.1 h
    rw [bump]
    split
    · exact List.pairwise_cons.2 ⟨hx.1, hx.2⟩
    · rename_i hne
      refine List.pairwise_cons.2 ⟨fun y hy => ?_, bump_nodup hx.2⟩
      have key : ∀ {r : List Var} {y : Var}, y ∈ bump r w n → y.acts = w ∨ ∃ z ∈ r, z.acts = y.acts := by
        intro r
        induction r with
        | nil => intro y hy; simp [bump] at hy; exact .inl (by rw [hy])
        | cons z r ih =>
          intro y hy
          rw [bump] at hy
          split at hy
          · rcases List.mem_cons.1 hy with rfl | hy
            · exact .inr ⟨z, by simp, rfl⟩
            · exact .inr ⟨y, by simp [hy], rfl⟩
          · rcases List.mem_cons.1 hy with rfl | hy
            · exact .inr ⟨y, by simp, rfl⟩
            · rcases ih hy with h1 | ⟨z', hz', e⟩
              · exact .inl h1
              · exact .inr ⟨z', by simp [hz'], e⟩
      rcases key hy with h1 | ⟨z, hz, e⟩
      · rw [h1]; exact hne
      · rw [← e]; exact hx.1 z hz
/-- There is one order. -/
theorem asc_unique : ∀ {r s : List Var}, Asc r → Asc s → r.Perm s → r = s
  | [], s, _, _, p => (List.nil_perm.1 p).symm
  | x :: r, [], _, _, p => absurd p.length_eq (by simp)
  | x :: r, y :: s, hr, hs, p => by
    have h1 := List.pairwise_cons.1 hr
    have h2 := List.pairwise_cons.1 hs
    have hxy : x = y := by
      have hx : x ∈ y :: s := p.mem_iff.1 (by simp)
      have hy : y ∈ x :: r := p.mem_iff.2 (by simp)
      rcases List.mem_cons.1 hx with e | hx
      · exact e
      · rcases List.mem_cons.1 hy with e | hy
        · exact e.symm
        · have a := h2.1 x hx
          have b := h1.1 y hy
          have := ltW_trans a b
          rw [ltW_irrefl] at this; cases this
    subst hxy
    rw [asc_unique h1.2 h2.2 (List.Perm.cons_inv p)]
/-- What is counted by first occurrence, put in order, is what is added in order. -/
theorem sorted_bump {r s t : List Var} (h1 : Asc s) (h2 : r.Perm s) (h3 : Asc t) (h4 : t.Perm r) : t = s := asc_unique h3 h1 (h4.trans h2)
theorem bump_step {w : List ByteArray} {n : Int} {r s : List Var} (h1 : Asc s) (h2 : r.Perm s) : (bump r w n).Perm (addVar s w n) :=
  (bump_perm ((h1.nodup).perm h2.symm) h2).trans (add_bump h1).symm
end Go.Cb

namespace Go.Proofs.Ytoanjgpdepaciaa
open Go.RowKit Go.Cb Go.En
set_option linter.all false
set_option maxRecDepth 100000

theorem tFl40_1_EwG : FldT Try.prog 40 1 1 = true := by kernel_rfl
theorem tNa3_EwG : NoAgg Try.prog 3 = true := by kernel_rfl

theorem cSplit1_e (x : Var) : AF Try.prog 24 [.agg (cVar x)] (· = pBool (decide (1048576 < x.count))) := by
  refine AF.of_body 6 Try.func24 rfl Try.ntmps24 (Nat.le_of_ble_eq_true rfl) ?_
  intro w0 M0 vs hl hv
  obtain ⟨v0, rfl⟩ := len1 hl
  clear hl hv
  (repeat (first | with_reducible refine aC_seq ?_ | with_reducible refine aC_block ?_ | with_reducible refine aN_then ?_ | with_reducible refine aN_block ?_ | with_reducible refine aC_skip ?_ | with_reducible refine aC_exit ?_ | with_reducible refine aX_then ?_ | with_reducible refine aX_block ?_ | with_reducible refine aX_other rfl ?_ | with_reducible refine aC_ret ?_ | with_reducible refine aR_then ?_ | with_reducible refine aR_block ?_))
  (refine aC_region ?_
    <;> (refine aL_boxa 1 2 rfl rfl (Nat.le_of_ble_eq_true rfl) rfl rfl rfl rfl ?_; intro h1)
    <;> refine aL_x 2 rfl rfl (Nat.le_of_ble_eq_true rfl) (y_assign rfl rfl) ?_
    <;> refine aL_end ?_
    <;> (repeat (first | with_reducible refine aC_seq ?_ | with_reducible refine aC_block ?_ | with_reducible refine aN_then ?_ | with_reducible refine aN_block ?_ | with_reducible refine aC_skip ?_ | with_reducible refine aC_exit ?_ | with_reducible refine aX_then ?_ | with_reducible refine aX_block ?_ | with_reducible refine aX_other rfl ?_ | with_reducible refine aC_ret ?_ | with_reducible refine aR_then ?_ | with_reducible refine aR_block ?_)) <;> (try dsimp only))
  (refine aC_region ?_
    <;> (first | refine aL_x 3 rfl rfl (Nat.le_of_ble_eq_true rfl) (y_fld_shr tFl40_1_EwG rfl rfl) ?_ | refine aL_x 3 rfl rfl (Nat.le_of_ble_eq_true rfl) (y_fld_own 1 tFl40_1_EwG rfl rfl rfl (by first | omega | (try simp only [List.length_cons, List.length_nil, List.length_map, List.length_set, List.length_append, List.length_replicate, List.length_singleton, List.flatMap_cons, List.flatMap_nil]; omega))) ?_)
    <;> (first | (refine aL_y 4 rfl rfl (Nat.le_of_ble_eq_true rfl) (y_ld_shr tNa3_EwG rfl rfl rfl) ?_; intro v4 hv4; cases hv4) | (refine aL_y 4 rfl rfl (Nat.le_of_ble_eq_true rfl) (y_ld_own 1 tNa3_EwG rfl rfl rfl rfl rfl) ?_; intro v4 hv4; cases hv4) | (refine aL_y 4 rfl rfl (Nat.le_of_ble_eq_true rfl) (y_ld_shr tNa3_EwG rfl rfl (by assumption)) ?_; intro v4 hv4; cases hv4) | (refine aL_y 4 rfl rfl (Nat.le_of_ble_eq_true rfl) (y_ld_own 1 tNa3_EwG rfl rfl rfl (by assumption) rfl) ?_; intro v4 hv4; cases hv4))
    <;> refine aL_x 5 rfl rfl (Nat.le_of_ble_eq_true rfl) (y_gtr rfl rfl rfl) ?_
    <;> refine aL_x 2 rfl rfl (Nat.le_of_ble_eq_true rfl) (y_assign rfl rfl) ?_
    <;> refine aL_end ?_
    <;> (repeat (first | with_reducible refine aC_seq ?_ | with_reducible refine aC_block ?_ | with_reducible refine aN_then ?_ | with_reducible refine aN_block ?_ | with_reducible refine aC_skip ?_ | with_reducible refine aC_exit ?_ | with_reducible refine aX_then ?_ | with_reducible refine aX_block ?_ | with_reducible refine aX_other rfl ?_ | with_reducible refine aC_ret ?_ | with_reducible refine aR_then ?_ | with_reducible refine aR_block ?_)) <;> (try dsimp only))
  exact ret_shr (Try.results24) rfl rfl

theorem alloc2_grow (W : World) (o1 o2 : Obj) : (W.alloc o1).alloc o2 = Sort.grow (W.drewN 0) #[o1, o2] := by
  have : (W.heap.push o1).push o2 = W.heap ++ #[o1, o2] := by
    apply Array.ext'
    simp
  show ({ W with heap := (W.heap.push o1).push o2 } : World) = { W with heap := W.heap ++ #[o1, o2], drawn := W.drawn + 0 }
  rw [this]
  rfl
theorem cSplit2_c (x y : Var) (hx : fitS x.acts) (hy : fitS y.acts) (M : BS) (W : World) (u v : Value) (hu : Shr M W u (.agg (cVar x))) (hv : Shr M W v (.agg (cVar y))) :
    Calls Try.prog 26 #[u, v] W fun e w' => e = .returned (.int .i64 (cmpStrs x.acts y.acts)) ∧ ∃ q os', w' = Sort.grow (W.drewN q) os' := by
  unfold cVar at hu hv
  generalize hps : [pStrs x.acts, pInt x.count] = ps at hu
  generalize hqs : [pStrs y.acts, pInt y.count] = qs at hv
  cases hu with
  | agg us ps hl hT =>
    cases hv with
    | agg vs qs hl' hT' =>
      subst hps hqs
      obtain ⟨a1, a2, rfl⟩ := len2 hl
      obtain ⟨b1, b2, rfl⟩ := len2 hl'
      have e1 : a2 = .int .i64 x.count := (hT 1 a2 _ rfl rfl).vOf
      have e2 : b2 = .int .i64 y.count := (hT' 1 b2 _ rfl rfl).vOf
      subst e1 e2
      have s1 := shr_strs (hT 0 a1 _ rfl rfl) hx
      have s2 := shr_strs (hT' 0 b1 _ rfl rfl) hy
      clear hT hT' hl hl'
      obtain ⟨p1, c1, rfl, _⟩ := id s1
      obtain ⟨p2, c2, rfl, _⟩ := id s2
      have HC := Lib.hid (nameCompare_c x.acts y.acts _ _ ((W.alloc (.cells #[.slice p1 x.acts.length c1, .int .i64 x.count] 40)).alloc (.cells #[.slice p2 y.acts.length c2, .int .i64 y.count] 40)) (s1.up ((Ext.alloc _ _).to_alloc _)) (s2.up ((Ext.alloc _ _).to_alloc _)))
      clear s1 s2
      go_enter Try.func26, Try.ntmps26
      go_wp2_with (go_at_call 27; refine HC.out.mono ?_; rintro e w' ⟨rfl, rfl⟩)
      go_ret
      refine ⟨rfl, 0, #[.cells #[.slice p1 x.acts.length c1, .int .i64 x.count] 40, .cells #[.slice p2 y.acts.length c2, .int .i64 y.count] 40], ?_⟩
      exact alloc2_grow _ _ _
end Go.Proofs.Ytoanjgpdepaciaa

namespace Go.Proofs.Ytoanjgpdepaciaa
open Go.RowKit Go.Cb Go.En
set_option linter.all false
set_option maxRecDepth 100000



theorem tAggVar : AggT Try.prog 40 2 = true := by kernel_rfl
theorem sortVar_c : SortC Try.prog 25 26 2 := fun enc hk h1 cf hO blk cap d w hcmp hH hblk hsz =>
  AnyQ.slices_SortFunc Try.sortVarL 2 (fun w => AggT.run tAggVar w) (fun w => AggT.size tAggVar w) enc hk h1 cf hO 26 #[] blk 0 cap d w (Try.call26) hcmp hH hblk hsz
theorem sortVar_none (p : Option Addr) (cap : Nat) (fv : Value) (w : World) : Calls Try.prog 25 #[.slice p 0 cap, fv] w fun e w' => e = .returned (.tuple #[]) ∧ w' = w :=
  AnyF.slices_SortFunc_none Try.sortVarL p cap fv w
end Go.Proofs.Ytoanjgpdepaciaa

namespace Go.Cb
open Go.En
set_option linter.all false

/-! ### Joined words -/
theorem jn_cc (x y : List UInt8) (l : List (List UInt8)) : [32].intercalate (x :: y :: l) = x ++ 32 :: [32].intercalate (y :: l) := by
  simp [List.intercalate, List.intersperse]
theorem jn_one (x : List UInt8) : ([32] : List UInt8).intercalate [x] = x := by simp [List.intercalate]
theorem span_eq : ∀ (x y a b : List UInt8), 32 ∉ x → 32 ∉ y → x ++ 32 :: a = y ++ 32 :: b → x = y ∧ a = b
  | [], [], a, b, _, _, h => by simp at h; exact ⟨rfl, h⟩
  | [], c :: y, a, b, _, h2, h => by simp at h; exact absurd (by simp [h.1]) h2
  | c :: x, [], a, b, h1, _, h => by simp at h; exact absurd (by simp [h.1]) h1
  | c :: x, d :: y, a, b, h1, h2, h => by
    simp at h h1 h2
    obtain ⟨e1, e2⟩ := span_eq x y a b h1.2 h2.2 h.2
    exact ⟨by rw [h.1, e1], e2⟩
theorem jn_inj : ∀ (l m : List (List UInt8)), (∀ x ∈ l, x ≠ [] ∧ 32 ∉ x) → (∀ x ∈ m, x ≠ [] ∧ 32 ∉ x) → ([32] : List UInt8).intercalate l = [32].intercalate m → l = m
  | [], [], _, _, _ => rfl
  | [], [y], _, h2, h => by rw [jn_one] at h; exact absurd h.symm (h2 y (by simp)).1
  | [], y :: z :: m, _, h2, h => by rw [jn_cc] at h; simp [List.intercalate] at h
  | [x], [], h1, _, h => by rw [jn_one] at h; exact absurd h (h1 x (by simp)).1
  | x :: z :: l, [], _, _, h => by rw [jn_cc] at h; simp [List.intercalate] at h
  | [x], [y], _, _, h => by rw [jn_one, jn_one] at h; rw [h]
  | [x], y :: z :: m, h1, h2, h => by
    rw [jn_one, jn_cc] at h
    exact absurd (by rw [h]; simp) (h1 x (by simp)).2
  | x :: z :: l, [y], h1, h2, h => by
    rw [jn_one, jn_cc] at h
    exact absurd (by rw [← h]; simp) (h2 y (by simp)).2
  | x :: x' :: l, y :: y' :: m, h1, h2, h => by
    rw [jn_cc, jn_cc] at h
    obtain ⟨e1, e2⟩ := span_eq _ _ _ _ (h1 x (by simp)).2 (h2 y (by simp)).2 h
    rw [e1, jn_inj (x' :: l) (y' :: m) (fun z hz => h1 z (by simp at hz ⊢; exact .inr hz)) (fun z hz => h2 z (by simp at hz ⊢; exact .inr hz)) e2]
theorem name_bytes {s : ByteArray} (h : isName s = true) : s.data.toList ≠ [] ∧ (32 : UInt8) ∉ s.data.toList ∧ s.size ≤ 40 := by
  unfold isName at h
  simp only [Bool.and_eq_true, decide_eq_true_eq, List.all_eq_true] at h
  obtain ⟨⟨⟨h1, h2⟩, h3⟩, h4⟩ := h
  refine ⟨fun e => ?_, fun e => ?_, h2⟩
  · have : s.size = 0 := by
      show s.data.size = 0
      rw [← Array.length_toList, e]; rfl
    omega
  · have := h4 32 e
    revert this; decide
/-- A word of names, of 200 at most. -/
def WOk (w : List ByteArray) : Prop := w.length ≤ 200 ∧ ∀ s ∈ w, isName s = true
theorem join_inj {l m : List ByteArray} (h1 : WOk l) (h2 : WOk m) (h : Lib.join (l.map (·.data.toList)) [32] = Lib.join (m.map (·.data.toList)) [32]) : l = m := by
  have key : ∀ {l : List ByteArray}, WOk l → ∀ x ∈ l.map (·.data.toList), x ≠ [] ∧ (32 : UInt8) ∉ x := fun h x hx => by
    obtain ⟨s, hs, rfl⟩ := List.mem_map.1 hx
    have := name_bytes (h.2 s hs)
    exact ⟨this.1, this.2.1⟩
  have := jn_inj _ _ (key h1) (key h2) h
  have inj : ∀ {l m : List ByteArray}, l.map (·.data.toList) = m.map (·.data.toList) → l = m := by
    intro l
    induction l with
    | nil => intro m h; cases m with | nil => rfl | cons => simp at h
    | cons a l ih =>
      intro m h
      cases m with
      | nil => simp at h
      | cons b m =>
        simp only [List.map_cons, List.cons.injEq] at h
        rw [ih h.2, WideShapes.bytes_inj h.1]
  exact inj this
theorem jn_len : ∀ (l : List (List UInt8)) (b : Nat), (∀ x ∈ l, x.length ≤ b) → (([32] : List UInt8).intercalate l).length ≤ l.length * (b + 1)
  | [], b, _ => by simp [List.intercalate]
  | [x], b, h => by rw [jn_one]; have := h x (by simp); simp; omega
  | x :: y :: l, b, h => by
    rw [jn_cc]
    have h1 := jn_len (y :: l) b (fun z hz => h z (by simp at hz ⊢; exact .inr hz))
    have h2 := h x (by simp)
    simp only [List.length_append, List.length_cons] at h1 ⊢
    have : (l.length + 1 + 1) * (b + 1) = (l.length + 1) * (b + 1) + (b + 1) := by rw [Nat.add_mul (l.length + 1) 1]; omega
    omega
theorem join_len {l : List ByteArray} (h : WOk l) : (Lib.join (l.map (·.data.toList)) [32]).length ≤ 140737488355328 := by
  have := jn_len (l.map (·.data.toList)) 40 (fun x hx => by
    obtain ⟨s, hs, rfl⟩ := List.mem_map.1 hx
    rw [Array.length_toList]
    exact (name_bytes (h.2 s hs)).2.2)
  rw [List.length_map] at this
  have h2 := h.1
  unfold Lib.join
  omega

/-! ### Pieces' words -/
def WIn (Q : ByteArray → Prop) (n : Nat) (ps : List Piece) : Prop := ∀ p ∈ ps, p.word.length ≤ n ∧ ∀ s ∈ p.word, Q s
theorem WIn.mono {Q : ByteArray → Prop} {n m : Nat} {ps : List Piece} (h : WIn Q n ps) (hn : n ≤ m) : WIn Q m ps := fun p hp => ⟨Nat.le_trans (h p hp).1 hn, (h p hp).2⟩
theorem WIn.set {Q : ByteArray → Prop} {n i : Nat} {ps : List Piece} {q : Piece} {s : ByteArray} (h : WIn Q n ps) (hq : ps[i]? = some q) (hs : Q s) : WIn Q (n + 1) (ps.set i ⟨q.part, q.word ++ [s]⟩) := fun p hp => by
  rcases List.mem_or_eq_of_mem_set hp with h1 | h1
  · exact h.mono (Nat.le_succ _) p h1
  · have := h q (List.mem_of_getElem? hq)
    rw [h1]
    refine ⟨by simp; exact this.1, fun t ht => ?_⟩
    rcases List.mem_append.1 ht with h2 | h2
    · exact this.2 t h2
    · simp at h2; rw [h2]; exact hs
theorem WIn.add {Q : ByteArray → Prop} {n i : Nat} {ps : List Piece} {s : ByteArray} (h : WIn Q n ps) (hs : Q s) : WIn Q (n + 1) (addAt ps i s) := by
  unfold addAt
  split
  · rename_i q hq; exact h.set hq hs
  · exact h.mono (Nat.le_succ _)
theorem WIn.step {Q : ByteArray → Prop} {n : Nat} {parts : List (List ByteArray)} {ps ps' : List Piece} {s : ByteArray} (h : WIn Q n ps) (hs : Q s) (he : pieceStep parts ps s = some ps') : WIn Q (n + 1) ps' := by
  have one : ∀ p : Piece, p ∈ [(⟨partOf parts s, [s]⟩ : Piece)] → p.word.length ≤ n + 1 ∧ ∀ t ∈ p.word, Q t := fun p hp => by
    simp at hp; subst hp
    exact ⟨by simp, fun t ht => by simp at ht; rw [ht]; exact hs⟩
  unfold pieceStep at he
  split at he
  · cases he; exact one
  · rename_i q hq
    split at he
    · cases he; exact h.set hq hs
    · split at he
      · cases he
      · cases he
        intro p hp
        rcases List.mem_append.1 hp with h1 | h1
        · exact h.mono (Nat.le_succ _) p h1
        · exact one p h1
theorem piecesGo_in {Q : ByteArray → Prop} {parts : List (List ByteArray)} : ∀ {ws : List ByteArray} {n : Nat} {ps ps' : List Piece}, WIn Q n ps → (∀ s ∈ ws, Q s) → piecesGo parts ps ws = some ps' → WIn Q (n + ws.length) ps'
  | [], n, ps, ps', h, _, he => by simp [piecesGo] at he; subst he; exact h
  | s :: l, n, ps, ps', h, hs, he => by
    rw [piecesGo] at he
    cases hst : pieceStep parts ps s with
    | none => rw [hst] at he; cases he
    | some ps1 =>
      rw [hst] at he
      have := piecesGo_in (h.step (hs s (by simp)) hst) (fun x hx => hs x (by simp [hx])) he
      exact this.mono (by simp; omega)
theorem splitGo_in {Q : ByteArray → Prop} {kind : Int} {parts : List (List ByteArray)} : ∀ {ws : List ByteArray} {n : Nat} {first : Bool} {last : Int} {ps : List Piece} {r : List Piece × Int}, WIn Q n ps → (∀ s ∈ ws, Q s) → splitGo kind parts first last ps ws = some r → WIn Q (n + ws.length) r.1
  | [], n, _, _, ps, r, h, _, he => by simp [splitGo] at he; subst he; exact h
  | s :: l, n, first, last, ps, r, h, hs, he => by
    rw [splitGo] at he
    split at he
    · cases he
    · have := splitGo_in (h.add (hs s (by simp))) (fun x hx => hs x (by simp [hx])) he
      exact this.mono (by simp; omega)
theorem splitOf_in {Q : ByteArray → Prop} {c : Cut} {ws : List ByteArray} {ps : List Piece} (hs : ∀ s ∈ ws, Q s) (he : splitOf c ws = some ps) : WIn Q ws.length ps := by
  unfold splitOf at he
  split at he
  · unfold piecesOf at he
    split at he
    · cases he; intro p hp; simp at hp; subst hp; exact ⟨by simp, fun s h => by simp at h⟩
    · cases hg : piecesGo c.parts [] ws with
      | none => rw [hg] at he; cases he
      | some ps1 =>
        rw [hg] at he
        simp only [] at he
        split at he
        · cases he
          exact (piecesGo_in (n := 0) (fun p hp => by simp at hp) hs hg).mono (by omega)
        · cases he
  · cases hg : splitGo c.kind c.parts true 0 (initPs c.parts.length) ws with
    | none => rw [hg] at he; cases he
    | some r =>
      rw [hg] at he
      have hin := (splitGo_in (Q := Q) (n := 0) (fun p hp => by
        simp [initPs] at hp
        obtain ⟨i, _, rfl⟩ := hp
        exact ⟨by simp, fun s h => by simp at h⟩) hs hg).mono (m := ws.length) (by omega)
      obtain ⟨r1, r2⟩ := r
      simp only [] at he
      split at he
      · split at he
        · cases he
        · cases he
          exact fun p hp => hin p (List.mem_of_mem_drop (List.mem_of_mem_take hp))
      · cases he; exact hin
theorem splitOf_wok {c : Cut} {x : Var} {ps : List Piece} (hx : okVar x = true) (he : splitOf c x.acts = some ps) : ∀ p ∈ ps, WOk p.word := fun p hp => by
  simp only [okVar, Bool.and_eq_true, decide_eq_true_eq, List.all_eq_true] at hx
  have := splitOf_in (Q := fun s => isName s = true) hx.1.1.2 he p hp
  exact ⟨Nat.le_trans this.1 hx.1.1.1, this.2⟩

/-! ### The program's rows and the reference's -/
def putB (n : Int) (R : List (List Var)) (p : Piece) : List (List Var) := match R[p.part.toNat]? with
  | some r => R.set p.part.toNat (bump r p.word n)
  | none => R
theorem putB_some {n : Int} {R : List (List Var)} {p : Piece} {r : List Var} (h : R[p.part.toNat]? = some r) : putB n R p = R.set p.part.toNat (bump r p.word n) := by
  unfold putB; rw [h]
theorem putB_len (n : Int) (R : List (List Var)) (p : Piece) : (putB n R p).length = R.length := by
  unfold putB; split <;> simp
def RelR (R S : List (List Var)) : Prop := R.length = S.length ∧ ∀ (i : Nat) (r s : List Var), R[i]? = some r → S[i]? = some s → Asc s ∧ r.Perm s
theorem RelR.put {n : Int} {R S : List (List Var)} {p : Piece} (h : RelR R S) : RelR (putB n R p) (putPiece n S p) := by
  refine ⟨by rw [putB_len, putPiece_len]; exact h.1, fun i r s hr hs => ?_⟩
  unfold putB at hr
  unfold putPiece at hs
  cases hR : R[p.part.toNat]? with
  | none =>
    have hS : S[p.part.toNat]? = none := by
      rw [List.getElem?_eq_none_iff] at hR ⊢; have := h.1; omega
    rw [hR] at hr; rw [hS] at hs
    exact h.2 i r s hr hs
  | some r0 =>
    obtain ⟨s0, hS⟩ : ∃ s0, S[p.part.toNat]? = some s0 := get_some (by have := lt_of_get hR; have := h.1; omega)
    rw [hR] at hr; rw [hS] at hs
    simp only [] at hr hs
    obtain ⟨a1, a2⟩ := h.2 _ _ _ hR hS
    by_cases e : p.part.toNat = i
    · subst e
      rw [List.getElem?_set_self (lt_of_get hR)] at hr
      rw [List.getElem?_set_self (lt_of_get hS)] at hs
      cases hr; cases hs
      exact ⟨addVar_asc a1, bump_step a1 a2⟩
    · rw [List.getElem?_set_ne e] at hr
      rw [List.getElem?_set_ne e] at hs
      exact h.2 i r s hr hs
theorem RelR.foldl {n : Int} : ∀ {ps : List Piece} {R S : List (List Var)}, RelR R S → RelR (ps.foldl (putB n) R) (ps.foldl (putPiece n) S)
  | [], _, _, h => h
  | p :: ps, _, _, h => RelR.foldl (ps := ps) h.put
theorem relR_rep (n : Nat) : RelR (List.replicate n []) (List.replicate n []) := ⟨rfl, fun i r s hr hs => by
  have h1 := List.eq_of_mem_replicate (List.mem_of_getElem? hr)
  have h2 := List.eq_of_mem_replicate (List.mem_of_getElem? hs)
  subst h1 h2
  exact ⟨List.Pairwise.nil, .refl _⟩⟩
theorem RelR.ok {m : Nat} {R S : List (List Var)} (h : RelR R S) (hS : RowsOk m S) : RowsOk m R := fun r hr => by
  obtain ⟨i, hi⟩ := List.getElem?_of_mem hr
  obtain ⟨s, hs⟩ : ∃ s, S[i]? = some s := get_some (by have := lt_of_get hi; have := h.1; omega)
  obtain ⟨_, p⟩ := h.2 i r s hi hs
  have := hS s (List.mem_of_getElem? hs)
  exact ⟨by rw [p.length_eq]; exact this.1, fun x hx => this.2 x (p.mem_iff.1 hx)⟩
theorem RelR.any {R S : List (List Var)} (h : RelR R S) (f : List Var → Bool) (hf : ∀ r s, r.Perm s → f r = f s) : R.any f = S.any f := by
  rw [Bool.eq_iff_iff, List.any_eq_true, List.any_eq_true]
  constructor
  · rintro ⟨r, hr, hfr⟩
    obtain ⟨i, hi⟩ := List.getElem?_of_mem hr
    obtain ⟨s, hs⟩ : ∃ s, S[i]? = some s := get_some (by have := lt_of_get hi; have := h.1; omega)
    exact ⟨s, List.mem_of_getElem? hs, by rw [← hf r s (h.2 i r s hi hs).2]; exact hfr⟩
  · rintro ⟨s, hs, hfs⟩
    obtain ⟨i, hi⟩ := List.getElem?_of_mem hs
    obtain ⟨r, hr⟩ : ∃ r, R[i]? = some r := get_some (by have := lt_of_get hi; have := h.1; omega)
    exact ⟨r, List.mem_of_getElem? hr, by rw [hf r s (h.2 i r s hr hi).2]; exact hfs⟩
theorem big_perm {r s : List Var} (h : r.Perm s) : bigVars r = bigVars s := by
  unfold bigVars
  rw [Bool.eq_iff_iff, List.any_eq_true, List.any_eq_true]
  exact ⟨fun ⟨x, hx, e⟩ => ⟨x, h.mem_iff.1 hx, e⟩, fun ⟨x, hx, e⟩ => ⟨x, h.mem_iff.2 hx, e⟩⟩
theorem many_perm {r s : List Var} (h : r.Perm s) : manyVars r = manyVars s := by unfold manyVars; rw [h.length_eq]
/-- The rows, each in order, are the reference's. -/
theorem RelR.sorted {R S T : List (List Var)} (h : RelR R S) (hl : T.length = R.length) (hT : ∀ (i : Nat) (r t : List Var), R[i]? = some r → T[i]? = some t → Asc t ∧ t.Perm r) : T = S := by
  apply List.ext_getElem?
  intro i
  cases hi : T[i]? with
  | none =>
    rw [List.getElem?_eq_none_iff] at hi
    rw [eq_comm, List.getElem?_eq_none_iff]; have := h.1; omega
  | some t =>
    obtain ⟨r, hr⟩ : ∃ r, R[i]? = some r := get_some (by have := lt_of_get hi; omega)
    obtain ⟨s, hs⟩ : ∃ s, S[i]? = some s := get_some (by have := lt_of_get hr; have := h.1; omega)
    obtain ⟨a, p⟩ := h.2 i r s hr hs
    obtain ⟨a', p'⟩ := hT i r t hr hi
    rw [hs, sorted_bump a p a' p']

/-! ### Where a word stands -/
def WR (R : List (List Var)) : Prop := ∀ r ∈ R, ∀ x ∈ r, WOk x.acts
theorem bump_mem {w : List ByteArray} {n : Int} : ∀ {r : List Var} {y : Var}, y ∈ bump r w n → y.acts = w ∨ ∃ z ∈ r, z.acts = y.acts
  | [], y, hy => by simp [bump] at hy; exact .inl (by rw [hy])
  | z :: r, y, hy => by
    rw [bump] at hy
    split at hy
    · rcases List.mem_cons.1 hy with rfl | hy
      · exact .inr ⟨z, by simp, rfl⟩
      · exact .inr ⟨y, by simp [hy], rfl⟩
    · rcases List.mem_cons.1 hy with rfl | hy
      · exact .inr ⟨y, by simp, rfl⟩
      · rcases bump_mem hy with h1 | ⟨z', hz', e⟩
        · exact .inl h1
        · exact .inr ⟨z', by simp [hz'], e⟩
theorem WR.put {n : Int} {R : List (List Var)} {p : Piece} (h : WR R) (hp : WOk p.word) : WR (putB n R p) := by
  unfold putB
  split
  · rename_i r hr
    intro r' hr' x hx
    rcases List.mem_or_eq_of_mem_set hr' with h1 | h1
    · exact h r' h1 x hx
    · rw [h1] at hx
      rcases bump_mem hx with e | ⟨z, hz, e⟩
      · rw [e]; exact hp
      · rw [← e]; exact h r (List.mem_of_getElem? hr) z hz
  · exact h
theorem wr_rep (n : Nat) : WR (List.replicate n []) := fun r hr x hx => by
  have := List.eq_of_mem_replicate hr
  subst this; simp at hx
/-- The map's entries: each word, joined, and where it stands. -/
def atGo (f : List ByteArray → ByteArray) : Nat → List Var → List (ByteArray × Value)
  | _, [] => []
  | i, x :: r => (f x.acts, Value.int .i64 (i : Int)) :: atGo f (i + 1) r
theorem atGo_some {f : List ByteArray → ByteArray} {w : List ByteArray} {v : Value} (hw : WOk w) (hf : ∀ a b, WOk a → WOk b → f a = f b → a = b) : ∀ {r : List Var} {i : Nat}, (∀ x ∈ r, WOk x.acts) → aget (atGo f i r) (f w) = some v → ∃ (j : Nat) (y : Var), v = .int .i64 ((i + j : Nat) : Int) ∧ r[j]? = some y ∧ y.acts = w ∧ ∀ n, r.set j ⟨w, y.count + n⟩ = bump r w n ∧ atGo f i (bump r w n) = atGo f i r
  | [], i, _, h => by simp [atGo, aget] at h
  | x :: r, i, hr, h => by
    rw [atGo, aget] at h
    split at h
    · rename_i e
      have e' := hf _ _ hw (hr x (by simp)) e
      cases h
      refine ⟨0, x, rfl, rfl, e'.symm, fun n => ?_⟩
      rw [bump, if_pos e'.symm]
      exact ⟨by rw [e']; rfl, rfl⟩
    · rename_i hne
      have hx : x.acts ≠ w := fun e => hne (by rw [e])
      obtain ⟨j, y, hv, hy, hyw, hset⟩ := atGo_some hw hf (fun z hz => hr z (by simp [hz])) h
      refine ⟨j + 1, y, by rw [hv, show i + 1 + j = i + (j + 1) by omega], hy, hyw, fun n => ?_⟩
      rw [bump, if_neg hx]
      exact ⟨by rw [List.set_cons_succ, (hset n).1], by rw [atGo, (hset n).2]; rfl⟩
theorem atGo_none {f : List ByteArray → ByteArray} {w : List ByteArray} : ∀ {r : List Var} {i : Nat}, aget (atGo f i r) (f w) = none → (∀ x ∈ r, x.acts ≠ w) ∧ ∀ n, atGo f i (bump r w n) = aput (atGo f i r) (f w) (.int .i64 ((i + r.length : Nat) : Int))
  | [], i, _ => ⟨fun x h => by simp at h, fun n => rfl⟩
  | x :: r, i, h => by
    rw [atGo, aget] at h
    split at h
    · cases h
    · rename_i hne
      have hx : x.acts ≠ w := fun e => hne (by rw [e])
      obtain ⟨h1, h2⟩ := atGo_none h
      refine ⟨fun y hy => ?_, fun n => ?_⟩
      · rcases List.mem_cons.1 hy with rfl | hy
        · exact hx
        · exact h1 y hy
      · rw [bump, if_neg hx, atGo, h2 n, atGo, aput, if_neg hne, List.length_cons, show i + 1 + r.length = i + (r.length + 1) by omega]
theorem bump_new {r : List Var} {w : List ByteArray} {n : Int} (h : ∀ x ∈ r, x.acts ≠ w) : (r ++ [(⟨w, 0⟩ : Var)]).set r.length (⟨w, 0 + n⟩ : Var) = bump r w n := by
  rw [bump_none h, List.set_append_right _ _ (Nat.le_refl _), Nat.sub_self, Int.zero_add]; rfl
end Go.Cb
