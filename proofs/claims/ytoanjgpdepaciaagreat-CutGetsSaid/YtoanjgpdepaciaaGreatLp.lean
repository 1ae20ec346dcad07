/-
  Plain laws: rows and squares of truths; what is reached, by two ways. No program in sight.
  Plain laws: words in order; variants counted by first occurrence, then sorted, are those added in order. No program in sight.
  Plain laws: a square of truths is closed by passes over all triples. No program in sight.
  Plain laws: classes of what is linked, found one after the other. No program in sight.
  Plain functions: a word is cut into runs of one part, as the program does it for a loop. No program in sight.
  Plain laws: cut.Split's way (counted by first occurrence, by the joined word) against the reference's. No program in sight.
-/
import Derived.Lib.Join
import Derived.Test.YtoanjgpdepaciaaGreatPlain
import Derived.Test.YtoanjgpdepaciaaGreatEngb
import Derived.Test.YtoanjgpdepaciaaGreatEng
namespace Go.Cb
open Go.En
set_option linter.all false

def vec {α : Type} (n : Nat) (f : Nat → α) : List α := (List.range n).map f
theorem vec_len {α : Type} (n : Nat) (f : Nat → α) : (vec n f).length = n := by simp [vec]
theorem vec_get {α : Type} {n i : Nat} (f : Nat → α) (h : i < n) : (vec n f)[i]? = some (f i) := by simp [vec, h]
theorem vec_ext {α : Type} {n : Nat} {l : List α} {f : Nat → α} (hl : l.length = n) (h : ∀ i x, l[i]? = some x → x = f i) : l = vec n f := by
  apply List.ext_getElem?
  intro i
  rcases Nat.lt_or_ge i n with hi | hi
  · obtain ⟨x, hx⟩ := get_of_lt (show i < l.length by omega)
    rw [hx, vec_get f hi, h i x hx]
  · rw [List.getElem?_eq_none (by omega), List.getElem?_eq_none (by rw [vec_len]; exact hi)]
theorem vec_set {α : Type} {n a : Nat} (f : Nat → α) (b : α) : (vec n f).set a b = vec n (fun i => if i = a then b else f i) := by
  refine vec_ext (by simp [vec]) fun i x hx => ?_
  have hi := lt_of_get hx
  rw [List.length_set, vec_len] at hi
  rw [List.getElem?_set] at hx
  split at hx
  · rename_i e; subst e
    split at hx
    · cases hx; simp
    · cases hx
  · rename_i e
    rw [vec_get f hi] at hx
    cases hx
    rw [if_neg (fun h => e h.symm)]
theorem vec_congr {α : Type} {n : Nat} {f g : Nat → α} (h : ∀ i, i < n → f i = g i) : vec n f = vec n g :=
  List.map_congr_left fun i hi => h i (List.mem_range.1 hi)
theorem vec_const {α : Type} (n : Nat) (x : α) : List.replicate n x = vec n (fun _ => x) := by
  refine vec_ext (by simp) fun i y hy => ?_
  rw [List.getElem?_replicate] at hy
  split at hy
  · cases hy; rfl
  · cases hy
theorem vec_map {α β : Type} (n : Nat) (f : Nat → α) (g : α → β) : (vec n f).map g = vec n (fun i => g (f i)) := by simp [vec, Function.comp_def]
theorem vec_snoc {α : Type} (n : Nat) (f : Nat → α) : vec (n + 1) f = vec n f ++ [f n] := by simp [vec, List.range_succ]
abbrev pBools (n : Nat) (f : Nat → Bool) : PV := .sl n (vec n fun i => pBool (f i))
abbrev pMat (n : Nat) (f : Nat → Nat → Bool) : PV := .sl n (vec n fun i => pBools n (f i))
abbrev oBools (e n : Nat) (f : Nat → Bool) : PV := .own e 1 n (vec n fun i => pBool (f i))
abbrev oMat (e e' n : Nat) (f : Nat → Nat → Bool) : PV := .own e 1 n (vec n fun i => oBools e' n (f i))
theorem share_bools (e n : Nat) (f : Nat → Bool) : share (oBools e n f) = pBools n f := by
  rw [share, shares_eq, vec_map]; rfl
theorem share_mat (e e' n : Nat) (f : Nat → Nat → Bool) : share (oMat e e' n f) = pMat n f := by
  rw [share, shares_eq, vec_map]
  show PV.sl n _ = PV.sl n _
  congr 1
  exact vec_congr fun i _ => share_bools e' n (f i)

def Closed (n : Nat) (f T : Nat → Nat → Bool) : Prop := (∀ i j, i < n → j < n → f i j = true → T i j = true) ∧ ∀ i j k, i < n → j < n → k < n → T i j = true → T j k = true → T i k = true
def war (f : Nat → Nat → Bool) : Nat → Nat → Nat → Bool
  | 0 => f
  | k + 1 => fun i j => war f k i j || (war f k i k && war f k k j)
theorem war_le {n : Nat} {f T : Nat → Nat → Bool} (h : Closed n f T) : ∀ k, k ≤ n → ∀ i j, i < n → j < n → war f k i j = true → T i j = true
  | 0, _, i, j, hi, hj, h1 => h.1 i j hi hj h1
  | k + 1, hk, i, j, hi, hj, h1 => by
    simp only [war, Bool.or_eq_true, Bool.and_eq_true] at h1
    rcases h1 with h1 | ⟨h1, h2⟩
    · exact war_le h k (by omega) i j hi hj h1
    · exact h.2 i k j hi (by omega) hj (war_le h k (by omega) i k hi (by omega) h1) (war_le h k (by omega) k j (by omega) hj h2)
theorem war_base (f : Nat → Nat → Bool) (i j : Nat) : ∀ k, f i j = true → war f k i j = true
  | 0, h => h
  | k + 1, h => by simp only [war, Bool.or_eq_true]; exact .inl (war_base f i j k h)
theorem war_col (f : Nat → Nat → Bool) (k i : Nat) : war f (k + 1) i k = war f k i k := by
  simp only [war]; cases war f k i k <;> simp
theorem war_row (f : Nat → Nat → Bool) (k j : Nat) : war f (k + 1) k j = war f k k j := by
  simp only [war]; cases war f k k j <;> simp
theorem war_mid (f : Nat → Nat → Bool) : ∀ k m i j, m < k → war f k i m = true → war f k m j = true → war f k i j = true
  | 0, m, i, j, hm, _, _ => by omega
  | k + 1, m, i, j, hm, h1, h2 => by
    by_cases e : m = k
    · subst e
      rw [war_col] at h1; rw [war_row] at h2
      simp only [war, h1, h2, Bool.and_self, Bool.or_true]
    · have hm' : m < k := by omega
      simp only [war, Bool.or_eq_true, Bool.and_eq_true] at h1 h2 ⊢
      rcases h1 with h1 | ⟨h1, h1'⟩
      · rcases h2 with h2 | ⟨h2, h2'⟩
        · exact .inl (war_mid f k m i j hm' h1 h2)
        · exact .inr ⟨war_mid f k m i k hm' h1 h2, h2'⟩
      · rcases h2 with h2 | ⟨h2, h2'⟩
        · exact .inr ⟨h1, war_mid f k m k j hm' h1' h2⟩
        · exact .inr ⟨h1, h2'⟩
def reachB (n : Nat) (f : Nat → Nat → Bool) : Nat → Nat → Bool := war f n
theorem reach_closed (n : Nat) (f : Nat → Nat → Bool) : Closed n f (reachB n f) := ⟨fun i j _ _ h => war_base f i j n h, fun i j k _ hj _ h1 h2 => war_mid f n j i k hj h1 h2⟩
theorem reach_of {n : Nat} {f R : Nat → Nat → Bool} (h1 : Closed n f R) (h2 : ∀ T, Closed n f T → ∀ i j, i < n → j < n → R i j = true → T i j = true) (i j : Nat) (hi : i < n) (hj : j < n) : R i j = reachB n f i j := by
  rw [Bool.eq_iff_iff]
  exact ⟨h2 _ (reach_closed n f) i j hi hj, war_le h1 n (Nat.le_refl n) i j hi hj⟩
def cntF (n : Nat) (f : Nat → Bool) : Nat := ((List.range n).filter fun i => !f i).length
theorem cntF_snoc (n : Nat) (f : Nat → Bool) : cntF (n + 1) f = cntF n f + (if f n then 0 else 1) := by
  unfold cntF
  rw [List.range_succ, List.filter_append, List.length_append]
  cases h : f n <;> simp [h]
theorem cntF_congr {n : Nat} {f g : Nat → Bool} (h : ∀ i, i < n → f i = g i) : cntF n f = cntF n g := by
  unfold cntF
  rw [List.filter_congr fun i hi => by rw [h i (List.mem_range.1 hi)]]
theorem cntF_set {f : Nat → Bool} {a : Nat} (hf : f a = false) : ∀ {n : Nat}, a < n → cntF n (fun i => if i = a then true else f i) + 1 = cntF n f
  | 0, h => by omega
  | n + 1, h => by
    rw [cntF_snoc, cntF_snoc]
    by_cases e : n = a
    · subst e
      rw [if_pos rfl, hf]
      rw [cntF_congr (f := fun i => if i = n then true else f i) (g := f) fun i hi => by rw [if_neg (by omega)]]
      simp
    · rw [if_neg e]
      have := cntF_set hf (n := n) (by omega)
      omega
def cntM (n : Nat) (f : Nat → Nat → Bool) : Nat := ((List.range n).map fun i => cntF n (f i)).sum
theorem sum_range_snoc (n : Nat) (g : Nat → Nat) : ((List.range (n + 1)).map g).sum = ((List.range n).map g).sum + g n := by
  rw [List.range_succ, List.map_append, List.sum_append]; simp
theorem sum_congr {n : Nat} {g h : Nat → Nat} (e : ∀ i, i < n → g i = h i) : ((List.range n).map g).sum = ((List.range n).map h).sum := by
  rw [List.map_congr_left fun i hi => e i (List.mem_range.1 hi)]
theorem sum_less {g h : Nat → Nat} {a : Nat} (ha : g a + 1 = h a) : ∀ {n : Nat}, a < n → (∀ i, i < n → i ≠ a → g i = h i) → ((List.range n).map g).sum + 1 = ((List.range n).map h).sum
  | 0, hn, _ => by omega
  | n + 1, hn, e => by
    rw [sum_range_snoc, sum_range_snoc]
    by_cases hx : n = a
    · subst hx
      rw [sum_congr (g := g) (h := h) fun i hi => e i (by omega) (by omega)]
      omega
    · have := sum_less ha (n := n) (by omega) (fun i hi hne => e i (by omega) hne)
      rw [e n (by omega) hx]; omega
theorem cntM_set {n : Nat} {f : Nat → Nat → Bool} {a b : Nat} (ha : a < n) (hb : b < n) (hf : f a b = false) : cntM n (fun i => if i = a then (fun j => if j = b then true else f a j) else f i) + 1 = cntM n f := by
  unfold cntM
  refine sum_less (a := a) ?_ ha (fun i _ hne => ?_)
  · simp only [if_pos]; exact cntF_set hf hb
  · simp only [if_neg hne]
end Go.Cb

namespace Go.Cb
set_option linter.all false

theorem bl_irrefl : ∀ l : List UInt8, Op.bytesLess l l = false
  | [] => rfl
  | a :: l => by simp [Op.bytesLess, bl_irrefl l, UInt8.lt_irrefl]
theorem bl_trans : ∀ a b c : List UInt8, Op.bytesLess a b = true → Op.bytesLess b c = true → Op.bytesLess a c = true
  | _, _, [], _, h => by cases h' : (‹List UInt8› : List UInt8) <;> simp_all [Op.bytesLess]
  | _, [], _ :: _, h, _ => by simp [Op.bytesLess] at h
  | [], _ :: _, _ :: _, _, _ => rfl
  | x :: a, y :: b, z :: c, h1, h2 => by
    simp only [Op.bytesLess, Bool.or_eq_true, Bool.and_eq_true, decide_eq_true_eq, beq_iff_eq] at h1 h2 ⊢
    rcases h1 with h1 | ⟨rfl, h1⟩
    · rcases h2 with h2 | ⟨rfl, h2⟩
      · exact .inl (UInt8.lt_trans h1 h2)
      · exact .inl h1
    · rcases h2 with h2 | ⟨rfl, h2⟩
      · exact .inl h2
      · exact .inr ⟨rfl, bl_trans a b c h1 h2⟩
theorem bl_total : ∀ a b : List UInt8, Op.bytesLess a b = false → Op.bytesLess b a = false → a = b
  | [], [], _, _ => rfl
  | [], _ :: _, h, _ => by simp [Op.bytesLess] at h
  | _ :: _, [], _, h => by simp [Op.bytesLess] at h
  | x :: a, y :: b, h1, h2 => by
    simp only [Op.bytesLess, Bool.or_eq_false_iff, decide_eq_false_iff_not] at h1 h2
    have hxy : x = y := UInt8.le_antisymm (UInt8.not_lt.1 h2.1) (UInt8.not_lt.1 h1.1)
    subst hxy
    simp only [beq_self_eq_true, Bool.true_and] at h1 h2
    rw [bl_total a b h1.2 h2.2]
theorem strLt_irrefl (a : ByteArray) : strLt a a = false := bl_irrefl _
theorem strLt_trans {a b c : ByteArray} (h : strLt a b = true) (k : strLt b c = true) : strLt a c = true := bl_trans _ _ _ h k
theorem strLt_total {a b : ByteArray} (h : strLt a b = false) (k : strLt b a = false) : a = b := by
  have := bl_total _ _ h k
  rw [ByteArray.toList_eq, ByteArray.toList_eq] at this
  exact WideShapes.bytes_inj this
theorem cmpStr_zero {a b : ByteArray} : cmpStr a b = 0 ↔ a = b := by
  unfold cmpStr
  constructor
  · intro h
    split at h
    · omega
    · split at h
      · rename_i h2; exact strEq_iff.1 h2
      · omega
  · rintro rfl
    rw [strLt_irrefl, strEq_iff.2 rfl]; rfl
theorem cmpStr_neg {a b : ByteArray} : cmpStr a b < 0 ↔ strLt a b = true := by
  unfold cmpStr
  constructor
  · intro h
    split at h
    · assumption
    · split at h <;> omega
  · intro h; rw [h, if_pos rfl]; decide
theorem cmpStrs_zero : ∀ {l m : List ByteArray}, cmpStrs l m = 0 ↔ l = m
  | [], [] => by simp [cmpStrs]
  | [], _ :: _ => by simp [cmpStrs]
  | _ :: _, [] => by simp [cmpStrs]
  | a :: l, b :: m => by
    rw [cmpStrs]
    split
    · rename_i h
      rw [cmpStrs_zero, cmpStr_zero.1 h]; simp
    · rename_i h
      constructor
      · intro h'; exact absurd h' h
      · intro h'; cases h'; exact absurd (cmpStr_zero.2 rfl) h
def ltW (l m : List ByteArray) : Bool := decide (cmpStrs l m < 0)
theorem ltW_cons {a b : ByteArray} {l m : List ByteArray} : ltW (a :: l) (b :: m) = true ↔ strLt a b = true ∨ (a = b ∧ ltW l m = true) := by
  unfold ltW
  rw [cmpStrs]
  split
  · rename_i h
    have := cmpStr_zero.1 h
    subst this
    simp [strLt_irrefl]
  · rename_i h
    rw [decide_eq_true_eq, cmpStr_neg]
    constructor
    · exact .inl
    · rintro (h1 | ⟨rfl, _⟩)
      · exact h1
      · exact absurd (cmpStr_zero.2 rfl) h
theorem ltW_irrefl (l : List ByteArray) : ltW l l = false := by unfold ltW; rw [cmpStrs_zero.2 rfl]; rfl
theorem ltW_trans : ∀ {a b c : List ByteArray}, ltW a b = true → ltW b c = true → ltW a c = true
  | _, b, [], _, h => by cases b <;> simp [ltW, cmpStrs] at h
  | a, [], _ :: _, h, _ => by cases a <;> simp [ltW, cmpStrs] at h
  | [], _ :: _, _ :: _, _, _ => by simp [ltW, cmpStrs]
  | x :: a, y :: b, z :: c, h1, h2 => by
    rw [ltW_cons] at h1 h2 ⊢
    rcases h1 with h1 | ⟨rfl, h1⟩
    · rcases h2 with h2 | ⟨rfl, h2⟩
      · exact .inl (strLt_trans h1 h2)
      · exact .inl h1
    · rcases h2 with h2 | ⟨rfl, h2⟩
      · exact .inl h2
      · exact .inr ⟨rfl, ltW_trans h1 h2⟩
theorem ltW_total : ∀ {a b : List ByteArray}, ltW a b = false → ltW b a = false → a = b
  | [], [], _, _ => rfl
  | [], _ :: _, h, _ => by simp [ltW, cmpStrs] at h
  | _ :: _, [], _, h => by simp [ltW, cmpStrs] at h
  | x :: a, y :: b, h1, h2 => by
    have g1 : ¬ (strLt x y = true ∨ (x = y ∧ ltW a b = true)) := fun h => by rw [ltW_cons.2 h] at h1; cases h1
    have g2 : ¬ (strLt y x = true ∨ (y = x ∧ ltW b a = true)) := fun h => by rw [ltW_cons.2 h] at h2; cases h2
    have hxy : x = y := strLt_total (by cases h : strLt x y with | false => rfl | true => exact absurd (.inl h) g1) (by cases h : strLt y x with | false => rfl | true => exact absurd (.inl h) g2)
    subst hxy
    rw [ltW_total (a := a) (b := b) (by cases h : ltW a b with | false => rfl | true => exact absurd (.inr ⟨rfl, h⟩) g1) (by cases h : ltW b a with | false => rfl | true => exact absurd (.inr ⟨rfl, h⟩) g2)]

def bump : List Var → List ByteArray → Int → List Var
  | [], w, n => [⟨w, n⟩]
  | x :: r, w, n => if x.acts = w then ⟨x.acts, x.count + n⟩ :: r else x :: bump r w n
def Asc (r : List Var) : Prop := r.Pairwise fun x y => ltW x.acts y.acts = true
theorem addVar_mem {w : List ByteArray} {n : Int} : ∀ {r : List Var} {x : Var}, x ∈ addVar r w n → x.acts = w ∨ x ∈ r
  | [], x, h => by simp [addVar] at h; exact .inl (by rw [h])
  | y :: r, x, h => by
    rw [addVar] at h
    split at h
    · rcases List.mem_cons.1 h with rfl | h
      · exact .inr (by simp)
      · exact (addVar_mem h).imp id fun h => by simp [h]
    · split at h
      · rcases List.mem_cons.1 h with rfl | h
        · exact .inl rfl
        · exact .inr (by simp [h])
      · rcases List.mem_cons.1 h with rfl | h
        · exact .inl rfl
        · exact .inr h
theorem addVar_asc {w : List ByteArray} {n : Int} : ∀ {r : List Var}, Asc r → Asc (addVar r w n)
  | [], _ => by simp [addVar, Asc]
  | x :: r, h => by
    have hx := List.pairwise_cons.1 h
    rw [addVar]
    split
    · rename_i hc
      refine List.pairwise_cons.2 ⟨fun y hy => ?_, addVar_asc hx.2⟩
      rcases addVar_mem hy with h1 | h1
      · rw [h1]; simpa [ltW] using hc
      · exact hx.1 y h1
    · split
      · rename_i hc
        have hw : x.acts = w := cmpStrs_zero.1 hc
        refine List.pairwise_cons.2 ⟨fun y hy => ?_, hx.2⟩
        show ltW w y.acts = true
        rw [← hw]; exact hx.1 y hy
      · rename_i h1 h2
        have hlt : ltW w x.acts = true := by
          cases h3 : ltW w x.acts with
          | true => rfl
          | false =>
            have h4 : ltW x.acts w = false := by simpa [ltW] using h1
            exact absurd (cmpStrs_zero.2 (ltW_total h4 h3)) h2
        refine List.pairwise_cons.2 ⟨fun y hy => ?_, h⟩
        rcases List.mem_cons.1 hy with rfl | hy
        · exact hlt
        · exact ltW_trans hlt (hx.1 y hy)
def Nodup (r : List Var) : Prop := r.Pairwise fun x y => x.acts ≠ y.acts
theorem Asc.nodup {r : List Var} (h : Asc r) : Nodup r := h.imp fun {x y} h e => by rw [e, ltW_irrefl] at h; cases h
theorem Nodup.perm {r s : List Var} (h : Nodup r) (p : r.Perm s) : Nodup s := (p.pairwise_iff (fun {x y} h => Ne.symm h)).1 h
theorem bump_none {w : List ByteArray} {n : Int} : ∀ {r : List Var}, (∀ x ∈ r, x.acts ≠ w) → bump r w n = r ++ [⟨w, n⟩]
  | [], _ => rfl
  | x :: r, h => by rw [bump, if_neg (h x (by simp)), bump_none fun y hy => h y (by simp [hy])]; rfl
theorem bump_perm {w : List ByteArray} {n : Int} {r s : List Var} (hn : Nodup r) (p : r.Perm s) : (bump r w n).Perm (bump s w n) := by
  induction p with
  | nil => exact .refl _
  | cons x p ih =>
    have h := List.pairwise_cons.1 hn
    simp only [bump]
    split
    · exact p.cons _
    · exact (ih h.2).cons _
  | swap x y l =>
    have h := List.pairwise_cons.1 hn
    have hxy : y.acts ≠ x.acts := h.1 x (by simp)
    simp only [bump]
    by_cases h1 : y.acts = w
    · have h2 : x.acts ≠ w := fun e => hxy (h1.trans e.symm)
      rw [if_pos h1, if_neg h2, if_pos h1]; exact .swap ..
    · by_cases h2 : x.acts = w
      · rw [if_neg h1, if_pos h2, if_pos h2]; exact .swap ..
      · rw [if_neg h1, if_neg h2, if_neg h2, if_neg h1]; exact .swap ..
  | trans p q ih1 ih2 => exact (ih1 hn).trans (ih2 (hn.perm p))
theorem add_bump {w : List ByteArray} {n : Int} : ∀ {r : List Var}, Asc r → (addVar r w n).Perm (bump r w n)
  | [], _ => .refl _
  | x :: r, h => by
    have hx := List.pairwise_cons.1 h
    rw [addVar, bump]
    split
    · rename_i hc
      have hne : x.acts ≠ w := fun e => by rw [cmpStrs_zero.2 e] at hc; omega
      rw [if_neg hne]
      exact (add_bump hx.2).cons _
    · split
      · rename_i hc
        have hw : x.acts = w := cmpStrs_zero.1 hc
        rw [if_pos hw, hw]
      · rename_i h1 h2
        have hne : x.acts ≠ w := fun e => h2 (cmpStrs_zero.2 e)
        have hlt : ltW w x.acts = true := by
          cases h3 : ltW w x.acts with
          | true => rfl
          | false =>
            have h4 : ltW x.acts w = false := by simpa [ltW] using h1
            exact absurd (cmpStrs_zero.2 (ltW_total h4 h3)) h2
        rw [if_neg hne, bump_none fun y hy e => by
          have h5 := ltW_trans hlt (hx.1 y hy)
          rw [e, ltW_irrefl] at h5; cases h5]
        have := (List.perm_append_comm (l₁ := [(⟨w, n⟩ : Var)]) (l₂ := x :: r))
        simpa using this
theorem asc_unique : ∀ {r s : List Var}, Asc r → Asc s → r.Perm s → r = s
  | [], s, _, _, p => (List.nil_perm.1 p).symm
  | x :: r, [], _, _, p => absurd p.length_eq (by simp)
  | x :: r, y :: s, hr, hs, p => by
    have h1 := List.pairwise_cons.1 hr
    have h2 := List.pairwise_cons.1 hs
    have hxy : x = y := by
      have hx : x ∈ y :: s := p.mem_iff.1 (by simp)
      have hy : y ∈ x :: r := p.mem_iff.2 (by simp)
      rcases List.mem_cons.1 hx with e | hx
      · exact e
      · rcases List.mem_cons.1 hy with e | hy
        · exact e.symm
        · have a := h2.1 x hx
          have b := h1.1 y hy
          have := ltW_trans a b
          rw [ltW_irrefl] at this; cases this
    subst hxy
    rw [asc_unique h1.2 h2.2 (List.Perm.cons_inv p)]
theorem sorted_bump {r s t : List Var} (h1 : Asc s) (h2 : r.Perm s) (h3 : Asc t) (h4 : t.Perm r) : t = s := asc_unique h3 h1 (h4.trans h2)
theorem bump_step {w : List ByteArray} {n : Int} {r s : List Var} (h1 : Asc s) (h2 : r.Perm s) : (bump r w n).Perm (addVar s w n) :=
  (bump_perm ((h1.nodup).perm h2.symm) h2).trans (add_bump h1).symm
end Go.Cb

namespace Go.Cb
open Go.En
set_option linter.all false

structure Grows (n : Nat) (E R : Nat → Nat → Bool) : Prop where
  lo : ∀ i j, i < n → j < n → E i j = true → R i j = true
  hi : ∀ T, Closed n E T → ∀ i j, i < n → j < n → R i j = true → T i j = true
theorem Grows.init (n : Nat) (E : Nat → Nat → Bool) : Grows n E E := ⟨fun _ _ _ _ h => h, fun T hT i j hi hj h => hT.1 i j hi hj h⟩
def setM (R : Nat → Nat → Bool) (a c : Nat) : Nat → Nat → Bool := fun i => if i = a then (fun j => if j = c then true else R a j) else R i
theorem setM_at (R : Nat → Nat → Bool) (a c i j : Nat) : setM R a c i j = (if i = a ∧ j = c then true else R i j) := by
  unfold setM
  by_cases h : i = a
  · subst h
    rw [if_pos rfl]
    by_cases h2 : j = c
    · rw [if_pos h2, if_pos ⟨rfl, h2⟩]
    · rw [if_neg h2, if_neg (fun h => h2 h.2)]
  · rw [if_neg h, if_neg (fun h' => h h'.1)]
theorem Grows.set {n : Nat} {E R : Nat → Nat → Bool} (h : Grows n E R) {a b c : Nat} (ha : a < n) (hb : b < n) (hc : c < n) (h1 : R a b = true) (h2 : R b c = true) : Grows n E (setM R a c) := by
  refine ⟨fun i j hi hj he => ?_, fun T hT i j hi hj hs => ?_⟩
  · rw [setM_at]; split
    · rfl
    · exact h.lo i j hi hj he
  · rw [setM_at] at hs
    split at hs
    · rename_i hx
      rw [hx.1, hx.2]
      exact hT.2 a b c ha hb hc (h.hi T hT a b ha hb h1) (h.hi T hT b c hb hc h2)
    · exact h.hi T hT i j hi hj hs
def Before (a b c a' b' c' : Nat) : Prop := a' < a ∨ (a' = a ∧ (b' < b ∨ (b' = b ∧ c' < c)))
structure Pass (n : Nat) (E R0 R : Nat → Nat → Bool) (ag : Bool) (a b c : Nat) : Prop where
  gr : Grows n E R
  dn : ag = true → cntM n R < cntM n R0
  st : ag = false → R = R0 ∧ ∀ a' b' c', a' < n → b' < n → c' < n → Before a b c a' b' c' → R0 a' b' = true → R0 b' c' = true → R0 a' c' = true
theorem Pass.start {n : Nat} {E R0 : Nat → Nat → Bool} (h : Grows n E R0) : Pass n E R0 R0 false 0 0 0 := ⟨h, by simp, fun _ => ⟨rfl, fun a' b' c' _ _ _ hB => by unfold Before at hB; omega⟩⟩
theorem Pass.to {n : Nat} {E R0 R : Nat → Nat → Bool} {ag : Bool} {a b c a1 b1 c1 : Nat} (h : Pass n E R0 R ag a b c) (hB : ∀ a' b' c', a' < n → b' < n → c' < n → Before a1 b1 c1 a' b' c' → Before a b c a' b' c' ∨ (ag = false → R0 a' b' = true → R0 b' c' = true → R0 a' c' = true)) : Pass n E R0 R ag a1 b1 c1 :=
  ⟨h.gr, h.dn, fun hg => ⟨(h.st hg).1, fun a' b' c' h1 h2 h3 h4 => by
    rcases hB a' b' c' h1 h2 h3 h4 with h5 | h5
    · exact (h.st hg).2 a' b' c' h1 h2 h3 h5
    · exact h5 hg⟩⟩
theorem Pass.skip {n : Nat} {E R0 R : Nat → Nat → Bool} {ag : Bool} {a b c : Nat} (h : Pass n E R0 R ag a b c) (hx : R a b = true → R b c = true → R a c = true) : Pass n E R0 R ag a b (c + 1) :=
  h.to fun a' b' c' _ _ _ hB => by
    by_cases e : a' = a ∧ b' = b ∧ c' = c
    · obtain ⟨rfl, rfl, rfl⟩ := e
      exact .inr fun hg => by rw [← (h.st hg).1]; exact hx
    · exact .inl (by unfold Before at hB ⊢; omega)
theorem Pass.mark {n : Nat} {E R0 R : Nat → Nat → Bool} {ag : Bool} {a b c : Nat} (h : Pass n E R0 R ag a b c) (ha : a < n) (hb : b < n) (hc : c < n) (h1 : R a b = true) (h2 : R b c = true) (h3 : R a c = false) : Pass n E R0 (setM R a c) true a b (c + 1) := by
  refine ⟨h.gr.set ha hb hc h1 h2, fun _ => ?_, by simp⟩
  have hs : cntM n (setM R a c) + 1 = cntM n R := cntM_set ha hc h3
  cases hg : ag with
  | true => have := h.dn hg; omega
  | false => rw [← (h.st hg).1]; omega
theorem Pass.row {n : Nat} {E R0 R : Nat → Nat → Bool} {ag : Bool} {a b c : Nat} (h : Pass n E R0 R ag a b c) (hc : n ≤ c) : Pass n E R0 R ag a (b + 1) 0 := h.to fun a' b' c' _ _ _ hB => .inl (by unfold Before at hB ⊢; omega)
theorem Pass.plane {n : Nat} {E R0 R : Nat → Nat → Bool} {ag : Bool} {a b c : Nat} (h : Pass n E R0 R ag a b c) (hc : n ≤ b) : Pass n E R0 R ag (a + 1) 0 0 := h.to fun a' b' c' _ _ _ hB => .inl (by unfold Before at hB ⊢; omega)
theorem Pass.closed {n : Nat} {E R0 R : Nat → Nat → Bool} {a b c : Nat} (h : Pass n E R0 R false a b c) (ha : n ≤ a) : Closed n E R := by
  obtain ⟨h1, h2⟩ := h.st rfl
  refine ⟨h.gr.lo, fun i j k hi hj hk ha' hb' => ?_⟩
  rw [h1] at ha' hb' ⊢
  exact h2 i j k hi hj hk (by unfold Before; omega) ha' hb'
theorem Pass.less {n : Nat} {E R0 R : Nat → Nat → Bool} {ag : Bool} {a b c : Nat} (h : Pass n E R0 R ag a b c) : cntM n R + (if ag then 1 else 0) < cntM n R0 + 1 := by
  cases hg : ag with
  | true => have := h.dn hg; simp; omega
  | false => rw [(h.st hg).1]; simp
theorem grows_reach {n : Nat} {E R : Nat → Nat → Bool} (h : Grows n E R) (hc : Closed n E R) : pMat n R = pMat n (reachB n E) := by
  show PV.sl _ _ = PV.sl _ _
  congr 1
  refine vec_congr fun i hi => ?_
  show PV.sl _ _ = PV.sl _ _
  congr 1
  refine vec_congr fun j hj => ?_
  rw [reach_of hc h.hi i j hi hj]
theorem fam_set {e n a c : Nat} {R : Nat → Nat → Bool} : (vec n fun i => PV.own e 1 n (vec n fun j => pBool (R i j))).set a (.own e 1 n ((vec n fun j => pBool (R a j)).set (c * 1) (pBool true))) = vec n fun i => PV.own e 1 n (vec n fun j => pBool (setM R a c i j)) := by
  rw [Nat.mul_one, vec_set, vec_set]
  refine vec_congr fun i hi => ?_
  by_cases h : i = a
  · subst h
    rw [if_pos rfl]
    congr 1
    refine vec_congr fun j hj => ?_
    rw [setM_at]
    by_cases h2 : j = c
    · rw [if_pos h2, if_pos ⟨rfl, h2⟩]
    · rw [if_neg h2, if_neg (fun h => h2 h.2)]
  · rw [if_neg h]
    congr 1
    refine vec_congr fun j hj => ?_
    rw [setM_at, if_neg (fun h' => h h'.1)]
end Go.Cb

namespace Go.Cb
open Go.En
set_option linter.all false

def Conn (l : List Int) (r : Int → Int → Bool) (x y : Int) : Prop := ∀ P : Int → Prop, (∀ a b, a ∈ l → b ∈ l → (r a b = true ∨ r b a = true) → P a → P b) → P x → P y
theorem Conn.refl (l : List Int) (r : Int → Int → Bool) (x : Int) : Conn l r x x := fun _ _ h => h
theorem Conn.trans {l : List Int} {r : Int → Int → Bool} {x y z : Int} (h : Conn l r x y) (k : Conn l r y z) : Conn l r x z := fun P hP hx => k P hP (h P hP hx)
theorem Conn.step {l : List Int} {r : Int → Int → Bool} {x y : Int} (hx : x ∈ l) (hy : y ∈ l) (h : r x y = true ∨ r y x = true) : Conn l r x y := fun P hP hx' => hP x y hx hy h hx'
theorem Conn.symm {l : List Int} {r : Int → Int → Bool} {x y : Int} (h : Conn l r x y) : Conn l r y x :=
  h (fun z => Conn l r z x) (fun a b ha hb hr hax => (Conn.step hb ha hr.symm).trans hax) (Conn.refl l r x)

theorem nodup_len {α : Type} [BEq α] [LawfulBEq α] : ∀ {l m : List α}, l.Nodup → (∀ x ∈ l, x ∈ m) → l.length ≤ m.length
  | [], m, _, _ => Nat.zero_le _
  | x :: l, m, h, hs => by
    rw [List.nodup_cons] at h
    have hx := hs x (by simp)
    have h1 := nodup_len (l := l) (m := m.erase x) h.2 fun y hy => by
      have hne : y ≠ x := fun e => h.1 (e ▸ hy)
      exact (List.mem_erase_of_ne hne).2 (hs y (by simp [hy]))
    rw [List.length_erase_of_mem hx] at h1
    have := List.length_pos_of_mem hx
    simp only [List.length_cons]
    omega
structure Comps (l : List Int) (r : Int → Int → Bool) (cs : List (List Int)) : Prop where
  mem : ∀ x, x ∈ cs.flatten ↔ x ∈ l
  nd : cs.flatten.Nodup
  ne : ∀ c ∈ cs, c ≠ []
  asc : ∀ c ∈ cs, c.Pairwise (· < ·)
  conn : ∀ c ∈ cs, ∀ x ∈ c, ∀ y ∈ c, Conn l r x y
  clos : ∀ c ∈ cs, ∀ x ∈ c, ∀ y ∈ l, (r x y = true ∨ r y x = true) → y ∈ c
  ord : cs.Pairwise fun c d => ∀ x y, c.head? = some x → d.head? = some y → x < y
structure Part (l : List Int) (r : Int → Int → Bool) (cs : List (List Int)) (k : Nat) : Prop where
  sub : ∀ x ∈ cs.flatten, x ∈ l
  did : ∀ j x, j < k → l[j]? = some x → x ∈ cs.flatten
  nd : cs.flatten.Nodup
  ne : ∀ c ∈ cs, c ≠ []
  asc : ∀ c ∈ cs, c.Pairwise (· < ·)
  conn : ∀ c ∈ cs, ∀ x ∈ c, ∀ y ∈ c, Conn l r x y
  clos : ∀ c ∈ cs, ∀ x ∈ c, ∀ y ∈ l, (r x y = true ∨ r y x = true) → y ∈ c
  ord : cs.Pairwise fun c d => ∀ x y, c.head? = some x → d.head? = some y → x < y
  hd : ∀ c ∈ cs, ∀ x, c.head? = some x → ∃ j, j < k ∧ l[j]? = some x
theorem Part.start (l : List Int) (r : Int → Int → Bool) : Part l r [] 0 := ⟨by simp, by omega, by simp, by simp, by simp, by simp, by simp, by simp, by simp⟩
theorem Part.comps {l : List Int} {r : Int → Int → Bool} {cs : List (List Int)} {k : Nat} (h : Part l r cs k) (hk : l.length ≤ k) : Comps l r cs :=
  ⟨fun x => ⟨h.sub x, fun hx => by
    obtain ⟨j, hj⟩ := List.getElem?_of_mem hx
    exact h.did j x (by have := lt_of_get hj; omega) hj⟩, h.nd, h.ne, h.asc, h.conn, h.clos, h.ord⟩
theorem Part.skip {l : List Int} {r : Int → Int → Bool} {cs : List (List Int)} {k : Nat} {x : Int} (h : Part l r cs k) (hx : l[k]? = some x) (hin : x ∈ cs.flatten) : Part l r cs (k + 1) :=
  ⟨h.sub, fun j y hj hy => by
    by_cases e : j = k
    · subst e; rw [hx] at hy; cases hy; exact hin
    · exact h.did j y (by omega) hy, h.nd, h.ne, h.asc, h.conn, h.clos, h.ord, fun c hc x hx => let ⟨j, hj, e⟩ := h.hd c hc x hx; ⟨j, by omega, e⟩⟩
structure Mk (l : List Int) (r : Int → Int → Bool) (cs : List (List Int)) (first : Int) (tk cl : List Int) (i q : Nat) : Prop where
  tkm : ∀ z, z ∈ tk ↔ z ∈ cs.flatten ∨ z ∈ cl
  nd : (cs.flatten ++ cl).Nodup
  sub : ∀ z ∈ cl, z ∈ l
  con : ∀ z ∈ cl, Conn l r first z
  fst : first ∈ cl
  il : i ≤ cl.length
  did : ∀ j x, j < i → cl[j]? = some x → ∀ y ∈ l, (r x y = true ∨ r y x = true) → y ∈ tk
  now : ∀ x, cl[i]? = some x → ∀ p y, p < q → l[p]? = some y → (r x y = true ∨ r y x = true) → y ∈ tk
theorem Mk.start {l : List Int} {r : Int → Int → Bool} {cs : List (List Int)} {k : Nat} {x : Int} {tk : List Int} (h : Part l r cs k) (hx : l[k]? = some x) (ht : ∀ z, z ∈ tk ↔ z ∈ cs.flatten) (hn : x ∉ cs.flatten) : Mk l r cs x (tk ++ [x]) [x] 0 0 :=
  ⟨fun z => by simp [ht], by
    rw [List.nodup_append]
    exact ⟨h.nd, by simp, fun a ha b hb => by simp at hb; subst hb; exact fun e => hn (e ▸ ha)⟩, fun z hz => by simp at hz; subst hz; exact List.mem_of_getElem? hx, fun z hz => by simp at hz; subst hz; exact Conn.refl _ _ _, by simp, by simp, by omega, by omega⟩
theorem Mk.len {l : List Int} {r : Int → Int → Bool} {cs : List (List Int)} {first : Int} {tk cl : List Int} {i q : Nat} (h : Mk l r cs first tk cl i q) : cl.length ≤ l.length := nodup_len (List.nodup_append.1 h.nd).2.1 h.sub
theorem Mk.pass {l : List Int} {r : Int → Int → Bool} {cs : List (List Int)} {first : Int} {tk cl : List Int} {i q : Nat} {x y : Int} (h : Mk l r cs first tk cl i q) (hx : cl[i]? = some x) (hy : l[q]? = some y) (hn : y ∈ tk ∨ (r x y = false ∧ r y x = false)) : Mk l r cs first tk cl i (q + 1) :=
  ⟨h.tkm, h.nd, h.sub, h.con, h.fst, h.il, h.did, fun x' hx' p z hp hz hr => by
    rw [hx] at hx'; cases hx'
    by_cases e : p = q
    · subst e; rw [hy] at hz; cases hz
      rcases hn with hn | ⟨h1, h2⟩
      · exact hn
      · rw [h1, h2] at hr; simp at hr
    · exact h.now x hx p z (by omega) hz hr⟩
theorem Mk.take {l : List Int} {r : Int → Int → Bool} {cs : List (List Int)} {first : Int} {tk cl : List Int} {i q : Nat} {x y : Int} (h : Mk l r cs first tk cl i q) (hx : cl[i]? = some x) (hy : l[q]? = some y) (hn : y ∉ tk) (hr : r x y = true ∨ r y x = true) : Mk l r cs first (tk ++ [y]) (cl ++ [y]) i (q + 1) := by
  have hyl := List.mem_of_getElem? hy
  have hxc := List.mem_of_getElem? hx
  have hn' : y ∉ cs.flatten ∧ y ∉ cl := by
    have := fun hh => hn ((h.tkm y).2 hh)
    exact ⟨fun hh => this (.inl hh), fun hh => this (.inr hh)⟩
  refine ⟨fun z => ?_, ?_, fun z hz => ?_, fun z hz => ?_, by simp [h.fst], by have := h.il; simp; omega, fun j u hj hu v hv hrr => ?_, fun u hu p v hp hv hrr => ?_⟩
  · simp only [List.mem_append, List.mem_singleton, h.tkm z]; exact or_assoc
  · rw [← List.append_assoc, List.nodup_append]
    refine ⟨h.nd, by simp, fun a ha b hb => ?_⟩
    simp at hb; subst hb
    intro e
    rw [List.mem_append] at ha
    rcases ha with ha | ha
    · exact hn'.1 (e ▸ ha)
    · exact hn'.2 (e ▸ ha)
  · simp only [List.mem_append, List.mem_singleton] at hz
    rcases hz with hz | rfl
    · exact h.sub z hz
    · exact hyl
  · simp only [List.mem_append, List.mem_singleton] at hz
    rcases hz with hz | rfl
    · exact h.con z hz
    · exact (h.con x hxc).trans (Conn.step (h.sub x hxc) hyl hr)
  · have hl : j < cl.length := by have := h.il; omega
    rw [List.getElem?_append_left hl] at hu
    rw [List.mem_append]; exact .inl (h.did j u hj hu v hv hrr)
  · have hl := lt_of_get hx
    rw [List.getElem?_append_left hl, hx] at hu; cases hu
    rw [List.mem_append]
    by_cases e : p = q
    · subst e; rw [hy] at hv; cases hv; simp
    · exact .inl (h.now x hx p v (by omega) hv hrr)
theorem Mk.next {l : List Int} {r : Int → Int → Bool} {cs : List (List Int)} {first : Int} {tk cl : List Int} {i q : Nat} (h : Mk l r cs first tk cl i q) (hq : l.length ≤ q) (hi : i < cl.length) : Mk l r cs first tk cl (i + 1) 0 :=
  ⟨h.tkm, h.nd, h.sub, h.con, h.fst, hi, fun j x hj hx y hy hr => by
    by_cases e : j = i
    · subst e
      obtain ⟨p, hp⟩ := List.getElem?_of_mem hy
      exact h.now x hx p y (by have := lt_of_get hp; omega) hp hr
    · exact h.did j x (by omega) hx y hy hr, by omega⟩
theorem sort_mem {cl : List Int} {z : Int} : z ∈ cl.mergeSort (fun x y => decide (x ≤ y)) ↔ z ∈ cl := (List.mergeSort_perm cl _).mem_iff
theorem sort_asc {cl : List Int} (h : cl.Nodup) : (cl.mergeSort fun x y => decide (x ≤ y)).Pairwise (· < ·) := by
  have h1 := List.pairwise_mergeSort (le := fun x y : Int => decide (x ≤ y)) (fun a b c h1 h2 => by simp at *; omega) (fun a b => by simp; omega) cl
  have h2 : (cl.mergeSort fun x y => decide (x ≤ y)).Nodup := (List.mergeSort_perm cl _).nodup_iff.2 h
  exact (h1.and h2).imp fun {a b} ⟨h3, h4⟩ => by simp at h3; have : a ≠ b := h4; omega
theorem Mk.done {l : List Int} {r : Int → Int → Bool} {cs : List (List Int)} {first : Int} {tk cl : List Int} {i k : Nat} (h : Mk l r cs first tk cl i 0) (hP : Part l r cs k) (hl : l.Pairwise (· < ·)) (hk : l[k]? = some first) (hi : cl.length ≤ i) : Part l r (cs ++ [cl.mergeSort fun x y => decide (x ≤ y)]) (k + 1) := by
  have hnd := List.nodup_append.1 h.nd
  have hflat : (cs ++ [cl.mergeSort fun x y => decide (x ≤ y)]).flatten = cs.flatten ++ cl.mergeSort (fun x y => decide (x ≤ y)) := by simp
  have hclos : ∀ x ∈ cl, ∀ y ∈ l, (r x y = true ∨ r y x = true) → y ∈ cl := fun x hx y hy hr => by
    obtain ⟨j, hj⟩ := List.getElem?_of_mem hx
    have := h.did j x (by have := lt_of_get hj; omega) hj y hy hr
    rcases (h.tkm y).1 this with h1 | h1
    · obtain ⟨c, hc, hyc⟩ := List.mem_flatten.1 h1
      have hxc := hP.clos c hc y hyc x (h.sub x hx) hr.symm
      exact absurd rfl (hnd.2.2 x (List.mem_flatten.2 ⟨c, hc, hxc⟩) x hx)
    · exact h1
  have hleast : ∀ z ∈ cl, first ≤ z := fun z hz => by
    obtain ⟨j, hj⟩ := List.getElem?_of_mem (h.sub z hz)
    rcases Nat.lt_trichotomy j k with h1 | h1 | h1
    · have := hP.did j z h1 hj
      exact absurd rfl (hnd.2.2 z this z hz)
    · subst h1; rw [hk] at hj; cases hj; omega
    · have := List.pairwise_iff_getElem.1 hl k j (lt_of_get hk) (lt_of_get hj) h1
      have e1 := (List.getElem?_eq_some_iff.1 hk).2
      have e2 := (List.getElem?_eq_some_iff.1 hj).2
      rw [e1, e2] at this; omega
  have hasc := sort_asc hnd.2.1
  have hhead : ∀ x, (cl.mergeSort fun x y => decide (x ≤ y)).head? = some x → x = first := fun x hx => by
    have hm : x ∈ cl := sort_mem.1 (List.mem_of_mem_head? hx)
    have hf : first ∈ cl.mergeSort fun x y => decide (x ≤ y) := sort_mem.2 h.fst
    have := hleast x hm
    cases hs : cl.mergeSort (fun x y => decide (x ≤ y)) with
    | nil => rw [hs] at hx; cases hx
    | cons a t =>
      rw [hs] at hx hf hasc
      simp at hx; subst hx
      rw [List.pairwise_cons] at hasc
      rcases List.mem_cons.1 hf with e | e
      · exact e.symm
      · have := hasc.1 first e; omega
  refine ⟨fun x hx => ?_, fun j x hj hx => ?_, ?_, fun c hc => ?_, fun c hc => ?_, fun c hc x hx y hy => ?_, fun c hc x hx y hy hr => ?_, ?_, fun c hc x hx => ?_⟩
  · rw [hflat, List.mem_append, sort_mem] at hx
    rcases hx with hx | hx
    · exact hP.sub x hx
    · exact h.sub x hx
  · rw [hflat, List.mem_append, sort_mem]
    by_cases e : j = k
    · subst e; rw [hk] at hx; cases hx; exact .inr h.fst
    · exact .inl (hP.did j x (by omega) hx)
  · rw [hflat, List.nodup_append]
    exact ⟨hP.nd, (List.mergeSort_perm cl _).nodup_iff.2 hnd.2.1, fun a ha b hb => hnd.2.2 a ha b (sort_mem.1 hb)⟩
  · rcases List.mem_append.1 hc with hc | hc
    · exact hP.ne c hc
    · simp at hc; subst hc; intro e
      have := (sort_mem (cl := cl)).2 h.fst
      rw [e] at this; simp at this
  · rcases List.mem_append.1 hc with hc | hc
    · exact hP.asc c hc
    · simp at hc; subst hc; exact hasc
  · rcases List.mem_append.1 hc with hc | hc
    · exact hP.conn c hc x hx y hy
    · simp at hc; subst hc
      exact (h.con x (sort_mem.1 hx)).symm.trans (h.con y (sort_mem.1 hy))
  · rcases List.mem_append.1 hc with hc | hc
    · exact hP.clos c hc x hx y hy hr
    · simp at hc; subst hc
      exact sort_mem.2 (hclos x (sort_mem.1 hx) y hy hr)
  · rw [List.pairwise_append]
    refine ⟨hP.ord, by simp, fun c hc d hd x y hx hy => ?_⟩
    simp at hd; subst hd
    obtain ⟨j, hj, e⟩ := hP.hd c hc x hx
    rw [hhead y hy]
    have := List.pairwise_iff_getElem.1 hl j k (lt_of_get e) (lt_of_get hk) hj
    rw [(List.getElem?_eq_some_iff.1 e).2, (List.getElem?_eq_some_iff.1 hk).2] at this
    exact this
  · rcases List.mem_append.1 hc with hc | hc
    · obtain ⟨j, hj, e⟩ := hP.hd c hc x hx
      exact ⟨j, by omega, e⟩
    · simp at hc; subst hc
      rw [hhead x hx]; exact ⟨k, by omega, hk⟩
end Go.Cb

namespace Go.Cb
open Go.En
set_option linter.all false

def runStep (parts : List (List ByteArray)) (ps : List Piece) (s : ByteArray) : List Piece := match ps[ps.length - 1]? with
  | none => [⟨partOf parts s, [s]⟩]
  | some q => if q.part = partOf parts s then ps.set (ps.length - 1) ⟨q.part, q.word ++ [s]⟩ else ps ++ [⟨partOf parts s, [s]⟩]
def runs (parts : List (List ByteArray)) (ps : List Piece) (ws : List ByteArray) : List Piece := ws.foldl (runStep parts) ps
def adjB : List Piece → Bool
  | p :: q :: l => (p.part == 0 || q.part == 0) && adjB (q :: l)
  | _ => true
theorem adjB_append {l : List Piece} {q : Piece} : ∀ (m : List Piece) , adjB (l ++ m) = true → adjB l = true := by
  intro m
  induction l with
  | nil => intro _; rfl
  | cons p l ih =>
    intro h
    cases l with
    | nil => rfl
    | cons p' l =>
      simp only [List.cons_append, adjB, Bool.and_eq_true] at h ⊢
      exact ⟨h.1, ih (by simpa using h.2)⟩
theorem adjB_snoc : ∀ (l : List Piece) (p q : Piece), adjB (l ++ [p, q]) = (adjB (l ++ [p]) && (p.part == 0 || q.part == 0))
  | [], p, q => by simp [adjB]
  | [a], p, q => by simp [adjB, Bool.and_comm]
  | a :: b :: l, p, q => by
    simp only [List.cons_append, adjB]
    have := adjB_snoc (b :: l) p q
    simp only [List.cons_append] at this
    rw [this, Bool.and_assoc]
theorem adjB_set : ∀ (l : List Piece) (p p' : Piece), p.part = p'.part → adjB (l ++ [p]) = adjB (l ++ [p'])
  | [], _, _, _ => rfl
  | [a], p, p', h => by simp [adjB, h]
  | a :: b :: l, p, p', h => by
    simp only [List.cons_append, adjB]
    have := adjB_set (b :: l) p p' h
    simp only [List.cons_append] at this
    rw [this]
theorem split_last {α : Type} {l : List α} {x : α} (h : l[l.length - 1]? = some x) : ∃ m, l = m ++ [x] := by
  have hl := (List.getElem?_eq_some_iff.1 h).1
  refine ⟨l.take (l.length - 1), ?_⟩
  have h1 := take_snoc h
  rw [show l.length - 1 + 1 = l.length by omega, List.take_length] at h1
  exact h1
theorem set_last {α : Type} (m : List α) (x y : α) : (m ++ [x]).set ((m ++ [x]).length - 1) y = m ++ [y] := by
  have : (m ++ [x]).length - 1 = m.length := by simp
  rw [this, List.set_append_right _ _ (Nat.le_refl _), Nat.sub_self]; rfl
theorem get_last {α : Type} (m : List α) (x : α) : (m ++ [x])[(m ++ [x]).length - 1]? = some x := by
  have : (m ++ [x]).length - 1 = m.length := by simp
  rw [this, List.getElem?_append_right (Nat.le_refl _), Nat.sub_self]; rfl
theorem runStep_adj {parts : List (List ByteArray)} {ps : List Piece} {s : ByteArray} (h : adjB ps = false) : adjB (runStep parts ps s) = false := by
  unfold runStep
  split
  · rename_i hn
    cases ps with
    | nil => cases h
    | cons p ps => simp at hn
  · rename_i q hq
    obtain ⟨m, rfl⟩ := split_last hq
    split
    · rw [set_last, ← adjB_set m q ⟨q.part, q.word ++ [s]⟩ rfl]; exact h
    · cases h1 : adjB (m ++ [q] ++ [⟨partOf parts s, [s]⟩])
      · rfl
      · rw [adjB_append (q := q) _ h1] at h; cases h
theorem runs_adj {parts : List (List ByteArray)} : ∀ (ws : List ByteArray) (ps : List Piece), adjB ps = false → adjB (runs parts ps ws) = false
  | [], ps, h => h
  | s :: ws, ps, h => runs_adj ws _ (runStep_adj h)
theorem pieces_runs {parts : List (List ByteArray)} : ∀ (ws : List ByteArray) (ps : List Piece), adjB ps = true → piecesGo parts ps ws = if adjB (runs parts ps ws) then some (runs parts ps ws) else none
  | [], ps, h => by simp [piecesGo, runs, h]
  | s :: ws, ps, h => by
    rw [piecesGo]
    show _ = if adjB (runs parts (runStep parts ps s) ws) then some (runs parts (runStep parts ps s) ws) else none
    unfold pieceStep
    have hrs : runStep parts ps s = runStep parts ps s := rfl
    cases hq : ps[ps.length - 1]? with
    | none =>
      have : runStep parts ps s = [⟨partOf parts s, [s]⟩] := by unfold runStep; rw [hq]
      rw [this]
      exact pieces_runs ws _ rfl
    | some q =>
      obtain ⟨m, rfl⟩ := split_last hq
      simp only []
      by_cases h1 : q.part = partOf parts s
      · have : runStep parts (m ++ [q]) s = (m ++ [q]).set ((m ++ [q]).length - 1) ⟨q.part, q.word ++ [s]⟩ := by unfold runStep; rw [hq]; simp [h1]
        rw [if_pos h1, this]
        refine pieces_runs ws _ ?_
        rw [set_last, ← adjB_set m q ⟨q.part, q.word ++ [s]⟩ rfl]; exact h
      · have : runStep parts (m ++ [q]) s = m ++ [q] ++ [⟨partOf parts s, [s]⟩] := by unfold runStep; rw [hq]; simp [h1]
        rw [if_neg h1, this]
        have ha : adjB (m ++ [q] ++ [⟨partOf parts s, [s]⟩]) = (adjB (m ++ [q]) && (q.part == 0 || partOf parts s == 0)) := by
          rw [List.append_assoc]; exact adjB_snoc m q _
        by_cases h2 : partOf parts s ≠ 0 ∧ q.part ≠ 0
        · rw [if_pos h2]
          have hb : adjB (m ++ [q] ++ [⟨partOf parts s, [s]⟩]) = false := by rw [ha]; simp [h2.1, h2.2]
          rw [runs_adj ws _ hb]; rfl
        · rw [if_neg h2]
          refine pieces_runs ws _ ?_
          rw [ha, h]
          simp
          by_cases h3 : q.part = 0
          · exact .inl h3
          · right
            by_cases h4 : partOf parts s = 0
            · exact h4
            · exact absurd ⟨h4, h3⟩ h2
def badPiece (ps : List Piece) (i : Nat) : Bool := match ps[i]? with
  | none => false
  | some p => p.part != 0 && (i == 0 || i == ps.length - 1 || match ps[i + 1]? with | some q => q.part != 0 | none => false)
def goodLoop (ps : List Piece) : Bool := (List.range ps.length).all fun i => !badPiece ps i
theorem adj_get : ∀ (ps : List Piece), adjB ps = true ↔ ∀ i p q, ps[i]? = some p → ps[i + 1]? = some q → p.part = 0 ∨ q.part = 0
  | [] => by simp [adjB]
  | [p] => by simp [adjB]
  | p :: q :: l => by
    rw [adjB, Bool.and_eq_true, adj_get (q :: l)]
    constructor
    · rintro ⟨h1, h2⟩ i a b ha hb
      cases i with
      | zero => simp at ha hb; subst ha hb; simpa using h1
      | succ i => exact h2 i a b (by simpa using ha) (by simpa using hb)
    · intro h
      refine ⟨by simpa using h 0 p q rfl rfl, fun i a b ha hb => h (i + 1) a b (by simpa using ha) (by simpa using hb)⟩
theorem good_iff {ps : List Piece} (h0 : ps ≠ []) : goodLoop ps = (adjB ps && endsB ps) := by
  have hlen : 0 < ps.length := by cases ps with | nil => exact absurd rfl h0 | cons => simp
  obtain ⟨a, ha⟩ := get_some hlen
  obtain ⟨b, hb⟩ := get_some (show ps.length - 1 < ps.length by omega)
  have hends : endsB ps = (a.part == 0 && b.part == 0) := by unfold endsB; rw [ha, hb]
  rw [Bool.eq_iff_iff, Bool.and_eq_true, adj_get, hends]
  unfold goodLoop
  rw [List.all_eq_true]
  constructor
  · intro h
    have key : ∀ i p, ps[i]? = some p → p.part ≠ 0 → i ≠ 0 ∧ i ≠ ps.length - 1 ∧ ∀ q, ps[i + 1]? = some q → q.part = 0 := fun i p hp hne => by
      have h1 := h i (List.mem_range.2 (lt_of_get hp))
      unfold badPiece at h1
      rw [hp] at h1
      simp [hne] at h1
      refine ⟨h1.1.1, h1.1.2, fun q hq => ?_⟩
      have := h1.2
      rw [hq] at this
      simpa using this
    refine ⟨fun i p q hp hq => ?_, ?_⟩
    · by_cases hz : p.part = 0
      · exact .inl hz
      · exact .inr ((key i p hp hz).2.2 q hq)
    · simp
      constructor
      · by_cases hz : a.part = 0
        · exact hz
        · exact absurd rfl (key 0 a ha hz).1
      · by_cases hz : b.part = 0
        · exact hz
        · exact absurd rfl (key _ b hb hz).2.1
  · rintro ⟨h1, h2⟩ i hi
    simp at h2
    unfold badPiece
    cases hp : ps[i]? with
    | none => rfl
    | some p =>
      by_cases hz : p.part = 0
      · simp [hz]
      · have e1 : i ≠ 0 := fun e => by subst e; rw [ha] at hp; cases hp; exact hz h2.1
        have e2 : i ≠ ps.length - 1 := fun e => by subst e; rw [hb] at hp; cases hp; exact hz h2.2
        simp [hz, e1, e2]
        cases hq : ps[i + 1]? with
        | none => rfl
        | some q => simpa using (h1 i p q hp hq).resolve_left hz
theorem runs_ne {parts : List (List ByteArray)} : ∀ (ws : List ByteArray) (ps : List Piece), ps ≠ [] → runs parts ps ws ≠ []
  | [], ps, h => h
  | s :: ws, ps, h => runs_ne ws _ (by
    unfold runStep
    split
    · simp
    · split
      · intro e; exact h (by simpa using e)
      · simp)
theorem runStep_ne {parts : List (List ByteArray)} {ps : List Piece} {s : ByteArray} : runStep parts ps s ≠ [] := by
  unfold runStep
  split
  · simp
  · rename_i q hq
    split
    · intro e
      have : ps = [] := by simpa using e
      subst this; simp at hq
    · simp
theorem piecesOf_runs {parts : List (List ByteArray)} {ws : List ByteArray} (h : ws ≠ []) : piecesOf parts ws = if goodLoop (runs parts [] ws) then some (runs parts [] ws) else none := by
  have hne : runs parts [] ws ≠ [] := by
    cases ws with
    | nil => exact absurd rfl h
    | cons s ws => exact runs_ne ws _ runStep_ne
  unfold piecesOf
  rw [if_neg h, pieces_runs ws [] rfl, good_iff hne]
  cases h1 : adjB (runs parts [] ws)
  · simp
  · simp
theorem runs_snoc {parts : List (List ByteArray)} {ws : List ByteArray} {k : Nat} {s : ByteArray} (h : ws[k]? = some s) : runs parts [] (ws.take (k + 1)) = runStep parts (runs parts [] (ws.take k)) s := by
  unfold runs
  rw [take_snoc h, List.foldl_append]; rfl
theorem runStep_last {parts : List (List ByteArray)} {ps : List Piece} {s : ByteArray} : ∃ m w, runStep parts ps s = m ++ [⟨partOf parts s, w⟩] := by
  unfold runStep
  split
  · exact ⟨[], _, rfl⟩
  · rename_i q hq
    obtain ⟨m, rfl⟩ := split_last hq
    split
    · rename_i h; rw [set_last, h]; exact ⟨m, _, rfl⟩
    · exact ⟨_, _, rfl⟩

def cPiece (q : Piece) : List PV := [pInt q.part, pStrs q.word]
def pPieces (ps : List Piece) : PV := .sl ps.length (ps.flatMap cPiece)
def oPiece (e : Nat) (q : Piece) : List PV := [pInt q.part, .own e 1 q.word.length (q.word.map pStr)]
theorem cPiece_len (q : Piece) : (cPiece q).length = 2 := rfl
theorem oPiece_len (e : Nat) (q : Piece) : (oPiece e q).length = 2 := rfl
theorem shares_str (l : List ByteArray) : shares (l.map pStr) = l.map pStr := by
  rw [shares_eq, List.map_map]; rfl
theorem shares_append (l m : List PV) : shares (l ++ m) = shares l ++ shares m := by rw [shares_eq, shares_eq, shares_eq, List.map_append]
theorem shares_pieces (e : Nat) (ps : List Piece) : shares (ps.flatMap (oPiece e)) = ps.flatMap cPiece := by
  induction ps with
  | nil => simp [shares]
  | cons q ps ih =>
    rw [List.flatMap_cons, List.flatMap_cons, shares_append, ih]
    congr 1
    simp [oPiece, cPiece, shares, share, shares_str, pStrs]
theorem flat_set {α β : Type} {f : α → List β} {k : Nat} (hf : ∀ x, (f x).length = k) : ∀ (l : List α) (i j : Nat) (x y : α) (b : β), l[i]? = some x → j < k → (f x).set j b = f y → (l.flatMap f).set (i * k + j) b = (l.set i y).flatMap f
  | [], i, j, x, y, b, h, _, _ => by simp at h
  | z :: l, 0, j, x, y, b, h, hj, he => by
    simp at h; subst h
    rw [Nat.zero_mul, Nat.zero_add, List.flatMap_cons, List.set_append_left _ _ (by rw [hf]; exact hj), he]; rfl
  | z :: l, i + 1, j, x, y, b, h, hj, he => by
    rw [List.flatMap_cons, List.set_append_right _ _ (by rw [hf, Nat.add_mul]; omega), hf, show (i + 1) * k + j - k = i * k + j by rw [Nat.add_mul]; omega, flat_set hf l i j x y b (by simpa using h) hj he]
    rfl
end Go.Cb

namespace Go.Cb
open Go.En
set_option linter.all false

theorem jn_cc (x y : List UInt8) (l : List (List UInt8)) : [32].intercalate (x :: y :: l) = x ++ 32 :: [32].intercalate (y :: l) := by
  simp [List.intercalate, List.intersperse]
theorem jn_one (x : List UInt8) : ([32] : List UInt8).intercalate [x] = x := by simp [List.intercalate]
theorem span_eq : ∀ (x y a b : List UInt8), 32 ∉ x → 32 ∉ y → x ++ 32 :: a = y ++ 32 :: b → x = y ∧ a = b
  | [], [], a, b, _, _, h => by simp at h; exact ⟨rfl, h⟩
  | [], c :: y, a, b, _, h2, h => by simp at h; exact absurd (by simp [h.1]) h2
  | c :: x, [], a, b, h1, _, h => by simp at h; exact absurd (by simp [h.1]) h1
  | c :: x, d :: y, a, b, h1, h2, h => by
    simp at h h1 h2
    obtain ⟨e1, e2⟩ := span_eq x y a b h1.2 h2.2 h.2
    exact ⟨by rw [h.1, e1], e2⟩
theorem jn_inj : ∀ (l m : List (List UInt8)), (∀ x ∈ l, x ≠ [] ∧ 32 ∉ x) → (∀ x ∈ m, x ≠ [] ∧ 32 ∉ x) → ([32] : List UInt8).intercalate l = [32].intercalate m → l = m
  | [], [], _, _, _ => rfl
  | [], [y], _, h2, h => by rw [jn_one] at h; exact absurd h.symm (h2 y (by simp)).1
  | [], y :: z :: m, _, h2, h => by rw [jn_cc] at h; simp [List.intercalate] at h
  | [x], [], h1, _, h => by rw [jn_one] at h; exact absurd h (h1 x (by simp)).1
  | x :: z :: l, [], _, _, h => by rw [jn_cc] at h; simp [List.intercalate] at h
  | [x], [y], _, _, h => by rw [jn_one, jn_one] at h; rw [h]
  | [x], y :: z :: m, h1, h2, h => by
    rw [jn_one, jn_cc] at h
    exact absurd (by rw [h]; simp) (h1 x (by simp)).2
  | x :: z :: l, [y], h1, h2, h => by
    rw [jn_one, jn_cc] at h
    exact absurd (by rw [← h]; simp) (h2 y (by simp)).2
  | x :: x' :: l, y :: y' :: m, h1, h2, h => by
    rw [jn_cc, jn_cc] at h
    obtain ⟨e1, e2⟩ := span_eq _ _ _ _ (h1 x (by simp)).2 (h2 y (by simp)).2 h
    rw [e1, jn_inj (x' :: l) (y' :: m) (fun z hz => h1 z (by simp at hz ⊢; exact .inr hz)) (fun z hz => h2 z (by simp at hz ⊢; exact .inr hz)) e2]
theorem name_bytes {s : ByteArray} (h : isName s = true) : s.data.toList ≠ [] ∧ (32 : UInt8) ∉ s.data.toList ∧ s.size ≤ 40 := by
  unfold isName at h
  simp only [Bool.and_eq_true, decide_eq_true_eq, List.all_eq_true] at h
  obtain ⟨⟨⟨h1, h2⟩, h3⟩, h4⟩ := h
  refine ⟨fun e => ?_, fun e => ?_, h2⟩
  · have : s.size = 0 := by
      show s.data.size = 0
      rw [← Array.length_toList, e]; rfl
    omega
  · have := h4 32 e
    revert this; decide
def WOk (w : List ByteArray) : Prop := w.length ≤ 200 ∧ ∀ s ∈ w, isName s = true
theorem join_inj {l m : List ByteArray} (h1 : WOk l) (h2 : WOk m) (h : Lib.join (l.map (·.data.toList)) [32] = Lib.join (m.map (·.data.toList)) [32]) : l = m := by
  have key : ∀ {l : List ByteArray}, WOk l → ∀ x ∈ l.map (·.data.toList), x ≠ [] ∧ (32 : UInt8) ∉ x := fun h x hx => by
    obtain ⟨s, hs, rfl⟩ := List.mem_map.1 hx
    have := name_bytes (h.2 s hs)
    exact ⟨this.1, this.2.1⟩
  have := jn_inj _ _ (key h1) (key h2) h
  have inj : ∀ {l m : List ByteArray}, l.map (·.data.toList) = m.map (·.data.toList) → l = m := by
    intro l
    induction l with
    | nil => intro m h; cases m with | nil => rfl | cons => simp at h
    | cons a l ih =>
      intro m h
      cases m with
      | nil => simp at h
      | cons b m =>
        simp only [List.map_cons, List.cons.injEq] at h
        rw [ih h.2, WideShapes.bytes_inj h.1]
  exact inj this
theorem jn_len : ∀ (l : List (List UInt8)) (b : Nat), (∀ x ∈ l, x.length ≤ b) → (([32] : List UInt8).intercalate l).length ≤ l.length * (b + 1)
  | [], b, _ => by simp [List.intercalate]
  | [x], b, h => by rw [jn_one]; have := h x (by simp); simp; omega
  | x :: y :: l, b, h => by
    rw [jn_cc]
    have h1 := jn_len (y :: l) b (fun z hz => h z (by simp at hz ⊢; exact .inr hz))
    have h2 := h x (by simp)
    simp only [List.length_append, List.length_cons] at h1 ⊢
    have : (l.length + 1 + 1) * (b + 1) = (l.length + 1) * (b + 1) + (b + 1) := by rw [Nat.add_mul (l.length + 1) 1]; omega
    omega
theorem join_len {l : List ByteArray} (h : WOk l) : (Lib.join (l.map (·.data.toList)) [32]).length ≤ 140737488355328 := by
  have := jn_len (l.map (·.data.toList)) 40 (fun x hx => by
    obtain ⟨s, hs, rfl⟩ := List.mem_map.1 hx
    rw [Array.length_toList]
    exact (name_bytes (h.2 s hs)).2.2)
  rw [List.length_map] at this
  have h2 := h.1
  unfold Lib.join
  omega

def WIn (Q : ByteArray → Prop) (n : Nat) (ps : List Piece) : Prop := ∀ p ∈ ps, p.word.length ≤ n ∧ ∀ s ∈ p.word, Q s
theorem WIn.mono {Q : ByteArray → Prop} {n m : Nat} {ps : List Piece} (h : WIn Q n ps) (hn : n ≤ m) : WIn Q m ps := fun p hp => ⟨Nat.le_trans (h p hp).1 hn, (h p hp).2⟩
theorem WIn.set {Q : ByteArray → Prop} {n i : Nat} {ps : List Piece} {q : Piece} {s : ByteArray} (h : WIn Q n ps) (hq : ps[i]? = some q) (hs : Q s) : WIn Q (n + 1) (ps.set i ⟨q.part, q.word ++ [s]⟩) := fun p hp => by
  rcases List.mem_or_eq_of_mem_set hp with h1 | h1
  · exact h.mono (Nat.le_succ _) p h1
  · have := h q (List.mem_of_getElem? hq)
    rw [h1]
    refine ⟨by simp; exact this.1, fun t ht => ?_⟩
    rcases List.mem_append.1 ht with h2 | h2
    · exact this.2 t h2
    · simp at h2; rw [h2]; exact hs
theorem WIn.add {Q : ByteArray → Prop} {n i : Nat} {ps : List Piece} {s : ByteArray} (h : WIn Q n ps) (hs : Q s) : WIn Q (n + 1) (addAt ps i s) := by
  unfold addAt
  split
  · rename_i q hq; exact h.set hq hs
  · exact h.mono (Nat.le_succ _)
theorem WIn.step {Q : ByteArray → Prop} {n : Nat} {parts : List (List ByteArray)} {ps ps' : List Piece} {s : ByteArray} (h : WIn Q n ps) (hs : Q s) (he : pieceStep parts ps s = some ps') : WIn Q (n + 1) ps' := by
  have one : ∀ p : Piece, p ∈ [(⟨partOf parts s, [s]⟩ : Piece)] → p.word.length ≤ n + 1 ∧ ∀ t ∈ p.word, Q t := fun p hp => by
    simp at hp; subst hp
    exact ⟨by simp, fun t ht => by simp at ht; rw [ht]; exact hs⟩
  unfold pieceStep at he
  split at he
  · cases he; exact one
  · rename_i q hq
    split at he
    · cases he; exact h.set hq hs
    · split at he
      · cases he
      · cases he
        intro p hp
        rcases List.mem_append.1 hp with h1 | h1
        · exact h.mono (Nat.le_succ _) p h1
        · exact one p h1
theorem piecesGo_in {Q : ByteArray → Prop} {parts : List (List ByteArray)} : ∀ {ws : List ByteArray} {n : Nat} {ps ps' : List Piece}, WIn Q n ps → (∀ s ∈ ws, Q s) → piecesGo parts ps ws = some ps' → WIn Q (n + ws.length) ps'
  | [], n, ps, ps', h, _, he => by simp [piecesGo] at he; subst he; exact h
  | s :: l, n, ps, ps', h, hs, he => by
    rw [piecesGo] at he
    cases hst : pieceStep parts ps s with
    | none => rw [hst] at he; cases he
    | some ps1 =>
      rw [hst] at he
      have := piecesGo_in (h.step (hs s (by simp)) hst) (fun x hx => hs x (by simp [hx])) he
      exact this.mono (by simp; omega)
theorem splitGo_in {Q : ByteArray → Prop} {kind : Int} {parts : List (List ByteArray)} : ∀ {ws : List ByteArray} {n : Nat} {first : Bool} {last : Int} {ps : List Piece} {r : List Piece × Int}, WIn Q n ps → (∀ s ∈ ws, Q s) → splitGo kind parts first last ps ws = some r → WIn Q (n + ws.length) r.1
  | [], n, _, _, ps, r, h, _, he => by simp [splitGo] at he; subst he; exact h
  | s :: l, n, first, last, ps, r, h, hs, he => by
    rw [splitGo] at he
    split at he
    · cases he
    · have := splitGo_in (h.add (hs s (by simp))) (fun x hx => hs x (by simp [hx])) he
      exact this.mono (by simp; omega)
theorem splitOf_in {Q : ByteArray → Prop} {c : Cut} {ws : List ByteArray} {ps : List Piece} (hs : ∀ s ∈ ws, Q s) (he : splitOf c ws = some ps) : WIn Q ws.length ps := by
  unfold splitOf at he
  split at he
  · unfold piecesOf at he
    split at he
    · cases he; intro p hp; simp at hp; subst hp; exact ⟨by simp, fun s h => by simp at h⟩
    · cases hg : piecesGo c.parts [] ws with
      | none => rw [hg] at he; cases he
      | some ps1 =>
        rw [hg] at he
        simp only [] at he
        split at he
        · cases he
          exact (piecesGo_in (n := 0) (fun p hp => by simp at hp) hs hg).mono (by omega)
        · cases he
  · cases hg : splitGo c.kind c.parts true 0 (initPs c.parts.length) ws with
    | none => rw [hg] at he; cases he
    | some r =>
      rw [hg] at he
      have hin := (splitGo_in (Q := Q) (n := 0) (fun p hp => by
        simp [initPs] at hp
        obtain ⟨i, _, rfl⟩ := hp
        exact ⟨by simp, fun s h => by simp at h⟩) hs hg).mono (m := ws.length) (by omega)
      obtain ⟨r1, r2⟩ := r
      simp only [] at he
      split at he
      · split at he
        · cases he
        · cases he
          exact fun p hp => hin p (List.mem_of_mem_drop (List.mem_of_mem_take hp))
      · cases he; exact hin
theorem splitOf_wok {c : Cut} {x : Var} {ps : List Piece} (hx : okVar x = true) (he : splitOf c x.acts = some ps) : ∀ p ∈ ps, WOk p.word := fun p hp => by
  simp only [okVar, Bool.and_eq_true, decide_eq_true_eq, List.all_eq_true] at hx
  have := splitOf_in (Q := fun s => isName s = true) hx.1.1.2 he p hp
  exact ⟨Nat.le_trans this.1 hx.1.1.1, this.2⟩

def putB (n : Int) (R : List (List Var)) (p : Piece) : List (List Var) := match R[p.part.toNat]? with
  | some r => R.set p.part.toNat (bump r p.word n)
  | none => R
theorem putB_some {n : Int} {R : List (List Var)} {p : Piece} {r : List Var} (h : R[p.part.toNat]? = some r) : putB n R p = R.set p.part.toNat (bump r p.word n) := by
  unfold putB; rw [h]
theorem putB_len (n : Int) (R : List (List Var)) (p : Piece) : (putB n R p).length = R.length := by
  unfold putB; split <;> simp
def RelR (R S : List (List Var)) : Prop := R.length = S.length ∧ ∀ (i : Nat) (r s : List Var), R[i]? = some r → S[i]? = some s → Asc s ∧ r.Perm s
theorem RelR.put {n : Int} {R S : List (List Var)} {p : Piece} (h : RelR R S) : RelR (putB n R p) (putPiece n S p) := by
  refine ⟨by rw [putB_len, putPiece_len]; exact h.1, fun i r s hr hs => ?_⟩
  unfold putB at hr
  unfold putPiece at hs
  cases hR : R[p.part.toNat]? with
  | none =>
    have hS : S[p.part.toNat]? = none := by
      rw [List.getElem?_eq_none_iff] at hR ⊢; have := h.1; omega
    rw [hR] at hr; rw [hS] at hs
    exact h.2 i r s hr hs
  | some r0 =>
    obtain ⟨s0, hS⟩ : ∃ s0, S[p.part.toNat]? = some s0 := get_some (by have := lt_of_get hR; have := h.1; omega)
    rw [hR] at hr; rw [hS] at hs
    simp only [] at hr hs
    obtain ⟨a1, a2⟩ := h.2 _ _ _ hR hS
    by_cases e : p.part.toNat = i
    · subst e
      rw [List.getElem?_set_self (lt_of_get hR)] at hr
      rw [List.getElem?_set_self (lt_of_get hS)] at hs
      cases hr; cases hs
      exact ⟨addVar_asc a1, bump_step a1 a2⟩
    · rw [List.getElem?_set_ne e] at hr
      rw [List.getElem?_set_ne e] at hs
      exact h.2 i r s hr hs
theorem RelR.foldl {n : Int} : ∀ {ps : List Piece} {R S : List (List Var)}, RelR R S → RelR (ps.foldl (putB n) R) (ps.foldl (putPiece n) S)
  | [], _, _, h => h
  | p :: ps, _, _, h => RelR.foldl (ps := ps) h.put
theorem relR_rep (n : Nat) : RelR (List.replicate n []) (List.replicate n []) := ⟨rfl, fun i r s hr hs => by
  have h1 := List.eq_of_mem_replicate (List.mem_of_getElem? hr)
  have h2 := List.eq_of_mem_replicate (List.mem_of_getElem? hs)
  subst h1 h2
  exact ⟨List.Pairwise.nil, .refl _⟩⟩
theorem RelR.ok {m : Nat} {R S : List (List Var)} (h : RelR R S) (hS : RowsOk m S) : RowsOk m R := fun r hr => by
  obtain ⟨i, hi⟩ := List.getElem?_of_mem hr
  obtain ⟨s, hs⟩ : ∃ s, S[i]? = some s := get_some (by have := lt_of_get hi; have := h.1; omega)
  obtain ⟨_, p⟩ := h.2 i r s hi hs
  have := hS s (List.mem_of_getElem? hs)
  exact ⟨by rw [p.length_eq]; exact this.1, fun x hx => this.2 x (p.mem_iff.1 hx)⟩
theorem RelR.any {R S : List (List Var)} (h : RelR R S) (f : List Var → Bool) (hf : ∀ r s, r.Perm s → f r = f s) : R.any f = S.any f := by
  rw [Bool.eq_iff_iff, List.any_eq_true, List.any_eq_true]
  constructor
  · rintro ⟨r, hr, hfr⟩
    obtain ⟨i, hi⟩ := List.getElem?_of_mem hr
    obtain ⟨s, hs⟩ : ∃ s, S[i]? = some s := get_some (by have := lt_of_get hi; have := h.1; omega)
    exact ⟨s, List.mem_of_getElem? hs, by rw [← hf r s (h.2 i r s hi hs).2]; exact hfr⟩
  · rintro ⟨s, hs, hfs⟩
    obtain ⟨i, hi⟩ := List.getElem?_of_mem hs
    obtain ⟨r, hr⟩ : ∃ r, R[i]? = some r := get_some (by have := lt_of_get hi; have := h.1; omega)
    exact ⟨r, List.mem_of_getElem? hr, by rw [hf r s (h.2 i r s hr hi).2]; exact hfs⟩
theorem big_perm {r s : List Var} (h : r.Perm s) : bigVars r = bigVars s := by
  unfold bigVars
  rw [Bool.eq_iff_iff, List.any_eq_true, List.any_eq_true]
  exact ⟨fun ⟨x, hx, e⟩ => ⟨x, h.mem_iff.1 hx, e⟩, fun ⟨x, hx, e⟩ => ⟨x, h.mem_iff.2 hx, e⟩⟩
theorem many_perm {r s : List Var} (h : r.Perm s) : manyVars r = manyVars s := by unfold manyVars; rw [h.length_eq]
theorem RelR.sorted {R S T : List (List Var)} (h : RelR R S) (hl : T.length = R.length) (hT : ∀ (i : Nat) (r t : List Var), R[i]? = some r → T[i]? = some t → Asc t ∧ t.Perm r) : T = S := by
  apply List.ext_getElem?
  intro i
  cases hi : T[i]? with
  | none =>
    rw [List.getElem?_eq_none_iff] at hi
    rw [eq_comm, List.getElem?_eq_none_iff]; have := h.1; omega
  | some t =>
    obtain ⟨r, hr⟩ : ∃ r, R[i]? = some r := get_some (by have := lt_of_get hi; omega)
    obtain ⟨s, hs⟩ : ∃ s, S[i]? = some s := get_some (by have := lt_of_get hr; have := h.1; omega)
    obtain ⟨a, p⟩ := h.2 i r s hr hs
    obtain ⟨a', p'⟩ := hT i r t hr hi
    rw [hs, sorted_bump a p a' p']

def WR (R : List (List Var)) : Prop := ∀ r ∈ R, ∀ x ∈ r, WOk x.acts
theorem bump_mem {w : List ByteArray} {n : Int} : ∀ {r : List Var} {y : Var}, y ∈ bump r w n → y.acts = w ∨ ∃ z ∈ r, z.acts = y.acts
  | [], y, hy => by simp [bump] at hy; exact .inl (by rw [hy])
  | z :: r, y, hy => by
    rw [bump] at hy
    split at hy
    · rcases List.mem_cons.1 hy with rfl | hy
      · exact .inr ⟨z, by simp, rfl⟩
      · exact .inr ⟨y, by simp [hy], rfl⟩
    · rcases List.mem_cons.1 hy with rfl | hy
      · exact .inr ⟨y, by simp, rfl⟩
      · rcases bump_mem hy with h1 | ⟨z', hz', e⟩
        · exact .inl h1
        · exact .inr ⟨z', by simp [hz'], e⟩
theorem WR.put {n : Int} {R : List (List Var)} {p : Piece} (h : WR R) (hp : WOk p.word) : WR (putB n R p) := by
  unfold putB
  split
  · rename_i r hr
    intro r' hr' x hx
    rcases List.mem_or_eq_of_mem_set hr' with h1 | h1
    · exact h r' h1 x hx
    · rw [h1] at hx
      rcases bump_mem hx with e | ⟨z, hz, e⟩
      · rw [e]; exact hp
      · rw [← e]; exact h r (List.mem_of_getElem? hr) z hz
  · exact h
theorem wr_rep (n : Nat) : WR (List.replicate n []) := fun r hr x hx => by
  have := List.eq_of_mem_replicate hr
  subst this; simp at hx
def atGo (f : List ByteArray → ByteArray) : Nat → List Var → List (ByteArray × Value)
  | _, [] => []
  | i, x :: r => (f x.acts, Value.int .i64 (i : Int)) :: atGo f (i + 1) r
theorem atGo_some {f : List ByteArray → ByteArray} {w : List ByteArray} {v : Value} (hw : WOk w) (hf : ∀ a b, WOk a → WOk b → f a = f b → a = b) : ∀ {r : List Var} {i : Nat}, (∀ x ∈ r, WOk x.acts) → aget (atGo f i r) (f w) = some v → ∃ (j : Nat) (y : Var), v = .int .i64 ((i + j : Nat) : Int) ∧ r[j]? = some y ∧ y.acts = w ∧ ∀ n, r.set j ⟨w, y.count + n⟩ = bump r w n ∧ atGo f i (bump r w n) = atGo f i r
  | [], i, _, h => by simp [atGo, aget] at h
  | x :: r, i, hr, h => by
    rw [atGo, aget] at h
    split at h
    · rename_i e
      have e' := hf _ _ hw (hr x (by simp)) e
      cases h
      refine ⟨0, x, rfl, rfl, e'.symm, fun n => ?_⟩
      rw [bump, if_pos e'.symm]
      exact ⟨by rw [e']; rfl, rfl⟩
    · rename_i hne
      have hx : x.acts ≠ w := fun e => hne (by rw [e])
      obtain ⟨j, y, hv, hy, hyw, hset⟩ := atGo_some hw hf (fun z hz => hr z (by simp [hz])) h
      refine ⟨j + 1, y, by rw [hv, show i + 1 + j = i + (j + 1) by omega], hy, hyw, fun n => ?_⟩
      rw [bump, if_neg hx]
      exact ⟨by rw [List.set_cons_succ, (hset n).1], by rw [atGo, (hset n).2]; rfl⟩
theorem atGo_none {f : List ByteArray → ByteArray} {w : List ByteArray} : ∀ {r : List Var} {i : Nat}, aget (atGo f i r) (f w) = none → (∀ x ∈ r, x.acts ≠ w) ∧ ∀ n, atGo f i (bump r w n) = aput (atGo f i r) (f w) (.int .i64 ((i + r.length : Nat) : Int))
  | [], i, _ => ⟨fun x h => by simp at h, fun n => rfl⟩
  | x :: r, i, h => by
    rw [atGo, aget] at h
    split at h
    · cases h
    · rename_i hne
      have hx : x.acts ≠ w := fun e => hne (by rw [e])
      obtain ⟨h1, h2⟩ := atGo_none h
      refine ⟨fun y hy => ?_, fun n => ?_⟩
      · rcases List.mem_cons.1 hy with rfl | hy
        · exact hx
        · exact h1 y hy
      · rw [bump, if_neg hx, atGo, h2 n, atGo, aput, if_neg hne, List.length_cons, show i + 1 + r.length = i + (r.length + 1) by omega]
theorem bump_new {r : List Var} {w : List ByteArray} {n : Int} (h : ∀ x ∈ r, x.acts ≠ w) : (r ++ [(⟨w, 0⟩ : Var)]).set r.length (⟨w, 0 + n⟩ : Var) = bump r w n := by
  rw [bump_none h, List.set_append_right _ _ (Nat.le_refl _), Nat.sub_self, Int.zero_add]; rfl
end Go.Cb
