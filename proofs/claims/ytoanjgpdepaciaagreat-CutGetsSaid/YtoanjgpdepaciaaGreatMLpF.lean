/-
  Plain laws: labels that are pushed along links until nothing changes. No program in sight.
-/
import Derived.Test.YtoanjgpdepaciaaGreatMLpE
namespace Go.Cb
open Go.En
set_option linter.all false

def sumTo : Nat → (Nat → Nat) → Nat
  | 0, _ => 0
  | n + 1, f => sumTo n f + f n
def upd {α : Type} (f : Nat → α) (a : Nat) (b : α) : Nat → α := fun i => if i = a then b else f i
theorem sum_upd_ge {n a b : Nat} {f : Nat → Nat} (h : n ≤ a) : sumTo n (upd f a b) = sumTo n f := by
  induction n with
  | zero => rfl
  | succ n ih =>
    show sumTo n (upd f a b) + upd f a b n = sumTo n f + f n
    rw [ih (by omega)]; unfold upd; rw [if_neg (by omega)]
theorem sum_upd_lt : ∀ {n a b : Nat} {f : Nat → Nat}, a < n → b < f a → sumTo n (upd f a b) < sumTo n f
  | n + 1, a, b, f, h, hb => by
    show sumTo n (upd f a b) + upd f a b n < sumTo n f + f n
    by_cases e : a = n
    · subst e
      rw [sum_upd_ge (Nat.le_refl _)]; unfold upd; rw [if_pos rfl]; omega
    · have := sum_upd_lt (b := b) (f := f) (show a < n by omega) hb
      have e2 : upd f a b n = f n := by unfold upd; rw [if_neg (by omega)]
      omega
def marked (n : Nat) (I : Nat → Bool) : List Int := ((List.range n).map fun i : Nat => (i : Int)).filter fun x => I x.toNat
theorem marked_mem {n : Nat} {I : Nat → Bool} {x : Int} : x ∈ marked n I ↔ ∃ i : Nat, i < n ∧ I i = true ∧ x = i := by
  unfold marked
  rw [List.mem_filter, List.mem_map]
  constructor
  · rintro ⟨⟨i, hi, rfl⟩, h2⟩
    exact ⟨i, List.mem_range.1 hi, by simpa using h2, rfl⟩
  · rintro ⟨i, h1, h2, rfl⟩
    exact ⟨⟨i, List.mem_range.2 h1, rfl⟩, by simpa using h2⟩
structure LabOk (n : Nat) (I : Nat → Bool) (r : Int → Int → Bool) (lab : Nat → Nat) : Prop where
  le : ∀ i, i < n → lab i ≤ i
  inn : ∀ i, i < n → I i = true → I (lab i) = true
  conn : ∀ i, i < n → I i = true → Conn (marked n I) r (lab i) i
theorem LabOk.start (n : Nat) (I : Nat → Bool) (r : Int → Int → Bool) : LabOk n I r fun i => i := ⟨fun i _ => Nat.le_refl i, fun i _ h => h, fun i _ _ => Conn.refl _ _ _⟩
theorem LabOk.push {n : Nat} {I : Nat → Bool} {r : Int → Int → Bool} {lab : Nat → Nat} (h : LabOk n I r lab) {a b : Nat} (ha : a < n) (hb : b < n) (ia : I a = true) (ib : I b = true) (hlt : lab a < lab b) (hr : r a b = true ∨ r b a = true) : LabOk n I r (upd lab b (lab a)) := by
  refine ⟨fun i hi => ?_, fun i hi hI => ?_, fun i hi hI => ?_⟩ <;> unfold upd <;> split
  · rename_i e; subst e; have := h.le i hi; omega
  · exact h.le i hi
  · exact h.inn a ha ia
  · exact h.inn i hi hI
  · rename_i e; subst e
    exact (h.conn a ha ia).trans (Conn.step (marked_mem.2 ⟨a, ha, ia, rfl⟩) (marked_mem.2 ⟨i, hb, ib, rfl⟩) hr)
  · exact h.conn i hi hI
def good (n : Nat) (I : Nat → Bool) (t : Nat → Nat → Bool) (lab : Nat → Nat) (a b : Nat) : Prop := a ≠ b → I a = true → I b = true → t a b = true → lab a = lab b
structure LabPass (n : Nat) (I : Nat → Bool) (r : Int → Int → Bool) (t : Nat → Nat → Bool) (lab0 lab : Nat → Nat) (ag : Bool) (a b : Nat) : Prop where
  ok : LabOk n I r lab
  les : ag = true → sumTo n lab < sumTo n lab0
  eq : ag = false → lab = lab0 ∧ ∀ x y, (x < a ∧ y < n ∨ x = a ∧ y < b) → good n I t lab x y
theorem LabPass.start {n : Nat} {I : Nat → Bool} {r : Int → Int → Bool} {t : Nat → Nat → Bool} {lab : Nat → Nat} (h : LabOk n I r lab) : LabPass n I r t lab lab false 0 0 := ⟨h, (fun e => by cases e), fun _ => ⟨rfl, fun x y h => by omega⟩⟩
theorem LabPass.push {n : Nat} {I : Nat → Bool} {r : Int → Int → Bool} {t : Nat → Nat → Bool} {lab0 lab : Nat → Nat} {ag : Bool} {p q x y : Nat} (h : LabPass n I r t lab0 lab ag p q) (hx : x < n) (hy : y < n) (ix : I x = true) (iy : I y = true) (hlt : lab x < lab y) (hr : r x y = true ∨ r y x = true) (p' q' : Nat) : LabPass n I r t lab0 (upd lab y (lab x)) true p' q' := by
  refine ⟨h.ok.push hx hy ix iy hlt hr, fun _ => ?_, fun e => by cases e⟩
  have h1 := sum_upd_lt (n := n) hy hlt
  cases ag with
  | true => have := h.les rfl; omega
  | false => rw [← (h.eq rfl).1]; exact h1
theorem LabPass.on {n : Nat} {I : Nat → Bool} {r : Int → Int → Bool} {t : Nat → Nat → Bool} {lab0 lab : Nat → Nat} {ag : Bool} {a b : Nat} (h : LabPass n I r t lab0 lab ag a b) (hg : ag = false → good n I t lab a b) : LabPass n I r t lab0 lab ag a (b + 1) := ⟨h.ok, h.les, fun e => ⟨(h.eq e).1, fun x y hxy => by
  by_cases e2 : x = a ∧ y = b
  · obtain ⟨rfl, rfl⟩ := e2; exact hg e
  · exact (h.eq e).2 x y (by omega)⟩⟩
theorem LabPass.row {n : Nat} {I : Nat → Bool} {r : Int → Int → Bool} {t : Nat → Nat → Bool} {lab0 lab : Nat → Nat} {ag : Bool} {a : Nat} (h : LabPass n I r t lab0 lab ag a n) : LabPass n I r t lab0 lab ag (a + 1) 0 := ⟨h.ok, h.les, fun e => ⟨(h.eq e).1, fun x y hxy => (h.eq e).2 x y (by omega)⟩⟩
structure Fix (n : Nat) (I : Nat → Bool) (r : Int → Int → Bool) (t : Nat → Nat → Bool) (lab : Nat → Nat) : Prop where
  ok : LabOk n I r lab
  st : ∀ x y, x < n → y < n → good n I t lab x y
theorem LabPass.fix {n : Nat} {I : Nat → Bool} {r : Int → Int → Bool} {t : Nat → Nat → Bool} {lab0 lab : Nat → Nat} (h : LabPass n I r t lab0 lab false n 0) : Fix n I r t lab := ⟨h.ok, fun x y hx hy => (h.eq rfl).2 x y (.inl ⟨hx, hy⟩)⟩
def cls (n : Nat) (I : Nat → Bool) (lab : Nat → Nat) (c : Nat) : List Int := ((List.range n).map fun i : Nat => (i : Int)).filter fun x => I x.toNat && (lab x.toNat == c)
def clss (n : Nat) (I : Nat → Bool) (lab : Nat → Nat) (k : Nat) : List (List Int) := ((List.range k).map (cls n I lab)).filter fun c => !c.isEmpty
theorem cls_mem {n : Nat} {I : Nat → Bool} {lab : Nat → Nat} {c : Nat} {x : Int} : x ∈ cls n I lab c ↔ ∃ i : Nat, i < n ∧ I i = true ∧ lab i = c ∧ x = i := by
  unfold cls
  rw [List.mem_filter, List.mem_map]
  constructor
  · rintro ⟨⟨i, hi, rfl⟩, h2⟩
    simp at h2
    exact ⟨i, List.mem_range.1 hi, h2.1, h2.2, rfl⟩
  · rintro ⟨i, h1, h2, h3, rfl⟩
    exact ⟨⟨i, List.mem_range.2 h1, rfl⟩, by simp [h2, h3]⟩
theorem range_asc (n : Nat) : ((List.range n).map fun i : Nat => (i : Int)).Pairwise (· < ·) := by
  rw [List.pairwise_map]
  exact List.pairwise_lt_range.imp fun h => by omega
theorem cls_asc (n : Nat) (I : Nat → Bool) (lab : Nat → Nat) (c : Nat) : (cls n I lab c).Pairwise (· < ·) := (range_asc n).filter _
theorem clss_mem {n k : Nat} {I : Nat → Bool} {lab : Nat → Nat} {d : List Int} : d ∈ clss n I lab k ↔ ∃ c, c < k ∧ d = cls n I lab c ∧ d ≠ [] := by
  unfold clss
  rw [List.mem_filter, List.mem_map]
  constructor
  · rintro ⟨⟨c, hc, rfl⟩, h⟩
    exact ⟨c, List.mem_range.1 hc, rfl, by simpa using h⟩
  · rintro ⟨c, hc, rfl, h⟩
    exact ⟨⟨c, List.mem_range.2 hc, rfl⟩, by simpa using h⟩
theorem clss_succ (n k : Nat) (I : Nat → Bool) (lab : Nat → Nat) : clss n I lab (k + 1) = clss n I lab k ++ (if cls n I lab k = [] then [] else [cls n I lab k]) := by
  unfold clss
  rw [List.range_succ, List.map_append, List.filter_append]
  congr 1
  by_cases h : cls n I lab k = []
  · rw [if_pos h]; simp [h]
  · rw [if_neg h]; simp [h]
theorem Fix.const {n : Nat} {I : Nat → Bool} {r : Int → Int → Bool} {t : Nat → Nat → Bool} {lab : Nat → Nat} (h : Fix n I r t lab) (ht : ∀ a b : Nat, a < n → b < n → I a = true → I b = true → a ≠ b → (r a b = true ∨ r b a = true) → t a b = true) {a b : Nat} (hc : Conn (marked n I) r a b) : lab b = lab a := by
  have := hc (fun z => lab z.toNat = lab a) (fun x y hx hy hr hz => by
    obtain ⟨i, hi, Ii, rfl⟩ := marked_mem.1 hx
    obtain ⟨j, hj, Ij, rfl⟩ := marked_mem.1 hy
    rw [Int.toNat_natCast] at hz ⊢
    by_cases e : i = j
    · rw [← e]; exact hz
    · rw [← h.st i j hi hj e Ii Ij (ht i j hi hj Ii Ij e hr)]; exact hz) (by rw [Int.toNat_natCast])
  rw [Int.toNat_natCast] at this
  exact this
theorem Fix.own {n : Nat} {I : Nat → Bool} {r : Int → Int → Bool} {t : Nat → Nat → Bool} {lab : Nat → Nat} (h : Fix n I r t lab) (ht : ∀ a b : Nat, a < n → b < n → I a = true → I b = true → a ≠ b → (r a b = true ∨ r b a = true) → t a b = true) {c : Nat} (hc : cls n I lab c ≠ []) : headI (cls n I lab c) = c := by
  obtain ⟨i, hi, Ii, hl, hx⟩ := cls_mem.1 (headI_mem hc)
  have hle := h.ok.le i hi
  have h1 := h.const ht (h.ok.conn i hi Ii)
  have h2 := h.ok.inn i hi Ii
  rw [hl] at h1 h2 hle
  have hcm : (c : Int) ∈ cls n I lab c := cls_mem.2 ⟨c, by omega, h2, by omega, rfl⟩
  have hasc := cls_asc n I lab c
  cases hd : cls n I lab c with
  | nil => exact absurd hd hc
  | cons y m =>
    rw [hd] at hcm hasc hx
    rw [List.pairwise_cons] at hasc
    show y = (c : Int)
    have hy : y = (i : Int) := hx
    rcases List.mem_cons.1 hcm with e | e
    · exact e.symm
    · have := hasc.1 _ e; omega
theorem Fix.comps {n : Nat} {I : Nat → Bool} {r : Int → Int → Bool} {t : Nat → Nat → Bool} {lab : Nat → Nat} (h : Fix n I r t lab) (ht : ∀ a b : Nat, a < n → b < n → I a = true → I b = true → a ≠ b → (r a b = true ∨ r b a = true) → t a b = true) : Comps (marked n I) r (clss n I lab n) := by
  refine ⟨fun x => ?_, ?_, fun c hc => ?_, fun c hc => ?_, fun c hc x hx y hy => ?_, fun c hc x hx y hy hr => ?_, ?_⟩
  · rw [List.mem_flatten, marked_mem]
    constructor
    · rintro ⟨d, hd, hx⟩
      obtain ⟨c, _, rfl, _⟩ := clss_mem.1 hd
      obtain ⟨i, h1, h2, _, h4⟩ := cls_mem.1 hx
      exact ⟨i, h1, h2, h4⟩
    · rintro ⟨i, h1, h2, rfl⟩
      have hm : (i : Int) ∈ cls n I lab (lab i) := cls_mem.2 ⟨i, h1, h2, rfl, rfl⟩
      exact ⟨_, clss_mem.2 ⟨lab i, by have := h.ok.le i h1; omega, rfl, fun e => by rw [e] at hm; simp at hm⟩, hm⟩
  · have : ∀ k, (clss n I lab k).flatten.Nodup := fun k => by
      induction k with
      | zero => exact List.nodup_nil
      | succ k ih =>
        rw [clss_succ, List.flatten_append]
        split
        · simpa using ih
        · rw [List.flatten_singleton, List.nodup_append]
          refine ⟨ih, (cls_asc n I lab k).imp fun h => by omega, fun a ha b hb e => ?_⟩
          subst e
          obtain ⟨d, hd, hx⟩ := List.mem_flatten.1 ha
          obtain ⟨c, hc, rfl, _⟩ := clss_mem.1 hd
          obtain ⟨i, _, _, h3, h4⟩ := cls_mem.1 hx
          obtain ⟨j, _, _, h5, h6⟩ := cls_mem.1 hb
          have : i = j := by omega
          subst this; omega
    exact this n
  · obtain ⟨_, _, _, hne⟩ := clss_mem.1 hc; exact hne
  · obtain ⟨k, _, rfl, _⟩ := clss_mem.1 hc; exact cls_asc n I lab k
  · obtain ⟨k, _, rfl, _⟩ := clss_mem.1 hc
    obtain ⟨i, h1, h2, h3, rfl⟩ := cls_mem.1 hx
    obtain ⟨j, g1, g2, g3, rfl⟩ := cls_mem.1 hy
    have a := h.ok.conn i h1 h2
    have b := h.ok.conn j g1 g2
    rw [h3] at a; rw [g3] at b
    exact a.symm.trans b
  · obtain ⟨k, _, rfl, _⟩ := clss_mem.1 hc
    obtain ⟨i, h1, h2, h3, rfl⟩ := cls_mem.1 hx
    obtain ⟨j, g1, g2, rfl⟩ := marked_mem.1 hy
    refine cls_mem.2 ⟨j, g1, g2, ?_, rfl⟩
    rw [h.const ht (Conn.step (marked_mem.2 ⟨i, h1, h2, rfl⟩) hy hr), h3]
  · unfold clss
    refine List.Pairwise.imp_of_mem (R := fun c d => headI c < headI d) (fun {c d} hc hd hcd x y hx hy => ?_) ?_
    · rw [List.mem_filter] at hc hd
      rw [headI_head? (by simpa using hc.2)] at hx
      rw [headI_head? (by simpa using hd.2)] at hy
      cases hx; cases hy; exact hcd
    · rw [List.pairwise_filter, List.pairwise_map]
      refine List.pairwise_lt_range.imp fun {a b} hab ha hb => ?_
      rw [h.own ht (by simpa using ha), h.own ht (by simpa using hb)]; omega
end Go.Cb
