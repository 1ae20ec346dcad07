/-
  Plain laws: words in order; variants counted by first occurrence, then sorted, are those added in order. No program in sight.
  Plain laws: rows and squares of truths; what is reached, by two ways. No program in sight.
  Plain laws: a square of truths is closed by passes over all triples. No program in sight.
  Plain laws: classes of what is linked, found one after the other. No program in sight.
  Plain laws: the classes are one list; lists of classes in the order of their least elements. No program in sight.
  Plain laws: labels that are pushed along links until nothing changes. No program in sight.
  Plain laws: lists in the order of a relation; a part as an ascending list; the least of a list. No program in sight.
-/
import Derived.Test.YtebcjijpdhbcdaaGreatPlain
import Derived.Test.YtebcjijpdhbcdaaGreatEngb
namespace Go.Cb
set_option linter.all false

theorem bl_irrefl : ∀ l : List UInt8, Op.bytesLess l l = false
  | [] => rfl
  | a :: l => by simp [Op.bytesLess, bl_irrefl l, UInt8.lt_irrefl]
theorem bl_trans : ∀ a b c : List UInt8, Op.bytesLess a b = true → Op.bytesLess b c = true → Op.bytesLess a c = true
  | _, _, [], _, h => by cases h' : (‹List UInt8› : List UInt8) <;> simp_all [Op.bytesLess]
  | _, [], _ :: _, h, _ => by simp [Op.bytesLess] at h
  | [], _ :: _, _ :: _, _, _ => rfl
  | x :: a, y :: b, z :: c, h1, h2 => by
    simp only [Op.bytesLess, Bool.or_eq_true, Bool.and_eq_true, decide_eq_true_eq, beq_iff_eq] at h1 h2 ⊢
    rcases h1 with h1 | ⟨rfl, h1⟩
    · rcases h2 with h2 | ⟨rfl, h2⟩
      · exact .inl (UInt8.lt_trans h1 h2)
      · exact .inl h1
    · rcases h2 with h2 | ⟨rfl, h2⟩
      · exact .inl h2
      · exact .inr ⟨rfl, bl_trans a b c h1 h2⟩
theorem bl_total : ∀ a b : List UInt8, Op.bytesLess a b = false → Op.bytesLess b a = false → a = b
  | [], [], _, _ => rfl
  | [], _ :: _, h, _ => by simp [Op.bytesLess] at h
  | _ :: _, [], _, h => by simp [Op.bytesLess] at h
  | x :: a, y :: b, h1, h2 => by
    simp only [Op.bytesLess, Bool.or_eq_false_iff, decide_eq_false_iff_not] at h1 h2
    have hxy : x = y := UInt8.le_antisymm (UInt8.not_lt.1 h2.1) (UInt8.not_lt.1 h1.1)
    subst hxy
    simp only [beq_self_eq_true, Bool.true_and] at h1 h2
    rw [bl_total a b h1.2 h2.2]
theorem strLt_irrefl (a : ByteArray) : strLt a a = false := bl_irrefl _
theorem strLt_trans {a b c : ByteArray} (h : strLt a b = true) (k : strLt b c = true) : strLt a c = true := bl_trans _ _ _ h k
theorem strLt_total {a b : ByteArray} (h : strLt a b = false) (k : strLt b a = false) : a = b := by
  have := bl_total _ _ h k
  rw [ByteArray.toList_eq, ByteArray.toList_eq] at this
  exact WideShapes.bytes_inj this
theorem cmpStr_zero {a b : ByteArray} : cmpStr a b = 0 ↔ a = b := by
  unfold cmpStr
  constructor
  · intro h
    split at h
    · omega
    · split at h
      · rename_i h2; exact strEq_iff.1 h2
      · omega
  · rintro rfl
    rw [strLt_irrefl, strEq_iff.2 rfl]; rfl
theorem cmpStr_neg {a b : ByteArray} : cmpStr a b < 0 ↔ strLt a b = true := by
  unfold cmpStr
  constructor
  · intro h
    split at h
    · assumption
    · split at h <;> omega
  · intro h; rw [h, if_pos rfl]; decide
def Nodup (r : List Var) : Prop := r.Pairwise fun x y => x.acts ≠ y.acts
end Go.Cb

namespace Go.Cb
open Go.En
set_option linter.all false

def Closed (n : Nat) (f T : Nat → Nat → Bool) : Prop := (∀ i j, i < n → j < n → f i j = true → T i j = true) ∧ ∀ i j k, i < n → j < n → k < n → T i j = true → T j k = true → T i k = true
def cntF (n : Nat) (f : Nat → Bool) : Nat := ((List.range n).filter fun i => !f i).length
theorem cntF_snoc (n : Nat) (f : Nat → Bool) : cntF (n + 1) f = cntF n f + (if f n then 0 else 1) := by
  unfold cntF
  rw [List.range_succ, List.filter_append, List.length_append]
  cases h : f n <;> simp [h]
theorem cntF_congr {n : Nat} {f g : Nat → Bool} (h : ∀ i, i < n → f i = g i) : cntF n f = cntF n g := by
  unfold cntF
  rw [List.filter_congr fun i hi => by rw [h i (List.mem_range.1 hi)]]
theorem cntF_set {f : Nat → Bool} {a : Nat} (hf : f a = false) : ∀ {n : Nat}, a < n → cntF n (fun i => if i = a then true else f i) + 1 = cntF n f
  | 0, h => by omega
  | n + 1, h => by
    rw [cntF_snoc, cntF_snoc]
    by_cases e : n = a
    · subst e
      rw [if_pos rfl, hf]
      rw [cntF_congr (f := fun i => if i = n then true else f i) (g := f) fun i hi => by rw [if_neg (by omega)]]
      simp
    · rw [if_neg e]
      have := cntF_set hf (n := n) (by omega)
      omega
def cntM (n : Nat) (f : Nat → Nat → Bool) : Nat := ((List.range n).map fun i => cntF n (f i)).sum
end Go.Cb

namespace Go.Cb
open Go.En
set_option linter.all false

structure Grows (n : Nat) (E R : Nat → Nat → Bool) : Prop where
  lo : ∀ i j, i < n → j < n → E i j = true → R i j = true
  hi : ∀ T, Closed n E T → ∀ i j, i < n → j < n → R i j = true → T i j = true
def setM (R : Nat → Nat → Bool) (a c : Nat) : Nat → Nat → Bool := fun i => if i = a then (fun j => if j = c then true else R a j) else R i
theorem setM_at (R : Nat → Nat → Bool) (a c i j : Nat) : setM R a c i j = (if i = a ∧ j = c then true else R i j) := by
  unfold setM
  by_cases h : i = a
  · subst h
    rw [if_pos rfl]
    by_cases h2 : j = c
    · rw [if_pos h2, if_pos ⟨rfl, h2⟩]
    · rw [if_neg h2, if_neg (fun h => h2 h.2)]
  · rw [if_neg h, if_neg (fun h' => h h'.1)]
theorem Grows.set {n : Nat} {E R : Nat → Nat → Bool} (h : Grows n E R) {a b c : Nat} (ha : a < n) (hb : b < n) (hc : c < n) (h1 : R a b = true) (h2 : R b c = true) : Grows n E (setM R a c) := by
  refine ⟨fun i j hi hj he => ?_, fun T hT i j hi hj hs => ?_⟩
  · rw [setM_at]; split
    · rfl
    · exact h.lo i j hi hj he
  · rw [setM_at] at hs
    split at hs
    · rename_i hx
      rw [hx.1, hx.2]
      exact hT.2 a b c ha hb hc (h.hi T hT a b ha hb h1) (h.hi T hT b c hb hc h2)
    · exact h.hi T hT i j hi hj hs
def Before (a b c a' b' c' : Nat) : Prop := a' < a ∨ (a' = a ∧ (b' < b ∨ (b' = b ∧ c' < c)))
structure Pass (n : Nat) (E R0 R : Nat → Nat → Bool) (ag : Bool) (a b c : Nat) : Prop where
  gr : Grows n E R
  dn : ag = true → cntM n R < cntM n R0
  st : ag = false → R = R0 ∧ ∀ a' b' c', a' < n → b' < n → c' < n → Before a b c a' b' c' → R0 a' b' = true → R0 b' c' = true → R0 a' c' = true
theorem Pass.start {n : Nat} {E R0 : Nat → Nat → Bool} (h : Grows n E R0) : Pass n E R0 R0 false 0 0 0 := ⟨h, by simp, fun _ => ⟨rfl, fun a' b' c' _ _ _ hB => by unfold Before at hB; omega⟩⟩
theorem Pass.to {n : Nat} {E R0 R : Nat → Nat → Bool} {ag : Bool} {a b c a1 b1 c1 : Nat} (h : Pass n E R0 R ag a b c) (hB : ∀ a' b' c', a' < n → b' < n → c' < n → Before a1 b1 c1 a' b' c' → Before a b c a' b' c' ∨ (ag = false → R0 a' b' = true → R0 b' c' = true → R0 a' c' = true)) : Pass n E R0 R ag a1 b1 c1 :=
  ⟨h.gr, h.dn, fun hg => ⟨(h.st hg).1, fun a' b' c' h1 h2 h3 h4 => by
    rcases hB a' b' c' h1 h2 h3 h4 with h5 | h5
    · exact (h.st hg).2 a' b' c' h1 h2 h3 h5
    · exact h5 hg⟩⟩
theorem Pass.skip {n : Nat} {E R0 R : Nat → Nat → Bool} {ag : Bool} {a b c : Nat} (h : Pass n E R0 R ag a b c) (hx : R a b = true → R b c = true → R a c = true) : Pass n E R0 R ag a b (c + 1) :=
  h.to fun a' b' c' _ _ _ hB => by
    by_cases e : a' = a ∧ b' = b ∧ c' = c
    · obtain ⟨rfl, rfl, rfl⟩ := e
      exact .inr fun hg => by rw [← (h.st hg).1]; exact hx
    · exact .inl (by unfold Before at hB ⊢; omega)
theorem Pass.row {n : Nat} {E R0 R : Nat → Nat → Bool} {ag : Bool} {a b c : Nat} (h : Pass n E R0 R ag a b c) (hc : n ≤ c) : Pass n E R0 R ag a (b + 1) 0 := h.to fun a' b' c' _ _ _ hB => .inl (by unfold Before at hB ⊢; omega)
theorem Pass.closed {n : Nat} {E R0 R : Nat → Nat → Bool} {a b c : Nat} (h : Pass n E R0 R false a b c) (ha : n ≤ a) : Closed n E R := by
  obtain ⟨h1, h2⟩ := h.st rfl
  refine ⟨h.gr.lo, fun i j k hi hj hk ha' hb' => ?_⟩
  rw [h1] at ha' hb' ⊢
  exact h2 i j k hi hj hk (by unfold Before; omega) ha' hb'
theorem Pass.less {n : Nat} {E R0 R : Nat → Nat → Bool} {ag : Bool} {a b c : Nat} (h : Pass n E R0 R ag a b c) : cntM n R + (if ag then 1 else 0) < cntM n R0 + 1 := by
  cases hg : ag with
  | true => have := h.dn hg; simp; omega
  | false => rw [(h.st hg).1]; simp
end Go.Cb

namespace Go.Cb
open Go.En
set_option linter.all false

def Conn (l : List Int) (r : Int → Int → Bool) (x y : Int) : Prop := ∀ P : Int → Prop, (∀ a b, a ∈ l → b ∈ l → (r a b = true ∨ r b a = true) → P a → P b) → P x → P y
theorem Conn.refl (l : List Int) (r : Int → Int → Bool) (x : Int) : Conn l r x x := fun _ _ h => h
theorem Conn.trans {l : List Int} {r : Int → Int → Bool} {x y z : Int} (h : Conn l r x y) (k : Conn l r y z) : Conn l r x z := fun P hP hx => k P hP (h P hP hx)
theorem Conn.step {l : List Int} {r : Int → Int → Bool} {x y : Int} (hx : x ∈ l) (hy : y ∈ l) (h : r x y = true ∨ r y x = true) : Conn l r x y := fun P hP hx' => hP x y hx hy h hx'
theorem Conn.symm {l : List Int} {r : Int → Int → Bool} {x y : Int} (h : Conn l r x y) : Conn l r y x :=
  h (fun z => Conn l r z x) (fun a b ha hb hr hax => (Conn.step hb ha hr.symm).trans hax) (Conn.refl l r x)

theorem nodup_len {α : Type} [BEq α] [LawfulBEq α] : ∀ {l m : List α}, l.Nodup → (∀ x ∈ l, x ∈ m) → l.length ≤ m.length
  | [], m, _, _ => Nat.zero_le _
  | x :: l, m, h, hs => by
    rw [List.nodup_cons] at h
    have hx := hs x (by simp)
    have h1 := nodup_len (l := l) (m := m.erase x) h.2 fun y hy => by
      have hne : y ≠ x := fun e => h.1 (e ▸ hy)
      exact (List.mem_erase_of_ne hne).2 (hs y (by simp [hy]))
    rw [List.length_erase_of_mem hx] at h1
    have := List.length_pos_of_mem hx
    simp only [List.length_cons]
    omega
structure Comps (l : List Int) (r : Int → Int → Bool) (cs : List (List Int)) : Prop where
  mem : ∀ x, x ∈ cs.flatten ↔ x ∈ l
  nd : cs.flatten.Nodup
  ne : ∀ c ∈ cs, c ≠ []
  asc : ∀ c ∈ cs, c.Pairwise (· < ·)
  conn : ∀ c ∈ cs, ∀ x ∈ c, ∀ y ∈ c, Conn l r x y
  clos : ∀ c ∈ cs, ∀ x ∈ c, ∀ y ∈ l, (r x y = true ∨ r y x = true) → y ∈ c
  ord : cs.Pairwise fun c d => ∀ x y, c.head? = some x → d.head? = some y → x < y
structure Part (l : List Int) (r : Int → Int → Bool) (cs : List (List Int)) (k : Nat) : Prop where
  sub : ∀ x ∈ cs.flatten, x ∈ l
  did : ∀ j x, j < k → l[j]? = some x → x ∈ cs.flatten
  nd : cs.flatten.Nodup
  ne : ∀ c ∈ cs, c ≠ []
  asc : ∀ c ∈ cs, c.Pairwise (· < ·)
  conn : ∀ c ∈ cs, ∀ x ∈ c, ∀ y ∈ c, Conn l r x y
  clos : ∀ c ∈ cs, ∀ x ∈ c, ∀ y ∈ l, (r x y = true ∨ r y x = true) → y ∈ c
  ord : cs.Pairwise fun c d => ∀ x y, c.head? = some x → d.head? = some y → x < y
  hd : ∀ c ∈ cs, ∀ x, c.head? = some x → ∃ j, j < k ∧ l[j]? = some x
theorem Part.start (l : List Int) (r : Int → Int → Bool) : Part l r [] 0 := ⟨by simp, by omega, by simp, by simp, by simp, by simp, by simp, by simp, by simp⟩
theorem Part.skip {l : List Int} {r : Int → Int → Bool} {cs : List (List Int)} {k : Nat} {x : Int} (h : Part l r cs k) (hx : l[k]? = some x) (hin : x ∈ cs.flatten) : Part l r cs (k + 1) :=
  ⟨h.sub, fun j y hj hy => by
    by_cases e : j = k
    · subst e; rw [hx] at hy; cases hy; exact hin
    · exact h.did j y (by omega) hy, h.nd, h.ne, h.asc, h.conn, h.clos, h.ord, fun c hc x hx => let ⟨j, hj, e⟩ := h.hd c hc x hx; ⟨j, by omega, e⟩⟩
structure Mk (l : List Int) (r : Int → Int → Bool) (cs : List (List Int)) (first : Int) (tk cl : List Int) (i q : Nat) : Prop where
  tkm : ∀ z, z ∈ tk ↔ z ∈ cs.flatten ∨ z ∈ cl
  nd : (cs.flatten ++ cl).Nodup
  sub : ∀ z ∈ cl, z ∈ l
  con : ∀ z ∈ cl, Conn l r first z
  fst : first ∈ cl
  il : i ≤ cl.length
  did : ∀ j x, j < i → cl[j]? = some x → ∀ y ∈ l, (r x y = true ∨ r y x = true) → y ∈ tk
  now : ∀ x, cl[i]? = some x → ∀ p y, p < q → l[p]? = some y → (r x y = true ∨ r y x = true) → y ∈ tk
theorem Mk.start {l : List Int} {r : Int → Int → Bool} {cs : List (List Int)} {k : Nat} {x : Int} {tk : List Int} (h : Part l r cs k) (hx : l[k]? = some x) (ht : ∀ z, z ∈ tk ↔ z ∈ cs.flatten) (hn : x ∉ cs.flatten) : Mk l r cs x (tk ++ [x]) [x] 0 0 :=
  ⟨fun z => by simp [ht], by
    rw [List.nodup_append]
    exact ⟨h.nd, by simp, fun a ha b hb => by simp at hb; subst hb; exact fun e => hn (e ▸ ha)⟩, fun z hz => by simp at hz; subst hz; exact List.mem_of_getElem? hx, fun z hz => by simp at hz; subst hz; exact Conn.refl _ _ _, by simp, by simp, by omega, by omega⟩
theorem Mk.len {l : List Int} {r : Int → Int → Bool} {cs : List (List Int)} {first : Int} {tk cl : List Int} {i q : Nat} (h : Mk l r cs first tk cl i q) : cl.length ≤ l.length := nodup_len (List.nodup_append.1 h.nd).2.1 h.sub
theorem Mk.take {l : List Int} {r : Int → Int → Bool} {cs : List (List Int)} {first : Int} {tk cl : List Int} {i q : Nat} {x y : Int} (h : Mk l r cs first tk cl i q) (hx : cl[i]? = some x) (hy : l[q]? = some y) (hn : y ∉ tk) (hr : r x y = true ∨ r y x = true) : Mk l r cs first (tk ++ [y]) (cl ++ [y]) i (q + 1) := by
  have hyl := List.mem_of_getElem? hy
  have hxc := List.mem_of_getElem? hx
  have hn' : y ∉ cs.flatten ∧ y ∉ cl := by
    have := fun hh => hn ((h.tkm y).2 hh)
    exact ⟨fun hh => this (.inl hh), fun hh => this (.inr hh)⟩
  refine ⟨fun z => ?_, ?_, fun z hz => ?_, fun z hz => ?_, by simp [h.fst], by have := h.il; simp; omega, fun j u hj hu v hv hrr => ?_, fun u hu p v hp hv hrr => ?_⟩
  · simp only [List.mem_append, List.mem_singleton, h.tkm z]; exact or_assoc
  · rw [← List.append_assoc, List.nodup_append]
    refine ⟨h.nd, by simp, fun a ha b hb => ?_⟩
    simp at hb; subst hb
    intro e
    rw [List.mem_append] at ha
    rcases ha with ha | ha
    · exact hn'.1 (e ▸ ha)
    · exact hn'.2 (e ▸ ha)
  · simp only [List.mem_append, List.mem_singleton] at hz
    rcases hz with hz | rfl
    · exact h.sub z hz
    · exact hyl
  · simp only [List.mem_append, List.mem_singleton] at hz
    rcases hz with hz | rfl
    · exact h.con z hz
    · exact (h.con x hxc).trans (Conn.step (h.sub x hxc) hyl hr)
  · have hl : j < cl.length := by have := h.il; omega
    rw [List.getElem?_append_left hl] at hu
    rw [List.mem_append]; exact .inl (h.did j u hj hu v hv hrr)
  · have hl := lt_of_get hx
    rw [List.getElem?_append_left hl, hx] at hu; cases hu
    rw [List.mem_append]
    by_cases e : p = q
    · subst e; rw [hy] at hv; cases hv; simp
    · exact .inl (h.now x hx p v (by omega) hv hrr)
theorem Mk.next {l : List Int} {r : Int → Int → Bool} {cs : List (List Int)} {first : Int} {tk cl : List Int} {i q : Nat} (h : Mk l r cs first tk cl i q) (hq : l.length ≤ q) (hi : i < cl.length) : Mk l r cs first tk cl (i + 1) 0 :=
  ⟨h.tkm, h.nd, h.sub, h.con, h.fst, hi, fun j x hj hx y hy hr => by
    by_cases e : j = i
    · subst e
      obtain ⟨p, hp⟩ := List.getElem?_of_mem hy
      exact h.now x hx p y (by have := lt_of_get hp; omega) hp hr
    · exact h.did j x (by omega) hx y hy hr, by omega⟩
theorem sort_mem {cl : List Int} {z : Int} : z ∈ cl.mergeSort (fun x y => decide (x ≤ y)) ↔ z ∈ cl := (List.mergeSort_perm cl _).mem_iff
theorem sort_asc {cl : List Int} (h : cl.Nodup) : (cl.mergeSort fun x y => decide (x ≤ y)).Pairwise (· < ·) := by
  have h1 := List.pairwise_mergeSort (le := fun x y : Int => decide (x ≤ y)) (fun a b c h1 h2 => by simp at *; omega) (fun a b => by simp; omega) cl
  have h2 : (cl.mergeSort fun x y => decide (x ≤ y)).Nodup := (List.mergeSort_perm cl _).nodup_iff.2 h
  exact (h1.and h2).imp fun {a b} ⟨h3, h4⟩ => by simp at h3; have : a ≠ b := h4; omega
theorem Mk.done {l : List Int} {r : Int → Int → Bool} {cs : List (List Int)} {first : Int} {tk cl : List Int} {i k : Nat} (h : Mk l r cs first tk cl i 0) (hP : Part l r cs k) (hl : l.Pairwise (· < ·)) (hk : l[k]? = some first) (hi : cl.length ≤ i) : Part l r (cs ++ [cl.mergeSort fun x y => decide (x ≤ y)]) (k + 1) := by
  have hnd := List.nodup_append.1 h.nd
  have hflat : (cs ++ [cl.mergeSort fun x y => decide (x ≤ y)]).flatten = cs.flatten ++ cl.mergeSort (fun x y => decide (x ≤ y)) := by simp
  have hclos : ∀ x ∈ cl, ∀ y ∈ l, (r x y = true ∨ r y x = true) → y ∈ cl := fun x hx y hy hr => by
    obtain ⟨j, hj⟩ := List.getElem?_of_mem hx
    have := h.did j x (by have := lt_of_get hj; omega) hj y hy hr
    rcases (h.tkm y).1 this with h1 | h1
    · obtain ⟨c, hc, hyc⟩ := List.mem_flatten.1 h1
      have hxc := hP.clos c hc y hyc x (h.sub x hx) hr.symm
      exact absurd rfl (hnd.2.2 x (List.mem_flatten.2 ⟨c, hc, hxc⟩) x hx)
    · exact h1
  have hleast : ∀ z ∈ cl, first ≤ z := fun z hz => by
    obtain ⟨j, hj⟩ := List.getElem?_of_mem (h.sub z hz)
    rcases Nat.lt_trichotomy j k with h1 | h1 | h1
    · have := hP.did j z h1 hj
      exact absurd rfl (hnd.2.2 z this z hz)
    · subst h1; rw [hk] at hj; cases hj; omega
    · have := List.pairwise_iff_getElem.1 hl k j (lt_of_get hk) (lt_of_get hj) h1
      have e1 := (List.getElem?_eq_some_iff.1 hk).2
      have e2 := (List.getElem?_eq_some_iff.1 hj).2
      rw [e1, e2] at this; omega
  have hasc := sort_asc hnd.2.1
  have hhead : ∀ x, (cl.mergeSort fun x y => decide (x ≤ y)).head? = some x → x = first := fun x hx => by
    have hm : x ∈ cl := sort_mem.1 (List.mem_of_mem_head? hx)
    have hf : first ∈ cl.mergeSort fun x y => decide (x ≤ y) := sort_mem.2 h.fst
    have := hleast x hm
    cases hs : cl.mergeSort (fun x y => decide (x ≤ y)) with
    | nil => rw [hs] at hx; cases hx
    | cons a t =>
      rw [hs] at hx hf hasc
      simp at hx; subst hx
      rw [List.pairwise_cons] at hasc
      rcases List.mem_cons.1 hf with e | e
      · exact e.symm
      · have := hasc.1 first e; omega
  refine ⟨fun x hx => ?_, fun j x hj hx => ?_, ?_, fun c hc => ?_, fun c hc => ?_, fun c hc x hx y hy => ?_, fun c hc x hx y hy hr => ?_, ?_, fun c hc x hx => ?_⟩
  · rw [hflat, List.mem_append, sort_mem] at hx
    rcases hx with hx | hx
    · exact hP.sub x hx
    · exact h.sub x hx
  · rw [hflat, List.mem_append, sort_mem]
    by_cases e : j = k
    · subst e; rw [hk] at hx; cases hx; exact .inr h.fst
    · exact .inl (hP.did j x (by omega) hx)
  · rw [hflat, List.nodup_append]
    exact ⟨hP.nd, (List.mergeSort_perm cl _).nodup_iff.2 hnd.2.1, fun a ha b hb => hnd.2.2 a ha b (sort_mem.1 hb)⟩
  · rcases List.mem_append.1 hc with hc | hc
    · exact hP.ne c hc
    · simp at hc; subst hc; intro e
      have := (sort_mem (cl := cl)).2 h.fst
      rw [e] at this; simp at this
  · rcases List.mem_append.1 hc with hc | hc
    · exact hP.asc c hc
    · simp at hc; subst hc; exact hasc
  · rcases List.mem_append.1 hc with hc | hc
    · exact hP.conn c hc x hx y hy
    · simp at hc; subst hc
      exact (h.con x (sort_mem.1 hx)).symm.trans (h.con y (sort_mem.1 hy))
  · rcases List.mem_append.1 hc with hc | hc
    · exact hP.clos c hc x hx y hy hr
    · simp at hc; subst hc
      exact sort_mem.2 (hclos x (sort_mem.1 hx) y hy hr)
  · rw [List.pairwise_append]
    refine ⟨hP.ord, by simp, fun c hc d hd x y hx hy => ?_⟩
    simp at hd; subst hd
    obtain ⟨j, hj, e⟩ := hP.hd c hc x hx
    rw [hhead y hy]
    have := List.pairwise_iff_getElem.1 hl j k (lt_of_get e) (lt_of_get hk) hj
    rw [(List.getElem?_eq_some_iff.1 e).2, (List.getElem?_eq_some_iff.1 hk).2] at this
    exact this
  · rcases List.mem_append.1 hc with hc | hc
    · obtain ⟨j, hj, e⟩ := hP.hd c hc x hx
      exact ⟨j, by omega, e⟩
    · simp at hc; subst hc
      rw [hhead x hx]; exact ⟨k, by omega, hk⟩
end Go.Cb

namespace Go.Cb
open Go.En
set_option linter.all false

theorem asc_ext : ∀ {l m : List Int}, l.Pairwise (· < ·) → m.Pairwise (· < ·) → (∀ x, x ∈ l ↔ x ∈ m) → l = m
  | [], [], _, _, _ => rfl
  | [], b :: m, _, _, h => by have := (h b).2 (by simp); simp at this
  | a :: l, [], _, _, h => by have := (h a).1 (by simp); simp at this
  | a :: l, b :: m, hl, hm, h => by
    rw [List.pairwise_cons] at hl hm
    have hab : a = b := by
      have h1 := (h a).1 (by simp)
      have h2 := (h b).2 (by simp)
      rcases List.mem_cons.1 h1 with e | e
      · exact e
      · rcases List.mem_cons.1 h2 with e2 | e2
        · exact e2.symm
        · have := hl.1 b e2
          have := hm.1 a e
          omega
    subst hab
    rw [asc_ext hl.2 hm.2 fun x => ?_]
    constructor
    · intro hx
      have := (h x).1 (by simp [hx])
      rcases List.mem_cons.1 this with e | e
      · subst e; have := hl.1 _ hx; omega
      · exact e
    · intro hx
      have := (h x).2 (by simp [hx])
      rcases List.mem_cons.1 this with e | e
      · subst e; have := hm.1 _ hx; omega
      · exact e
def headI (c : List Int) : Int := c[0]?.getD 0
theorem headI_mem {c : List Int} (h : c ≠ []) : headI c ∈ c := by
  cases c with
  | nil => exact absurd rfl h
  | cons a t => exact List.mem_cons_self
theorem headI_head? {c : List Int} (h : c ≠ []) : c.head? = some (headI c) := by
  cases c with
  | nil => exact absurd rfl h
  | cons a t => rfl
theorem heads_ext : ∀ {l m : List (List Int)}, l.Pairwise (fun c d => headI c < headI d) → m.Pairwise (fun c d => headI c < headI d) → (∀ c, c ∈ l ↔ c ∈ m) → l = m
  | [], [], _, _, _ => rfl
  | [], b :: m, _, _, h => by have := (h b).2 (by simp); simp at this
  | a :: l, [], _, _, h => by have := (h a).1 (by simp); simp at this
  | a :: l, b :: m, hl, hm, h => by
    rw [List.pairwise_cons] at hl hm
    have hab : a = b := by
      have h1 := (h a).1 (by simp)
      have h2 := (h b).2 (by simp)
      rcases List.mem_cons.1 h1 with e | e
      · exact e
      · rcases List.mem_cons.1 h2 with e2 | e2
        · exact e2.symm
        · have := hl.1 b e2
          have := hm.1 a e
          omega
    subst hab
    rw [heads_ext hl.2 hm.2 fun x => ?_]
    constructor
    · intro hx
      have := (h x).1 (by simp [hx])
      rcases List.mem_cons.1 this with e | e
      · subst e; have := hl.1 _ hx; omega
      · exact e
    · intro hx
      have := (h x).2 (by simp [hx])
      rcases List.mem_cons.1 this with e | e
      · subst e; have := hm.1 _ hx; omega
      · exact e
theorem Comps.heads {l : List Int} {r : Int → Int → Bool} {cs : List (List Int)} (h : Comps l r cs) : cs.Pairwise (fun c d => headI c < headI d) := by
  refine List.Pairwise.imp_of_mem (fun {c d} hc hd hcd => ?_) h.ord
  exact hcd _ _ (headI_head? (h.ne c hc)) (headI_head? (h.ne d hd))
theorem Comps.closed {l : List Int} {r : Int → Int → Bool} {cs : List (List Int)} (h : Comps l r cs) {c : List Int} (hc : c ∈ cs) {x y : Int} (hx : x ∈ c) (hxy : Conn l r x y) : y ∈ c :=
  hxy (fun z => z ∈ c) (fun a b ha hb hr ha' => h.clos c hc a ha' b hb hr) hx
theorem Comps.unique {l : List Int} {r r' : Int → Int → Bool} {cs ds : List (List Int)} (h : Comps l r cs) (k : Comps l r' ds) (hr : ∀ x ∈ l, ∀ y ∈ l, (r x y = true ∨ r y x = true) ↔ (r' x y = true ∨ r' y x = true)) : cs = ds := by
  have hC : ∀ x y, Conn l r x y ↔ Conn l r' x y := fun x y =>
    ⟨fun h P hP => h P fun a b ha hb hab => hP a b ha hb ((hr a ha b hb).1 hab), fun h P hP => h P fun a b ha hb hab => hP a b ha hb ((hr a ha b hb).2 hab)⟩
  have key : ∀ {l : List Int} {r r' : Int → Int → Bool} {cs ds : List (List Int)}, Comps l r cs → Comps l r' ds → (∀ x y, Conn l r x y ↔ Conn l r' x y) → ∀ c ∈ cs, c ∈ ds := fun {l r r' cs ds} h k hC c hc => by
    have hm := headI_mem (h.ne c hc)
    have hl := (h.mem _).1 (List.mem_flatten.2 ⟨c, hc, hm⟩)
    obtain ⟨d, hd, hmd⟩ := List.mem_flatten.1 ((k.mem _).2 hl)
    have : c = d := asc_ext (h.asc c hc) (k.asc d hd) fun x =>
      ⟨fun hx => k.closed hd hmd ((hC _ _).1 (h.conn c hc _ hm x hx)), fun hx => h.closed hc hm ((hC _ _).2 (k.conn d hd _ hmd x hx))⟩
    rw [this]; exact hd
  exact heads_ext h.heads k.heads fun c => ⟨key h k hC c, key k h (fun x y => (hC x y).symm) c⟩
end Go.Cb

namespace Go.Cb
open Go.En
set_option linter.all false

def sumTo : Nat → (Nat → Nat) → Nat
  | 0, _ => 0
  | n + 1, f => sumTo n f + f n
def upd {α : Type} (f : Nat → α) (a : Nat) (b : α) : Nat → α := fun i => if i = a then b else f i
theorem sum_upd_ge {n a b : Nat} {f : Nat → Nat} (h : n ≤ a) : sumTo n (upd f a b) = sumTo n f := by
  induction n with
  | zero => rfl
  | succ n ih =>
    show sumTo n (upd f a b) + upd f a b n = sumTo n f + f n
    rw [ih (by omega)]; unfold upd; rw [if_neg (by omega)]
theorem sum_upd_lt : ∀ {n a b : Nat} {f : Nat → Nat}, a < n → b < f a → sumTo n (upd f a b) < sumTo n f
  | n + 1, a, b, f, h, hb => by
    show sumTo n (upd f a b) + upd f a b n < sumTo n f + f n
    by_cases e : a = n
    · subst e
      rw [sum_upd_ge (Nat.le_refl _)]; unfold upd; rw [if_pos rfl]; omega
    · have := sum_upd_lt (b := b) (f := f) (show a < n by omega) hb
      have e2 : upd f a b n = f n := by unfold upd; rw [if_neg (by omega)]
      omega
def marked (n : Nat) (I : Nat → Bool) : List Int := ((List.range n).map fun i : Nat => (i : Int)).filter fun x => I x.toNat
theorem marked_mem {n : Nat} {I : Nat → Bool} {x : Int} : x ∈ marked n I ↔ ∃ i : Nat, i < n ∧ I i = true ∧ x = i := by
  unfold marked
  rw [List.mem_filter, List.mem_map]
  constructor
  · rintro ⟨⟨i, hi, rfl⟩, h2⟩
    exact ⟨i, List.mem_range.1 hi, by simpa using h2, rfl⟩
  · rintro ⟨i, h1, h2, rfl⟩
    exact ⟨⟨i, List.mem_range.2 h1, rfl⟩, by simpa using h2⟩
structure LabOk (n : Nat) (I : Nat → Bool) (r : Int → Int → Bool) (lab : Nat → Nat) : Prop where
  le : ∀ i, i < n → lab i ≤ i
  inn : ∀ i, i < n → I i = true → I (lab i) = true
  conn : ∀ i, i < n → I i = true → Conn (marked n I) r (lab i) i
theorem LabOk.start (n : Nat) (I : Nat → Bool) (r : Int → Int → Bool) : LabOk n I r fun i => i := ⟨fun i _ => Nat.le_refl i, fun i _ h => h, fun i _ _ => Conn.refl _ _ _⟩
theorem LabOk.push {n : Nat} {I : Nat → Bool} {r : Int → Int → Bool} {lab : Nat → Nat} (h : LabOk n I r lab) {a b : Nat} (ha : a < n) (hb : b < n) (ia : I a = true) (ib : I b = true) (hlt : lab a < lab b) (hr : r a b = true ∨ r b a = true) : LabOk n I r (upd lab b (lab a)) := by
  refine ⟨fun i hi => ?_, fun i hi hI => ?_, fun i hi hI => ?_⟩ <;> unfold upd <;> split
  · rename_i e; subst e; have := h.le i hi; omega
  · exact h.le i hi
  · exact h.inn a ha ia
  · exact h.inn i hi hI
  · rename_i e; subst e
    exact (h.conn a ha ia).trans (Conn.step (marked_mem.2 ⟨a, ha, ia, rfl⟩) (marked_mem.2 ⟨i, hb, ib, rfl⟩) hr)
  · exact h.conn i hi hI
def good (n : Nat) (I : Nat → Bool) (t : Nat → Nat → Bool) (lab : Nat → Nat) (a b : Nat) : Prop := a ≠ b → I a = true → I b = true → t a b = true → lab a = lab b
structure LabPass (n : Nat) (I : Nat → Bool) (r : Int → Int → Bool) (t : Nat → Nat → Bool) (lab0 lab : Nat → Nat) (ag : Bool) (a b : Nat) : Prop where
  ok : LabOk n I r lab
  les : ag = true → sumTo n lab < sumTo n lab0
  eq : ag = false → lab = lab0 ∧ ∀ x y, (x < a ∧ y < n ∨ x = a ∧ y < b) → good n I t lab x y
theorem LabPass.start {n : Nat} {I : Nat → Bool} {r : Int → Int → Bool} {t : Nat → Nat → Bool} {lab : Nat → Nat} (h : LabOk n I r lab) : LabPass n I r t lab lab false 0 0 := ⟨h, (fun e => by cases e), fun _ => ⟨rfl, fun x y h => by omega⟩⟩
theorem LabPass.push {n : Nat} {I : Nat → Bool} {r : Int → Int → Bool} {t : Nat → Nat → Bool} {lab0 lab : Nat → Nat} {ag : Bool} {p q x y : Nat} (h : LabPass n I r t lab0 lab ag p q) (hx : x < n) (hy : y < n) (ix : I x = true) (iy : I y = true) (hlt : lab x < lab y) (hr : r x y = true ∨ r y x = true) (p' q' : Nat) : LabPass n I r t lab0 (upd lab y (lab x)) true p' q' := by
  refine ⟨h.ok.push hx hy ix iy hlt hr, fun _ => ?_, fun e => by cases e⟩
  have h1 := sum_upd_lt (n := n) hy hlt
  cases ag with
  | true => have := h.les rfl; omega
  | false => rw [← (h.eq rfl).1]; exact h1
theorem LabPass.on {n : Nat} {I : Nat → Bool} {r : Int → Int → Bool} {t : Nat → Nat → Bool} {lab0 lab : Nat → Nat} {ag : Bool} {a b : Nat} (h : LabPass n I r t lab0 lab ag a b) (hg : ag = false → good n I t lab a b) : LabPass n I r t lab0 lab ag a (b + 1) := ⟨h.ok, h.les, fun e => ⟨(h.eq e).1, fun x y hxy => by
  by_cases e2 : x = a ∧ y = b
  · obtain ⟨rfl, rfl⟩ := e2; exact hg e
  · exact (h.eq e).2 x y (by omega)⟩⟩
theorem LabPass.row {n : Nat} {I : Nat → Bool} {r : Int → Int → Bool} {t : Nat → Nat → Bool} {lab0 lab : Nat → Nat} {ag : Bool} {a : Nat} (h : LabPass n I r t lab0 lab ag a n) : LabPass n I r t lab0 lab ag (a + 1) 0 := ⟨h.ok, h.les, fun e => ⟨(h.eq e).1, fun x y hxy => (h.eq e).2 x y (by omega)⟩⟩
structure Fix (n : Nat) (I : Nat → Bool) (r : Int → Int → Bool) (t : Nat → Nat → Bool) (lab : Nat → Nat) : Prop where
  ok : LabOk n I r lab
  st : ∀ x y, x < n → y < n → good n I t lab x y
def cls (n : Nat) (I : Nat → Bool) (lab : Nat → Nat) (c : Nat) : List Int := ((List.range n).map fun i : Nat => (i : Int)).filter fun x => I x.toNat && (lab x.toNat == c)
theorem cls_mem {n : Nat} {I : Nat → Bool} {lab : Nat → Nat} {c : Nat} {x : Int} : x ∈ cls n I lab c ↔ ∃ i : Nat, i < n ∧ I i = true ∧ lab i = c ∧ x = i := by
  unfold cls
  rw [List.mem_filter, List.mem_map]
  constructor
  · rintro ⟨⟨i, hi, rfl⟩, h2⟩
    simp at h2
    exact ⟨i, List.mem_range.1 hi, h2.1, h2.2, rfl⟩
  · rintro ⟨i, h1, h2, h3, rfl⟩
    exact ⟨⟨i, List.mem_range.2 h1, rfl⟩, by simp [h2, h3]⟩
theorem range_asc (n : Nat) : ((List.range n).map fun i : Nat => (i : Int)).Pairwise (· < ·) := by
  rw [List.pairwise_map]
  exact List.pairwise_lt_range.imp fun h => by omega
theorem cls_asc (n : Nat) (I : Nat → Bool) (lab : Nat → Nat) (c : Nat) : (cls n I lab c).Pairwise (· < ·) := (range_asc n).filter _
theorem Fix.const {n : Nat} {I : Nat → Bool} {r : Int → Int → Bool} {t : Nat → Nat → Bool} {lab : Nat → Nat} (h : Fix n I r t lab) (ht : ∀ a b : Nat, a < n → b < n → I a = true → I b = true → a ≠ b → (r a b = true ∨ r b a = true) → t a b = true) {a b : Nat} (hc : Conn (marked n I) r a b) : lab b = lab a := by
  have := hc (fun z => lab z.toNat = lab a) (fun x y hx hy hr hz => by
    obtain ⟨i, hi, Ii, rfl⟩ := marked_mem.1 hx
    obtain ⟨j, hj, Ij, rfl⟩ := marked_mem.1 hy
    rw [Int.toNat_natCast] at hz ⊢
    by_cases e : i = j
    · rw [← e]; exact hz
    · rw [← h.st i j hi hj e Ii Ij (ht i j hi hj Ii Ij e hr)]; exact hz) (by rw [Int.toNat_natCast])
  rw [Int.toNat_natCast] at this
  exact this
theorem Fix.own {n : Nat} {I : Nat → Bool} {r : Int → Int → Bool} {t : Nat → Nat → Bool} {lab : Nat → Nat} (h : Fix n I r t lab) (ht : ∀ a b : Nat, a < n → b < n → I a = true → I b = true → a ≠ b → (r a b = true ∨ r b a = true) → t a b = true) {c : Nat} (hc : cls n I lab c ≠ []) : headI (cls n I lab c) = c := by
  obtain ⟨i, hi, Ii, hl, hx⟩ := cls_mem.1 (headI_mem hc)
  have hle := h.ok.le i hi
  have h1 := h.const ht (h.ok.conn i hi Ii)
  have h2 := h.ok.inn i hi Ii
  rw [hl] at h1 h2 hle
  have hcm : (c : Int) ∈ cls n I lab c := cls_mem.2 ⟨c, by omega, h2, by omega, rfl⟩
  have hasc := cls_asc n I lab c
  cases hd : cls n I lab c with
  | nil => exact absurd hd hc
  | cons y m =>
    rw [hd] at hcm hasc hx
    rw [List.pairwise_cons] at hasc
    show y = (c : Int)
    have hy : y = (i : Int) := hx
    rcases List.mem_cons.1 hcm with e | e
    · exact e.symm
    · have := hasc.1 _ e; omega
end Go.Cb

namespace Go.Cb
open Go.En
set_option linter.all false

theorem rel_ext {α : Type} {rel : α → α → Prop} : ∀ {l m : List α}, (∀ a ∈ l, ∀ b ∈ l, rel a b → ¬ rel b a) → l.Pairwise rel → m.Pairwise rel → (∀ c, c ∈ l ↔ c ∈ m) → l = m
  | [], [], _, _, _, _ => rfl
  | [], b :: m, _, _, _, h => by have := (h b).2 (by simp); simp at this
  | a :: l, [], _, _, _, h => by have := (h a).1 (by simp); simp at this
  | a :: l, b :: m, ha, hl, hm, h => by
    rw [List.pairwise_cons] at hl hm
    have hab : a = b := by
      have h1 := (h a).1 (by simp)
      have h2 := (h b).2 (by simp)
      rcases List.mem_cons.1 h1 with e | e
      · exact e
      · rcases List.mem_cons.1 h2 with e2 | e2
        · exact e2.symm
        · exact absurd (hm.1 a e) (ha a (by simp) b h2 (hl.1 b e2))
    subst hab
    have hirr : ¬ rel a a := fun hr => ha a (by simp) a (by simp) hr hr
    rw [rel_ext (fun x hx y hy => ha x (by simp [hx]) y (by simp [hy])) hl.2 hm.2 fun x => ?_]
    constructor
    · intro hx
      rcases List.mem_cons.1 ((h x).1 (by simp [hx])) with e | e
      · subst e; exact absurd (hl.1 _ hx) hirr
      · exact e
    · intro hx
      rcases List.mem_cons.1 ((h x).2 (by simp [hx])) with e | e
      · subst e; exact absurd (hm.1 _ hx) hirr
      · exact e
theorem LabPass.less {n : Nat} {I : Nat → Bool} {r : Int → Int → Bool} {t : Nat → Nat → Bool} {lab0 lab : Nat → Nat} {ag : Bool} {a b : Nat} (h : LabPass n I r t lab0 lab ag a b) : sumTo n lab + (if ag then 1 else 0) < sumTo n lab0 + (if true then 1 else 0) := by
  cases hg : ag with
  | true => have := h.les hg; simp; omega
  | false => rw [(h.eq hg).1]; simp
end Go.Cb
