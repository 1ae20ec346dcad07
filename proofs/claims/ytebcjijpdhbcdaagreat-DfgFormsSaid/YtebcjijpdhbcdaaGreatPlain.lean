/-
  The plain functions that the walks of names and words come to. No program in sight.
  Plain functions, more: variants added to a list in order. No program in sight.
  Plain functions, more: a word is cut into pieces (the reference's way). No program in sight.
  Plain functions, more: a word is split by a cut (the reference's way). No program in sight.
  Plain functions, more: variants are split by a cut (the reference's way), and bounds on what comes out. No program in sight.
  Plain functions, more: the parts of a cut as a map. No program in sight.
  Plain functions, more: a word is split by a cut, as the program does it. No program in sight.
  Plain functions, more: pieces whose parts are told at the end. No program in sight.
-/
import Derived.Test.YtebcjijpdhbcdaaGreatBase
namespace Go.Cb

def letterB (c : Int) : Bool := (decide (65 ≤ c) && decide (c ≤ 90)) || (decide (97 ≤ c) && decide (c ≤ 122))
def partB (c : Int) : Bool := letterB c || (decide (48 ≤ c) && decide (c ≤ 57)) || c == 95 || c == 45 || c == 46
def isName (s : ByteArray) : Bool := decide (1 ≤ s.size) && decide (s.size ≤ 40) && letterB (s.data[0]?.getD 0).toNat && s.data.toList.all fun c => partB c.toNat
def strLt (a b : ByteArray) : Bool := Op.bytesLess a.toList b.toList
def strEq (a b : ByteArray) : Bool := a.toList == b.toList
def cmpStr (a b : ByteArray) : Int := if strLt a b then -1 else if strEq a b then 0 else 1
def cmpStrs : List ByteArray → List ByteArray → Int
  | [], [] => 0
  | [], _ :: _ => -1
  | _ :: _, [] => 1
  | a :: l, b :: m => if cmpStr a b = 0 then cmpStrs l m else cmpStr a b
theorem drop_at {α : Type} {l : List α} {k : Nat} {x : α} (h : l[k]? = some x) : l.drop k = x :: l.drop (k + 1) := by
  obtain ⟨hk, rfl⟩ := List.getElem?_eq_some_iff.1 h
  exact List.drop_eq_getElem_cons hk
def okVar (x : Var) : Bool := decide (x.acts.length ≤ 200) && x.acts.all isName && decide (1 ≤ x.count) && decide (x.count ≤ 1048576)
def stepOk (l : List Var) (i : Nat) : Bool := match l[i]? with
  | none => true
  | some x => okVar x && (decide (i = 0) || match l[i - 1]? with
    | none => true
    | some y => decide (cmpStrs y.acts x.acts < 0))
def validVars (l : List Var) : Bool := decide (l.length ≤ 300) && (List.range l.length).all (stepOk l)
theorem stepOk_zero {l : List Var} {x : Var} (h : l[0]? = some x) : stepOk l 0 = okVar x := by simp [stepOk, h]
theorem stepOk_pos {l : List Var} {k : Nat} {x y : Var} (h : l[k]? = some x) (hy : l[k - 1]? = some y) (hk : 0 < k) : stepOk l k = (okVar x && decide (cmpStrs y.acts x.acts < 0)) := by
  have : decide (k = 0) = false := by simp; omega
  simp [stepOk, h, hy, this]
theorem validVars_stop {l : List Var} {k : Nat} (hk : k < l.length) (h : stepOk l k = false) : validVars l = false := by
  unfold validVars
  rw [Bool.and_eq_false_iff]; right
  rw [List.all_eq_false]
  exact ⟨k, List.mem_range.2 hk, by rw [h]; simp⟩
theorem validVars_end {l : List Var} (h3 : l.length ≤ 300) (h : ∀ j, j < l.length → stepOk l j = true) : validVars l = true := by
  unfold validVars
  rw [Bool.and_eq_true]
  exact ⟨by simpa using h3, by rw [List.all_eq_true]; exact fun j hj => h j (List.mem_range.1 hj)⟩

def chainB {α : Type} (r : α → α → Bool) : List α → Bool
  | a :: b :: l => r a b && chainB r (b :: l)
  | _ => true
theorem chainB_iff {α : Type} (r : α → α → Bool) : ∀ l : List α, chainB r l = true ↔ ∀ i x y, l[i]? = some x → l[i + 1]? = some y → r x y = true
  | [] => by simp [chainB]
  | [a] => by simp [chainB]
  | a :: b :: l => by
    rw [chainB, Bool.and_eq_true, chainB_iff r (b :: l)]
    constructor
    · rintro ⟨h1, h2⟩ i x y hx hy
      cases i with
      | zero => simp at hx hy; subst hx hy; exact h1
      | succ i => exact h2 i x y (by simpa using hx) (by simpa using hy)
    · intro h
      exact ⟨h 0 a b rfl rfl, fun i x y hx hy => h (i + 1) x y (by simpa using hx) (by simpa using hy)⟩
theorem chainB_stop {α : Type} {r : α → α → Bool} {l : List α} {k : Nat} {x y : α} (hk : 1 ≤ k) (hy : l[k - 1]? = some y) (hx : l[k]? = some x) (h : r y x = false) : chainB r l = false := by
  cases hc : chainB r l
  · rfl
  · have := (chainB_iff r l).1 hc (k - 1) y x hy (by rw [Nat.sub_add_cancel hk]; exact hx)
    rw [h] at this; cases this
theorem chainB_end {α : Type} {r : α → α → Bool} {l : List α} (h : ∀ j x y, 1 ≤ j → l[j - 1]? = some y → l[j]? = some x → r y x = true) : chainB r l = true :=
  (chainB_iff r l).2 fun i x y hx hy => h (i + 1) y x (by omega) hx hy

def all2 {α β : Type} (r : α → β → Bool) : List α → List β → Bool
  | [], [] => true
  | x :: l, y :: m => r x y && all2 r l m
  | _, _ => false
theorem all2_len {α β : Type} {r : α → β → Bool} : ∀ {l : List α} {m : List β}, all2 r l m = true → l.length = m.length
  | [], [], _ => rfl
  | x :: l, y :: m, h => by
    rw [all2, Bool.and_eq_true] at h
    simp [all2_len h.2]
  | [], _ :: _, h => by simp [all2] at h
  | _ :: _, [], h => by simp [all2] at h

def hasStr (p : List ByteArray) (s : ByteArray) : Bool := p.any fun x => strEq x s
theorem idx_bd {α : Type} (p : α → Bool) (l : List α) : -1 ≤ idx p l ∧ idx p l < l.length := by
  unfold idx
  cases h : l.findIdx? p with
  | none => simp; omega
  | some i => rw [List.findIdx?_eq_some_iff_getElem] at h; obtain ⟨hi, _⟩ := h; simp; omega
theorem take_snoc {α : Type} {l : List α} {k : Nat} {x : α} (h : l[k]? = some x) : l.take (k + 1) = l.take k ++ [x] := by
  obtain ⟨hk, rfl⟩ := List.getElem?_eq_some_iff.1 h
  rw [List.take_succ_eq_append_getElem hk]
end Go.Cb

namespace Go.Cb

end Go.Cb

namespace Go.Cb

end Go.Cb

namespace Go.Cb

def addAt (ps : List Piece) (i : Nat) (s : ByteArray) : List Piece := match ps[i]? with
  | some q => ps.set i ⟨q.part, q.word ++ [s]⟩
  | none => ps
end Go.Cb

namespace Go.Cb

theorem validVars_at {l : List Var} {k : Nat} {x : Var} (h : validVars l = true) (hx : l[k]? = some x) : okVar x = true := by
  unfold validVars at h
  rw [Bool.and_eq_true, List.all_eq_true] at h
  have hk := (List.getElem?_eq_some_iff.1 hx).1
  have := h.2 k (List.mem_range.2 hk)
  simp only [stepOk, hx, Bool.and_eq_true] at this
  exact this.1
end Go.Cb

namespace Go.Cb
set_option linter.all false

theorem strEq_iff {a b : ByteArray} : strEq a b = true ↔ a = b := by
  unfold strEq
  rw [beq_iff_eq, ByteArray.toList_eq, ByteArray.toList_eq]
  exact ⟨fun h => WideShapes.bytes_inj h, fun h => by rw [h]⟩
end Go.Cb

namespace Go.Cb
set_option linter.all false

end Go.Cb

namespace Go.Cb
set_option linter.all false

def InPlace (ps : List Piece) : Prop := ∀ (i : Nat) (q : Piece), ps[i]? = some q → q.part = (i : Int)
theorem InPlace.add {ps : List Piece} (h : InPlace ps) (i : Nat) (s : ByteArray) : InPlace (addAt ps i s) := fun j q hq => by
  unfold addAt at hq
  split at hq
  · rename_i p hp
    by_cases hji : j = i
    · subst hji
      have hl := (List.getElem?_eq_some_iff.1 hp).1
      rw [List.getElem?_set_self hl] at hq
      cases hq
      exact h j p hp
    · rw [List.getElem?_set_ne (Ne.symm hji)] at hq
      exact h j q hq
  · exact h j q hq
end Go.Cb
