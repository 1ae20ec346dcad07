/-
  The plain functions that the walks of names and words come to. No program in sight.
  Plain functions, more: variants added to a list in order. No program in sight.
  Plain functions, more: a word is cut into pieces (the reference's way). No program in sight.
  Plain functions, more: a word is split by a cut (the reference's way). No program in sight.
  Plain functions, more: variants are split by a cut (the reference's way), and bounds on what comes out. No program in sight.
  Plain functions, more: the parts of a cut as a map. No program in sight.
  Plain functions, more: a word is split by a cut, as the program does it. No program in sight.
  Plain functions, more: pieces whose parts are told at the end. No program in sight.
-/
import Derived.Test.YtoanjgpdepaciaaGreatBase
namespace Go.Cb

def letterB (c : Int) : Bool := (decide (65 ≤ c) && decide (c ≤ 90)) || (decide (97 ≤ c) && decide (c ≤ 122))
def partB (c : Int) : Bool := letterB c || (decide (48 ≤ c) && decide (c ≤ 57)) || c == 95 || c == 45 || c == 46
def isName (s : ByteArray) : Bool := decide (1 ≤ s.size) && decide (s.size ≤ 40) && letterB (s.data[0]?.getD 0).toNat && s.data.toList.all fun c => partB c.toNat
def strLt (a b : ByteArray) : Bool := Op.bytesLess a.toList b.toList
def strEq (a b : ByteArray) : Bool := a.toList == b.toList
def cmpStr (a b : ByteArray) : Int := if strLt a b then -1 else if strEq a b then 0 else 1
def cmpStrs : List ByteArray → List ByteArray → Int
  | [], [] => 0
  | [], _ :: _ => -1
  | _ :: _, [] => 1
  | a :: l, b :: m => if cmpStr a b = 0 then cmpStrs l m else cmpStr a b
theorem drop_at {α : Type} {l : List α} {k : Nat} {x : α} (h : l[k]? = some x) : l.drop k = x :: l.drop (k + 1) := by
  obtain ⟨hk, rfl⟩ := List.getElem?_eq_some_iff.1 h
  exact List.drop_eq_getElem_cons hk
def okVar (x : Var) : Bool := decide (x.acts.length ≤ 200) && x.acts.all isName && decide (1 ≤ x.count) && decide (x.count ≤ 1048576)
def stepOk (l : List Var) (i : Nat) : Bool := match l[i]? with
  | none => true
  | some x => okVar x && (decide (i = 0) || match l[i - 1]? with
    | none => true
    | some y => decide (cmpStrs y.acts x.acts < 0))
def validVars (l : List Var) : Bool := decide (l.length ≤ 300) && (List.range l.length).all (stepOk l)
theorem stepOk_zero {l : List Var} {x : Var} (h : l[0]? = some x) : stepOk l 0 = okVar x := by simp [stepOk, h]
theorem stepOk_pos {l : List Var} {k : Nat} {x y : Var} (h : l[k]? = some x) (hy : l[k - 1]? = some y) (hk : 0 < k) : stepOk l k = (okVar x && decide (cmpStrs y.acts x.acts < 0)) := by
  have : decide (k = 0) = false := by simp; omega
  simp [stepOk, h, hy, this]
theorem validVars_stop {l : List Var} {k : Nat} (hk : k < l.length) (h : stepOk l k = false) : validVars l = false := by
  unfold validVars
  rw [Bool.and_eq_false_iff]; right
  rw [List.all_eq_false]
  exact ⟨k, List.mem_range.2 hk, by rw [h]; simp⟩
theorem validVars_end {l : List Var} (h3 : l.length ≤ 300) (h : ∀ j, j < l.length → stepOk l j = true) : validVars l = true := by
  unfold validVars
  rw [Bool.and_eq_true]
  exact ⟨by simpa using h3, by rw [List.all_eq_true]; exact fun j hj => h j (List.mem_range.1 hj)⟩

def chainB {α : Type} (r : α → α → Bool) : List α → Bool
  | a :: b :: l => r a b && chainB r (b :: l)
  | _ => true
theorem chainB_iff {α : Type} (r : α → α → Bool) : ∀ l : List α, chainB r l = true ↔ ∀ i x y, l[i]? = some x → l[i + 1]? = some y → r x y = true
  | [] => by simp [chainB]
  | [a] => by simp [chainB]
  | a :: b :: l => by
    rw [chainB, Bool.and_eq_true, chainB_iff r (b :: l)]
    constructor
    · rintro ⟨h1, h2⟩ i x y hx hy
      cases i with
      | zero => simp at hx hy; subst hx hy; exact h1
      | succ i => exact h2 i x y (by simpa using hx) (by simpa using hy)
    · intro h
      exact ⟨h 0 a b rfl rfl, fun i x y hx hy => h (i + 1) x y (by simpa using hx) (by simpa using hy)⟩
theorem chainB_stop {α : Type} {r : α → α → Bool} {l : List α} {k : Nat} {x y : α} (hk : 1 ≤ k) (hy : l[k - 1]? = some y) (hx : l[k]? = some x) (h : r y x = false) : chainB r l = false := by
  cases hc : chainB r l
  · rfl
  · have := (chainB_iff r l).1 hc (k - 1) y x hy (by rw [Nat.sub_add_cancel hk]; exact hx)
    rw [h] at this; cases this
theorem chainB_end {α : Type} {r : α → α → Bool} {l : List α} (h : ∀ j x y, 1 ≤ j → l[j - 1]? = some y → l[j]? = some x → r y x = true) : chainB r l = true :=
  (chainB_iff r l).2 fun i x y hx hy => h (i + 1) y x (by omega) hx hy

def all2 {α β : Type} (r : α → β → Bool) : List α → List β → Bool
  | [], [] => true
  | x :: l, y :: m => r x y && all2 r l m
  | _, _ => false
theorem all2_len {α β : Type} {r : α → β → Bool} : ∀ {l : List α} {m : List β}, all2 r l m = true → l.length = m.length
  | [], [], _ => rfl
  | x :: l, y :: m, h => by
    rw [all2, Bool.and_eq_true] at h
    simp [all2_len h.2]
  | [], _ :: _, h => by simp [all2] at h
  | _ :: _, [], h => by simp [all2] at h

def hasStr (p : List ByteArray) (s : ByteArray) : Bool := p.any fun x => strEq x s
def partOf (parts : List (List ByteArray)) (s : ByteArray) : Int := idx (fun p => hasStr p s) parts
theorem idx_bd {α : Type} (p : α → Bool) (l : List α) : -1 ≤ idx p l ∧ idx p l < l.length := by
  unfold idx
  cases h : l.findIdx? p with
  | none => simp; omega
  | some i => rw [List.findIdx?_eq_some_iff_getElem] at h; obtain ⟨hi, _⟩ := h; simp; omega
def sameVar (x y : Var) : Bool := x.count == y.count && decide (cmpStrs x.acts y.acts = 0)
def sameVars : List Var → List Var → Bool
  | [], [] => true
  | x :: l, y :: m => sameVar x y && sameVars l m
  | _, _ => false
theorem sameVars_len : ∀ {l m : List Var}, sameVars l m = true → l.length = m.length
  | [], [], _ => rfl
  | x :: l, y :: m, h => by
    rw [sameVars, Bool.and_eq_true] at h
    simp [sameVars_len h.2]
  | [], _ :: _, h => by simp [sameVars] at h
  | _ :: _, [], h => by simp [sameVars] at h
theorem sameVars_drop {l m : List Var} {k : Nat} {x y : Var} (hx : l[k]? = some x) (hy : m[k]? = some y) : sameVars (l.drop k) (m.drop k) = (sameVar x y && sameVars (l.drop (k + 1)) (m.drop (k + 1))) := by
  rw [drop_at hx, drop_at hy, sameVars]

def freshB : List ByteArray → List ByteArray → Bool
  | _, [] => true
  | seen, s :: l => !hasStr seen s && freshB (seen ++ [s]) l
def partOk (l : List ByteArray) : Bool := !l.isEmpty && l.all isName && chainB strLt l
def formedGo : List ByteArray → List (List ByteArray) → Bool
  | _, [] => true
  | seen, l :: ps => partOk l && freshB seen l && formedGo (seen ++ l) ps
def formedB (c : Cut) : Bool := decide (1 ≤ c.kind) && decide (c.kind ≤ 4) && decide (2 ≤ c.parts.length) && formedGo [] c.parts
theorem take_snoc {α : Type} {l : List α} {k : Nat} {x : α} (h : l[k]? = some x) : l.take (k + 1) = l.take k ++ [x] := by
  obtain ⟨hk, rfl⟩ := List.getElem?_eq_some_iff.1 h
  rw [List.take_succ_eq_append_getElem hk]
theorem flat_snoc {l : List (List ByteArray)} {k : Nat} {p : List ByteArray} (h : l[k]? = some p) : (l.take (k + 1)).flatten = (l.take k).flatten ++ p := by
  rw [take_snoc h]; simp
end Go.Cb

namespace Go.Cb

def addVar : List Var → List ByteArray → Int → List Var
  | [], w, n => [⟨w, n⟩]
  | x :: l, w, n => if cmpStrs x.acts w < 0 then x :: addVar l w n else if cmpStrs x.acts w = 0 then ⟨w, x.count + n⟩ :: l else ⟨w, n⟩ :: x :: l
end Go.Cb

namespace Go.Cb

def pieceStep (parts : List (List ByteArray)) (ps : List Piece) (s : ByteArray) : Option (List Piece) :=
  match ps[ps.length - 1]? with
  | none => some [⟨partOf parts s, [s]⟩]
  | some q => if q.part = partOf parts s then some (ps.set (ps.length - 1) ⟨q.part, q.word ++ [s]⟩)
    else if partOf parts s ≠ 0 ∧ q.part ≠ 0 then none else some (ps ++ [⟨partOf parts s, [s]⟩])
def piecesGo (parts : List (List ByteArray)) : List Piece → List ByteArray → Option (List Piece)
  | ps, [] => some ps
  | ps, s :: l => match pieceStep parts ps s with
    | none => none
    | some ps' => piecesGo parts ps' l
def endsB (ps : List Piece) : Bool := match ps[0]?, ps[ps.length - 1]? with
  | some p, some q => p.part == 0 && q.part == 0
  | _, _ => false
def piecesOf (parts : List (List ByteArray)) (w : List ByteArray) : Option (List Piece) :=
  if w = [] then some [⟨0, []⟩] else match piecesGo parts [] w with
    | none => none
    | some ps => if endsB ps then some ps else none
end Go.Cb

namespace Go.Cb

def addAt (ps : List Piece) (i : Nat) (s : ByteArray) : List Piece := match ps[i]? with
  | some q => ps.set i ⟨q.part, q.word ++ [s]⟩
  | none => ps
def badAt (kind : Int) (first : Bool) (p last : Int) : Bool := (kind == 2 && decide (p < last)) || (kind == 1 && !first && p != last)
def splitGo (kind : Int) (parts : List (List ByteArray)) : Bool → Int → List Piece → List ByteArray → Option (List Piece × Int)
  | _, last, ps, [] => some (ps, last)
  | first, last, ps, s :: l => if badAt kind first (partOf parts s) last then none else splitGo kind parts false (partOf parts s) (addAt ps (partOf parts s).toNat s) l
def initPs (n : Nat) : List Piece := (List.range n).map fun (i : Nat) => (⟨(i : Int), []⟩ : Piece)
def splitOf (c : Cut) (ws : List ByteArray) : Option (List Piece) :=
  if c.kind = 4 then piecesOf c.parts ws else match splitGo c.kind c.parts true 0 (initPs c.parts.length) ws with
    | none => none
    | some (ps, last) => if c.kind = 1 then (if ws = [] then none else some ((ps.drop last.toNat).take 1)) else some ps
theorem addAt_len (ps : List Piece) (i : Nat) (s : ByteArray) : (addAt ps i s).length = ps.length := by
  unfold addAt; split <;> simp
theorem addAt_some {ps : List Piece} {i : Nat} {s : ByteArray} {q : Piece} (h : ps[i]? = some q) : addAt ps i s = ps.set i ⟨q.part, q.word ++ [s]⟩ := by
  unfold addAt; rw [h]
theorem initPs_len (n : Nat) : (initPs n).length = n := by simp [initPs]
theorem initPs_word {n : Nat} {p : Piece} (h : p ∈ initPs n) : p.word = [] := by
  simp [initPs] at h
  obtain ⟨i, _, rfl⟩ := h
  rfl
end Go.Cb

namespace Go.Cb

def inParts (parts : List (List ByteArray)) (l : List Var) : Bool := l.all fun x => x.acts.all fun s => decide (0 ≤ partOf parts s)
def putPiece (cnt : Int) (out : List (List Var)) (p : Piece) : List (List Var) := match out[p.part.toNat]? with
  | some r => out.set p.part.toNat (addVar r p.word cnt)
  | none => out
def splitAll (c : Cut) : List (List Var) → List Var → Option (List (List Var))
  | out, [] => some out
  | out, x :: l => match splitOf c x.acts with
    | none => none
    | some ps => splitAll c (ps.foldl (putPiece x.count) out) l
def bigVars (r : List Var) : Bool := r.any fun x => decide (1048576 < x.count)
def manyVars (r : List Var) : Bool := decide (300 < r.length)
def splitR (l : List Var) (c : Cut) : List (List Var) × Int :=
  if (validVars l && formedB c) = false then ([], 1) else if inParts c.parts l = false then ([], 8) else match splitAll c (List.replicate c.parts.length []) l with
    | none => ([], 19)
    | some out => if out.any bigVars then ([], 6) else if out.any manyVars then ([], 5) else (out, 0)

def PsOk (n m : Nat) (ps : List Piece) : Prop := ps.length ≤ m ∧ ∀ p ∈ ps, 0 ≤ p.part ∧ p.part < n
theorem partOf_lt (parts : List (List ByteArray)) (s : ByteArray) : partOf parts s < parts.length := (idx_bd _ _).2
theorem pieceStep_ok {parts : List (List ByteArray)} {ps ps' : List Piece} {s : ByteArray} {m : Nat} (h : PsOk parts.length m ps) (hs : 0 ≤ partOf parts s) (he : pieceStep parts ps s = some ps') : PsOk parts.length (m + 1) ps' := by
  unfold pieceStep at he
  have hlt := partOf_lt parts s
  split at he
  · cases he
    exact ⟨by simp, fun p hp => by simp at hp; subst hp; exact ⟨hs, hlt⟩⟩
  · rename_i q hq
    have hqm := h.2 q (List.mem_of_getElem? hq)
    split at he
    · cases he
      refine ⟨by simp; have := h.1; omega, fun p hp => ?_⟩
      rcases List.mem_or_eq_of_mem_set hp with h1 | h1
      · exact h.2 p h1
      · rw [h1]; exact hqm
    · split at he
      · cases he
      · cases he
        refine ⟨by simp; have := h.1; omega, fun p hp => ?_⟩
        rcases List.mem_append.1 hp with h1 | h1
        · exact h.2 p h1
        · simp at h1; subst h1; exact ⟨hs, hlt⟩
theorem piecesGo_ok {parts : List (List ByteArray)} : ∀ {ws : List ByteArray} {ps ps' : List Piece} {m : Nat}, PsOk parts.length m ps → (∀ s ∈ ws, 0 ≤ partOf parts s) → piecesGo parts ps ws = some ps' → PsOk parts.length (m + ws.length) ps'
  | [], ps, ps', m, h, _, he => by simp [piecesGo] at he; subst he; simpa using h
  | s :: l, ps, ps', m, h, hs, he => by
    rw [piecesGo] at he
    cases hst : pieceStep parts ps s with
    | none => rw [hst] at he; cases he
    | some ps1 =>
      rw [hst] at he
      have := piecesGo_ok (pieceStep_ok h (hs s (by simp)) hst) (fun x hx => hs x (by simp [hx])) he
      refine ⟨by have := this.1; simp at *; omega, this.2⟩
theorem piecesOf_ok {parts : List (List ByteArray)} {ws : List ByteArray} {ps : List Piece} (hn : 0 < parts.length) (hs : ∀ s ∈ ws, 0 ≤ partOf parts s) (he : piecesOf parts ws = some ps) : PsOk parts.length (ws.length + 1) ps := by
  unfold piecesOf at he
  split at he
  · cases he
    exact ⟨by simp, fun p hp => by simp at hp; subst hp; exact ⟨by simp, by simp; omega⟩⟩
  · cases hg : piecesGo parts [] ws with
    | none => rw [hg] at he; cases he
    | some ps1 =>
      rw [hg] at he
      simp only [] at he
      split at he
      · cases he
        have := piecesGo_ok (m := 0) ⟨by simp, fun p hp => by simp at hp⟩ hs hg
        exact ⟨by have := this.1; omega, this.2⟩
      · cases he
theorem addAt_ok {n m i : Nat} {ps : List Piece} {s : ByteArray} (h : PsOk n m ps) : PsOk n m (addAt ps i s) := by
  unfold addAt
  split
  · rename_i q hq
    have hqm := h.2 q (List.mem_of_getElem? hq)
    refine ⟨by simp; exact h.1, fun p hp => ?_⟩
    rcases List.mem_or_eq_of_mem_set hp with h1 | h1
    · exact h.2 p h1
    · rw [h1]; exact hqm
  · exact h
theorem splitGo_ok {kind : Int} {parts : List (List ByteArray)} {n m : Nat} : ∀ {ws : List ByteArray} {first : Bool} {last : Int} {ps : List Piece} {r : List Piece × Int}, PsOk n m ps → splitGo kind parts first last ps ws = some r → PsOk n m r.1
  | [], _, _, ps, r, h, he => by simp [splitGo] at he; subst he; exact h
  | s :: l, first, last, ps, r, h, he => by
    rw [splitGo] at he
    split at he
    · cases he
    · exact splitGo_ok (addAt_ok h) he
theorem initPs_ok (n : Nat) : PsOk n n (initPs n) := by
  refine ⟨by rw [initPs_len]; omega, fun p hp => ?_⟩
  simp [initPs] at hp
  obtain ⟨i, hi, rfl⟩ := hp
  exact ⟨by simp, by simp; omega⟩
theorem splitOf_ok {c : Cut} {ws : List ByteArray} {ps : List Piece} (hn : 0 < c.parts.length) (hs : ∀ s ∈ ws, 0 ≤ partOf c.parts s) (he : splitOf c ws = some ps) : PsOk c.parts.length (ws.length + c.parts.length + 1) ps := by
  unfold splitOf at he
  split at he
  · have := piecesOf_ok hn hs he
    exact ⟨by have := this.1; omega, this.2⟩
  · cases hg : splitGo c.kind c.parts true 0 (initPs c.parts.length) ws with
    | none => rw [hg] at he; cases he
    | some r =>
      rw [hg] at he
      have hok := splitGo_ok (initPs_ok c.parts.length) hg
      obtain ⟨r1, r2⟩ := r
      simp only [] at he
      split at he
      · split at he
        · cases he
        · cases he
          exact ⟨by simp; omega, fun p hp => hok.2 p (List.mem_of_mem_drop (List.mem_of_mem_take hp))⟩
      · cases he
        exact ⟨by have := hok.1; simp at this; omega, hok.2⟩

def RowsOk (m : Nat) (out : List (List Var)) : Prop := ∀ r ∈ out, r.length ≤ m ∧ ∀ x ∈ r, 0 ≤ x.count ∧ x.count ≤ (m : Int) * 1048576
theorem addVar_ok {m : Nat} {w : List ByteArray} {n : Int} (hn0 : 0 ≤ n) (hn1 : n ≤ 1048576) : ∀ {r : List Var}, (r.length ≤ m ∧ ∀ x ∈ r, 0 ≤ x.count ∧ x.count ≤ (m : Int) * 1048576) → (addVar r w n).length ≤ r.length + 1 ∧ ∀ x ∈ addVar r w n, 0 ≤ x.count ∧ x.count ≤ ((m + 1 : Nat) : Int) * 1048576
  | [], h => by
    refine ⟨by simp [addVar], fun x hx => ?_⟩
    simp [addVar] at hx
    subst hx
    exact ⟨hn0, by simp; omega⟩
  | y :: r, h => by
    have hy := h.2 y (by simp)
    have hr : ∀ x ∈ r, 0 ≤ x.count ∧ x.count ≤ ((m + 1 : Nat) : Int) * 1048576 := fun x hx => by have := h.2 x (by simp [hx]); omega
    rw [addVar]
    split
    · have := addVar_ok (m := m) (w := w) (n := n) hn0 hn1 (r := r) ⟨by have := h.1; simp at this; omega, fun x hx => h.2 x (by simp [hx])⟩
      refine ⟨by have := this.1; simp; omega, fun x hx => ?_⟩
      rcases List.mem_cons.1 hx with rfl | hx
      · omega
      · exact this.2 x hx
    · split
      · refine ⟨by simp, fun x hx => ?_⟩
        rcases List.mem_cons.1 hx with rfl | hx
        · exact ⟨by simp; omega, by simp; omega⟩
        · exact hr x hx
      · refine ⟨by simp, fun x hx => ?_⟩
        rcases List.mem_cons.1 hx with rfl | hx
        · exact ⟨hn0, by simp; omega⟩
        · rcases List.mem_cons.1 hx with rfl | hx
          · omega
          · exact hr x hx
theorem putPiece_ok {m : Nat} {n : Int} {out : List (List Var)} {p : Piece} (hn0 : 0 ≤ n) (hn1 : n ≤ 1048576) (h : RowsOk m out) : RowsOk (m + 1) (putPiece n out p) := by
  unfold putPiece
  have hup : RowsOk (m + 1) out := fun r hr => ⟨by have := (h r hr).1; omega, fun x hx => by have := (h r hr).2 x hx; omega⟩
  split
  · rename_i r hr
    intro r' hr'
    rcases List.mem_or_eq_of_mem_set hr' with h1 | h1
    · exact hup r' h1
    · rw [h1]
      have hrm := h r (List.mem_of_getElem? hr)
      have := addVar_ok (w := p.word) hn0 hn1 hrm
      exact ⟨by have := this.1; omega, this.2⟩
  · exact hup
theorem putPiece_len (n : Int) (out : List (List Var)) (p : Piece) : (putPiece n out p).length = out.length := by
  unfold putPiece; split <;> simp
theorem rowsOk_rep (n : Nat) : RowsOk 0 (List.replicate n []) := fun r hr => by
  have := List.eq_of_mem_replicate hr
  subst this
  exact ⟨by simp, fun x hx => by simp at hx⟩
theorem validVars_at {l : List Var} {k : Nat} {x : Var} (h : validVars l = true) (hx : l[k]? = some x) : okVar x = true := by
  unfold validVars at h
  rw [Bool.and_eq_true, List.all_eq_true] at h
  have hk := (List.getElem?_eq_some_iff.1 hx).1
  have := h.2 k (List.mem_range.2 hk)
  simp only [stepOk, hx, Bool.and_eq_true] at this
  exact this.1
theorem okVar_count {x : Var} (h : okVar x = true) : 1 ≤ x.count ∧ x.count ≤ 1048576 := by
  simp [okVar] at h
  omega
end Go.Cb

namespace Go.Cb
set_option linter.all false

theorem strEq_iff {a b : ByteArray} : strEq a b = true ↔ a = b := by
  unfold strEq
  rw [beq_iff_eq, ByteArray.toList_eq, ByteArray.toList_eq]
  exact ⟨fun h => WideShapes.bytes_inj h, fun h => by rw [h]⟩
def partMap (parts : List (List ByteArray)) : ByteArray → Option Int := fun s => (parts.findIdx? fun p => hasStr p s).map fun (i : Nat) => (i : Int)
theorem partMap_isSome (parts : List (List ByteArray)) (s : ByteArray) : (partMap parts s).isSome = hasStr parts.flatten s := by
  unfold partMap
  rw [Option.isSome_map, List.findIdx?_isSome]
  unfold hasStr
  induction parts with
  | nil => rfl
  | cons p ps ih => rw [List.any_cons, List.flatten_cons, List.any_append, ih]
theorem partMap_of (parts : List (List ByteArray)) (s : ByteArray) : partOf parts s = (partMap parts s).getD (-1) := by
  unfold partMap partOf idx
  cases parts.findIdx? fun p => hasStr p s <;> rfl
theorem partMap_isSome' (parts : List (List ByteArray)) (s : ByteArray) : (partMap parts s).isSome = decide (0 ≤ partOf parts s) := by
  unfold partMap partOf idx
  cases h : parts.findIdx? fun p => hasStr p s <;> simp
theorem freshB_iff : ∀ (p seen : List ByteArray), freshB seen p = true ↔ ∀ k s, p[k]? = some s → hasStr (seen ++ p.take k) s = false
  | [], seen => by simp [freshB]
  | x :: p, seen => by
    rw [freshB, Bool.and_eq_true, freshB_iff p (seen ++ [x])]
    constructor
    · rintro ⟨h1, h2⟩ k s hk
      cases k with
      | zero => simp at hk; subst hk; simpa using h1
      | succ k => have := h2 k s (by simpa using hk); simpa using this
    · intro h
      refine ⟨by simpa using h 0 x rfl, fun k s hk => ?_⟩
      have := h (k + 1) s (by simpa using hk)
      simpa using this
def wordOk (seen p : List ByteArray) (k : Nat) (s : ByteArray) : Prop := hasStr (seen ++ p.take k) s = false ∧ isName s = true ∧ ∀ y, 1 ≤ k → p[k - 1]? = some y → strLt y s = true
theorem part_iff (p seen : List ByteArray) : (partOk p && freshB seen p) = true ↔ p ≠ [] ∧ ∀ k s, p[k]? = some s → wordOk seen p k s := by
  unfold partOk
  simp only [Bool.and_eq_true, freshB_iff]
  constructor
  · rintro ⟨⟨⟨h1, h2⟩, h3⟩, h4⟩
    refine ⟨by intro h; subst h; simp at h1, fun k s hs => ⟨h4 k s hs, List.all_eq_true.1 h2 s (List.mem_of_getElem? hs), fun y hk hy => ?_⟩⟩
    exact (chainB_iff _ _).1 h3 (k - 1) y s hy (by rw [Nat.sub_add_cancel hk]; exact hs)
  · rintro ⟨h1, h2⟩
    refine ⟨⟨⟨by cases p with | nil => exact absurd rfl h1 | cons => rfl, ?_⟩, ?_⟩, fun k s hs => (h2 k s hs).1⟩
    · rw [List.all_eq_true]
      intro s hs
      obtain ⟨i, hi, rfl⟩ := List.getElem_of_mem hs
      exact (h2 i _ (List.getElem?_eq_getElem hi)).2.1
    · exact chainB_end fun j x y h1 hy hx => (h2 j x hx).2.2 y h1 hy
theorem part_bad {p seen : List ByteArray} {k : Nat} {s : ByteArray} (hs : p[k]? = some s) (h : ¬ wordOk seen p k s) : (partOk p && freshB seen p) = false := by
  cases hc : (partOk p && freshB seen p)
  · rfl
  · exact absurd (((part_iff p seen).1 hc).2 k s hs) h
end Go.Cb

namespace Go.Cb
set_option linter.all false

theorem set_same {α : Type} {l : List α} {i : Nat} {x : α} (h : l[i]? = some x) : l.set i x = l := by
  obtain ⟨hi, rfl⟩ := List.getElem?_eq_some_iff.1 h
  exact List.set_getElem_self hi
theorem splitGo_xor {parts : List (List ByteArray)} {m : Nat} : ∀ (ws : List ByteArray) (ps : List Piece) (q : Piece), ps[m]? = some q →
    splitGo 1 parts false m ps ws = if (ws.any fun s => partOf parts s != m) then none else some (ps.set m ⟨q.part, q.word ++ ws⟩, (m : Int))
  | [], ps, q, h => by
    rw [splitGo, List.any_nil, if_neg (by simp), List.append_nil]
    rw [show (⟨q.part, q.word⟩ : Piece) = q from rfl, set_same h]
  | s :: l, ps, q, h => by
    rw [splitGo, List.any_cons]
    by_cases hp : partOf parts s = (m : Int)
    · have hm : m < ps.length := (List.getElem?_eq_some_iff.1 h).1
      have hb : badAt 1 false (partOf parts s) (m : Int) = false := by unfold badAt; rw [hp]; simp
      have hn : (partOf parts s != (m : Int)) = false := by rw [hp]; simp
      rw [hb, hn, hp, Int.toNat_natCast, addAt_some h, if_neg (by simp), splitGo_xor l _ ⟨q.part, q.word ++ [s]⟩ (by rw [List.getElem?_set_self hm]), List.set_set]
      simp
    · have hn : (partOf parts s != (m : Int)) = true := by simpa using hp
      have hb : badAt 1 false (partOf parts s) (m : Int) = true := by unfold badAt; rw [hn]; rfl
      rw [hb, hn]
      rfl
theorem splitOf_xor {c : Cut} {s : ByteArray} {l : List ByteArray} (hk : c.kind = 1) (hs : 0 ≤ partOf c.parts s) :
    splitOf c (s :: l) = if ((s :: l).any fun t => partOf c.parts t != partOf c.parts s) then none else some [⟨partOf c.parts s, s :: l⟩] := by
  obtain ⟨m, hm⟩ : ∃ m : Nat, partOf c.parts s = m := ⟨(partOf c.parts s).toNat, by omega⟩
  have hlt : m < c.parts.length := by have := partOf_lt c.parts s; omega
  have h0 : (initPs c.parts.length)[m]? = some ⟨(m : Int), []⟩ := by simp [initPs, hlt]
  unfold splitOf
  rw [if_neg (by omega), hk, splitGo]
  have hb : badAt 1 true (partOf c.parts s) 0 = false := by unfold badAt; simp
  rw [hb, if_neg (by simp), hm, Int.toNat_natCast, addAt_some h0, splitGo_xor l _ ⟨(m : Int), [] ++ [s]⟩ (by rw [List.getElem?_set_self (by rw [initPs_len]; exact hlt)]), List.any_cons, hm]
  rw [show ((m : Int) != (m : Int)) = false by simp, Bool.false_or]
  cases l.any fun t => partOf c.parts t != (m : Int)
  · simp only [Bool.false_eq_true, if_false, if_true, List.set_set]
    rw [if_neg (by simp), Int.toNat_natCast]
    congr 1
    have hg : ((initPs c.parts.length).set m ⟨(m : Int), [] ++ [s] ++ l⟩)[m]? = some ⟨(m : Int), [] ++ [s] ++ l⟩ := by rw [List.getElem?_set_self (by rw [initPs_len]; exact hlt)]
    rw [drop_at hg]
    rfl
  · rfl
theorem splitOf_xor_nil {c : Cut} (hk : c.kind = 1) : splitOf c [] = none := by
  unfold splitOf
  rw [if_neg (by omega), hk, splitGo]
  rfl
end Go.Cb

namespace Go.Cb
set_option linter.all false

def noPart (ps : List Piece) : List Piece := ps.map fun q => (⟨0, q.word⟩ : Piece)
theorem noPart_len (ps : List Piece) : (noPart ps).length = ps.length := by simp [noPart]
theorem noPart_at {ps : List Piece} {i : Nat} {q : Piece} (h : ps[i]? = some q) : (noPart ps)[i]? = some ⟨0, q.word⟩ := by simp [noPart, h]
theorem noPart_add {ps : List Piece} {i : Nat} {q : Piece} (s : ByteArray) (h : ps[i]? = some q) : (noPart ps).set i ⟨0, q.word ++ [s]⟩ = noPart (addAt ps i s) := by
  rw [addAt_some h]
  unfold noPart
  rw [List.map_set]
theorem noPart_init (n : Nat) : noPart (initPs n) = List.replicate n ⟨0, []⟩ := by
  unfold noPart initPs
  rw [List.map_map]
  apply List.ext_getElem
  · simp
  · intro i h1 h2
    simp
def InPlace (ps : List Piece) : Prop := ∀ (i : Nat) (q : Piece), ps[i]? = some q → q.part = (i : Int)
theorem inPlace_init (n : Nat) : InPlace (initPs n) := fun i q h => by
  obtain ⟨hi, rfl⟩ := List.getElem?_eq_some_iff.1 h
  simp [initPs]
theorem InPlace.add {ps : List Piece} (h : InPlace ps) (i : Nat) (s : ByteArray) : InPlace (addAt ps i s) := fun j q hq => by
  unfold addAt at hq
  split at hq
  · rename_i p hp
    by_cases hji : j = i
    · subst hji
      have hl := (List.getElem?_eq_some_iff.1 hp).1
      rw [List.getElem?_set_self hl] at hq
      cases hq
      exact h j p hp
    · rw [List.getElem?_set_ne (Ne.symm hji)] at hq
      exact h j q hq
  · exact h j q hq
theorem told_step {ps : List Piece} (h : InPlace ps) {j : Nat} {q : Piece} (hq : ps[j]? = some q) : (ps.take j ++ (noPart ps).drop j).set j ⟨(j : Int), q.word⟩ = ps.take (j + 1) ++ (noPart ps).drop (j + 1) := by
  have hl := (List.getElem?_eq_some_iff.1 hq).1
  have hpt := h j q hq
  have htl : (ps.take j).length = j := by simp; omega
  rw [List.set_append_right _ _ (by omega), htl, Nat.sub_self, drop_at (noPart_at hq), List.set_cons_zero, take_snoc hq, List.append_assoc]
  congr 1
  rw [← hpt]
  rfl
theorem told_at {ps : List Piece} {j : Nat} {q : Piece} (hq : ps[j]? = some q) : (ps.take j ++ (noPart ps).drop j)[j]? = some ⟨0, q.word⟩ := by
  have hl := (List.getElem?_eq_some_iff.1 hq).1
  have htl : (ps.take j).length = j := by simp; omega
  rw [List.getElem?_append_right (by omega), htl, Nat.sub_self, drop_at (noPart_at hq)]
  rfl
theorem told_len (ps : List Piece) (j : Nat) (hj : j ≤ ps.length) : (ps.take j ++ (noPart ps).drop j).length = ps.length := by
  rw [List.length_append, List.length_take, List.length_drop, noPart_len]; omega
end Go.Cb
