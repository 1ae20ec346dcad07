/-
  Common ground for the walks: worlds that have only grown ('Ext', 'World.plus'), how Go's slices of strings, numbers and structs read as lists, and a rule for regions that draw their order and whose callees may make memory. No program in sight.
  Slices that a call makes itself and appends to: what they hold, read as a list. No program in sight.
  A slice that a call owns, one cell of each element of which is itself a slice that the call owns: rows that are appended to one by one. No program in sight.
  Owned slices, more: a middle part, a store, make. No program in sight.
  Maps from strings to numbers, read as functions. No program in sight.
  A region that draws its order: its first operations yield values in every world of a class and leave it; what is left comes in one order, each but the last leaving a world of the class. So it is as if the first ones were carried out first, in the order of the text, then the others. No program in sight.
  A region that draws its order, by a plan: each operation either yields its value in every world of a class ('true'), or is the only one that may come up ('false'). No program in sight.
-/
import Derived.WalkKit
import Derived.WalkSpells
import Derived.WalkLawsBesides
import Derived.Handy
import Derived.BigQuiet
import Derived.Lib.Hide
import Derived.Maps.AppendAt
import Derived.Maps.Own
import Derived.Maps.OwnOps
import Derived.Maps.OwnSet
import Derived.StringKeys
import Derived.OrdersHeld
namespace Go.Cb
open Go.RowKit

abbrev Ext (w w' : World) : Prop := Below w.heap.size w w'
theorem Ext.rfl' (w : World) : Ext w w := Below.refl _ _
theorem Ext.tr {a b c : World} (h : Ext a b) (k : Ext b c) : Ext a c := Below.trans h (k.mono h.size)
theorem Ext.alloc (w : World) (o : Obj) : Ext w (w.alloc o) := (Below.refl _ _).alloc (Nat.le_refl _) o
theorem Ext.drew (w : World) : Ext w w.drew := (Below.refl _ _).drew
theorem Ext.cell {w w' : World} (h : Ext w w') {p : Addr} {v : Value} (hp : w.cell? p = some v) : w'.cell? p = some v := cell_later h hp
theorem Ext.block {w w' : World} (h : Ext w w') {b : Nat} {o : Obj} (hp : w.heap[b]? = some o) : w'.heap[b]? = some o := by
  have hlt : b < w.heap.size := by
    rcases Nat.lt_or_ge b w.heap.size with h1 | h1
    · exact h1
    · rw [Array.getElem?_eq_none h1] at hp; cases hp
  rw [Below.block h b hlt]; exact hp

structure More where
  objs : Array Obj
  drawn : Nat
instance : Inhabited More := ⟨⟨#[], 0⟩⟩
abbrev Mut := Nat → Prop
structure Chg (M : Mut) (w w' : World) : Prop where
  os : w'.os = w.os
  tape : w'.tape = w.tape
  output : w'.output = w.output
  size : w.heap.size ≤ w'.heap.size
  block : ∀ k, k < w.heap.size → ¬ M k → w'.heap[k]? = w.heap[k]?
theorem Chg.rfl' (M : Mut) (w : World) : Chg M w w := ⟨rfl, rfl, rfl, Nat.le_refl _, fun _ _ _ => rfl⟩
theorem Ext.chg {M : Mut} {w w' : World} (h : Ext w w') : Chg M w w' := ⟨h.os, h.tape, h.output, h.size, fun k hk _ => Below.block h k hk⟩
theorem Chg.ext {M : Mut} {w w' : World} (h : Chg M w w') (hM : ∀ b, b < w.heap.size → ¬ M b) : Ext w w' := ⟨h.os, h.tape, h.output, h.size, fun k hk => h.block k hk (hM k hk)⟩
theorem Chg.tr {M N : Mut} {a b c : World} (h : Chg M a b) (k : Chg N b c) (hN : ∀ i, N i → M i ∨ a.heap.size ≤ i) : Chg M a c :=
  ⟨k.os.trans h.os, k.tape.trans h.tape, k.output.trans h.output, Nat.le_trans h.size k.size, fun i hi hm =>
    (k.block i (Nat.lt_of_lt_of_le hi h.size) (fun hn => (hN i hn).elim hm (by omega))).trans (h.block i hi hm)⟩
theorem Chg.tr' {M : Mut} {a b c : World} (h : Chg M a b) (k : Chg M b c) : Chg M a c := h.tr k fun _ h => .inl h
theorem Chg.wid {M N : Mut} {a b : World} (h : Chg M a b) (hN : ∀ i, M i → N i ∨ a.heap.size ≤ i) : Chg N a b :=
  ⟨h.os, h.tape, h.output, h.size, fun i hi hn => h.block i hi fun hm => (hN i hm).elim hn (by omega)⟩
theorem Chg.grown {w w' : World} {row : Option Nat} (h : w.grownBy w' row) : Chg (fun b => row = some b) w w' :=
  ⟨h.os, h.tape, h.output, h.size, fun k hk hm => h.block k hk (fun e => hm e.symm)⟩
theorem Chg.setCell (w : World) (p : Addr) (u : Value) : Chg (fun b => b = p.block) w (w.setCell p u) :=
  ⟨rfl, rfl, rfl, by simp [World.setCell], fun k _ hm => Below.heap_setCell _ _ _ _ hm⟩
def Cell (M : Mut) (w : World) (b o : Nat) (v : Value) : Prop := w.cell? ⟨b, o, none⟩ = some v ∧ ¬ M b
theorem Cell.mv {M : Mut} {w w' : World} {b o : Nat} {v : Value} (h : Cell M w b o v) (e : Chg M w w') : Cell M w' b o v := by
  have hlt : b < w.heap.size := World.block_lt_of_cell? _ _ h.1
  exact ⟨(World.cell?_of_block (w := w) (a := ⟨b, o, none⟩) (e.block b hlt h.2)).trans h.1, h.2⟩
theorem Cell.re {M N : Mut} {w : World} {b o : Nat} {v : Value} (h : Cell M w b o v) (hN : ∀ i, N i → M i ∨ w.heap.size ≤ i) : Cell N w b o v := by
  have hlt : b < w.heap.size := World.block_lt_of_cell? _ _ h.1
  exact ⟨h.1, fun hn => (hN b hn).elim h.2 (by omega)⟩

abbrev Elt (α : Type) := Mut → World → Nat → Nat → α → Prop
abbrev Rd (α : Type) := Mut → World → Value → α → Prop
structure Elt.Mono {α : Type} (E : Elt α) : Prop where
  mv : ∀ {M w w' b o x}, E M w b o x → Chg M w w' → E M w' b o x
  re : ∀ {M N w b o x}, E M w b o x → (∀ i, N i → M i ∨ w.heap.size ≤ i) → E N w b o x
structure Rd.Mono {α : Type} (R : Rd α) : Prop where
  mv : ∀ {M w w' v x}, R M w v x → Chg M w w' → R M w' v x
  re : ∀ {M N w v x}, R M w v x → (∀ i, N i → M i ∨ w.heap.size ≤ i) → R N w v x

def SlR {α : Type} (k : Nat) (E : Elt α) : Rd (List α) := fun M w v l =>
  ∃ a c, v = .slice a l.length c ∧ l.length ≤ c ∧ c ≤ 9223372036854775807 ∧ l.length ≤ 140737488355328 ∧ (a = none → c = 0) ∧ ∀ i x, l[i]? = some x → ∃ b off, a = some ⟨b, off, none⟩ ∧ E M w b (off + i * k) x
theorem SlR.mono {α : Type} {k : Nat} {E : Elt α} (hE : E.Mono) : (SlR k E).Mono where
  mv := by
    rintro M w w' v l ⟨a, c, rfl, h1, h2, h4, h5, h3⟩ h
    exact ⟨a, c, rfl, h1, h2, h4, h5, fun i x hx => let ⟨b, off, ha, he⟩ := h3 i x hx; ⟨b, off, ha, hE.mv he h⟩⟩
  re := by
    rintro M N w v l ⟨a, c, rfl, h1, h2, h4, h5, h3⟩ h
    exact ⟨a, c, rfl, h1, h2, h4, h5, fun i x hx => let ⟨b, off, ha, he⟩ := h3 i x hx; ⟨b, off, ha, hE.re he h⟩⟩
theorem SlR.nil {α : Type} {k : Nat} {E : Elt α} {M : Mut} {w : World} : SlR k E M w (.slice none 0 0) [] := ⟨none, 0, rfl, Nat.le_refl _, by decide, by simp, fun _ => rfl, fun i x h => by simp at h⟩
theorem SlR.len {α : Type} {k : Nat} {E : Elt α} {M : Mut} {w : World} {v : Value} {l : List α} (h : SlR k E M w v l) : l.length ≤ 140737488355328 := by
  obtain ⟨a, c, rfl, h1, h2, h4, h3⟩ := h; omega

def EStr : Elt ByteArray := fun M w b o s => Cell M w b o (.string s) ∧ s.size ≤ 140737488355328
def EInt : Elt Int := fun M w b o n => Cell M w b o (.int .i64 n) ∧ -9223372036854775808 ≤ n ∧ n ≤ 9223372036854775807
def EBool : Elt Bool := fun M w b o t => Cell M w b o (.bool t)
def EVal {α : Type} (R : Rd α) : Elt α := fun M w b o x => ∃ u, Cell M w b o u ∧ R M w u x
theorem EStr.mono : EStr.Mono := ⟨fun ⟨h1, h2⟩ h => ⟨h1.mv h, h2⟩, fun ⟨h1, h2⟩ h => ⟨h1.re h, h2⟩⟩
theorem EInt.mono : EInt.Mono := ⟨fun ⟨h1, h2⟩ h => ⟨h1.mv h, h2⟩, fun ⟨h1, h2⟩ h => ⟨h1.re h, h2⟩⟩
theorem EBool.mono : EBool.Mono := ⟨fun h1 h => Cell.mv h1 h, fun h1 h => Cell.re h1 h⟩
theorem EVal.mono {α : Type} {R : Rd α} (hR : R.Mono) : (EVal R).Mono := ⟨fun ⟨u, h1, h2⟩ h => ⟨u, h1.mv h, hR.mv h2 h⟩, fun ⟨u, h1, h2⟩ h => ⟨u, h1.re h, hR.re h2 h⟩⟩

abbrev Strs : Rd (List ByteArray) := SlR 1 EStr
theorem Strs.mono : Strs.Mono := SlR.mono EStr.mono
theorem Strs.up {M : Mut} {w w' : World} {v : Value} {l : List ByteArray} (h : Strs M w v l) (e : Ext w w') : Strs M w' v l := Strs.mono.mv h e.chg
abbrev Strss : Rd (List (List ByteArray)) := SlR 1 (EVal Strs)
theorem Strss.mono : Strss.Mono := SlR.mono (EVal.mono Strs.mono)
theorem Strss.up {M : Mut} {w w' : World} {v : Value} {l : List (List ByteArray)} (h : Strss M w v l) (e : Ext w w') : Strss M w' v l := Strss.mono.mv h e.chg

structure Var where
  acts : List ByteArray
  count : Int
def EVar : Elt Var := fun M w b o x => (∃ u, Cell M w b o u ∧ Strs M w u x.acts) ∧ Cell M w b (o + 1) (.int .i64 x.count) ∧ -9223372036854775808 ≤ x.count ∧ x.count ≤ 9223372036854775807
theorem EVar.mono : EVar.Mono := ⟨fun ⟨⟨u, h1, h2⟩, h3, h4⟩ h => ⟨⟨u, h1.mv h, Strs.mono.mv h2 h⟩, h3.mv h, h4⟩, fun ⟨⟨u, h1, h2⟩, h3, h4⟩ h => ⟨⟨u, h1.re h, Strs.mono.re h2 h⟩, h3.re h, h4⟩⟩
abbrev Vars : Rd (List Var) := SlR 2 EVar
theorem Vars.mono : Vars.Mono := SlR.mono EVar.mono
theorem Vars.up {M : Mut} {w w' : World} {v : Value} {l : List Var} (h : Vars M w v l) (e : Ext w w') : Vars M w' v l := Vars.mono.mv h e.chg
abbrev Varss : Rd (List (List Var)) := SlR 1 (EVal Vars)
theorem Varss.mono : Varss.Mono := SlR.mono (EVal.mono Vars.mono)
theorem Varss.up {M : Mut} {w w' : World} {v : Value} {l : List (List Var)} (h : Varss M w v l) (e : Ext w w') : Varss M w' v l := Varss.mono.mv h e.chg

structure Cut where
  kind : Int
  parts : List (List ByteArray)
def CutR : Rd Cut := fun M w v c => ∃ u, v = .agg #[.int .i64 c.kind, u] ∧ Strss M w u c.parts ∧ -9223372036854775808 ≤ c.kind ∧ c.kind ≤ 9223372036854775807
theorem CutR.mono : CutR.Mono := ⟨fun ⟨u, h1, h2, h3⟩ h => ⟨u, h1, Strss.mono.mv h2 h, h3⟩, fun ⟨u, h1, h2, h3⟩ h => ⟨u, h1, Strss.mono.re h2 h, h3⟩⟩
theorem CutR.up {M : Mut} {w w' : World} {v : Value} {c : Cut} (h : CutR M w v c) (e : Ext w w') : CutR M w' v c := CutR.mono.mv h e.chg

theorem get_some {α : Type} {l : List α} {i : Nat} (h : i < l.length) : ∃ x, l[i]? = some x := ⟨l[i], by simp [h]⟩
def idx {α : Type} (p : α → Bool) (l : List α) : Int := match l.findIdx? p with | some i => i | none => -1
theorem idx_any {α : Type} (p : α → Bool) (l : List α) : decide (0 ≤ idx p l) = l.any p := by
  unfold idx
  cases h : l.findIdx? p with
  | none => rw [List.findIdx?_eq_none_iff] at h; symm; simpa using h
  | some i => rw [List.findIdx?_eq_some_iff_getElem] at h; obtain ⟨hi, hp, _⟩ := h; symm; simp; exact ⟨_, List.getElem_mem hi, hp⟩
theorem idx_here {α : Type} {p : α → Bool} {l : List α} {k : Nat} {x : α} (h : ∀ i y, i < k → l[i]? = some y → p y = false) (hx : l[k]? = some x) (hp : p x = true) : idx p l = k := by
  unfold idx
  obtain ⟨hk, rfl⟩ := List.getElem?_eq_some_iff.1 hx
  have : l.findIdx? p = some k := by
    rw [List.findIdx?_eq_some_iff_getElem]
    exact ⟨hk, hp, fun j hj => by simp [h j _ hj (List.getElem?_eq_getElem (by omega))]⟩
  rw [this]
theorem idx_none {α : Type} {p : α → Bool} {l : List α} (h : ∀ i y, i < l.length → l[i]? = some y → p y = false) : idx p l = -1 := by
  unfold idx
  have : l.findIdx? p = none := by
    rw [List.findIdx?_eq_none_iff]
    intro x hx
    obtain ⟨i, hi, rfl⟩ := List.getElem_of_mem hx
    exact h i _ hi (List.getElem?_eq_getElem hi)
  rw [this]
end Go.Cb

namespace Go.Cb
open Go.RowKit
set_option linter.all false

abbrev VR (α : Type) := Mut → World → List Value → α → Prop
structure EV {α : Type} (k : Nat) (E : Elt α) (V : VR α) : Prop where
  toE : ∀ {M w b o cs x}, V M w cs x → (∀ j u, cs[j]? = some u → Cell M w b (o + j) u) → E M w b o x
  ofE : ∀ {M w b o x}, E M w b o x → ∃ cs, V M w cs x ∧ ∀ j u, cs[j]? = some u → Cell M w b (o + j) u
  len : ∀ {M w cs x}, V M w cs x → cs.length = k
  one : ∀ {M w cs x}, V M w cs x → ∀ u ∈ cs, u.oneCell' = true
  mv : ∀ {M w w' cs x}, V M w cs x → Chg M w w' → V M w' cs x
  re : ∀ {M N w cs x}, V M w cs x → (∀ i, N i → M i ∨ w.heap.size ≤ i) → V N w cs x
structure ElemT (P : Program) (t e k bytes : Nat) : Prop where
  ht : P.underlying t = some (.slice e)
  hi : ∃ i z, P.info? e = some i ∧ i.zero = some z ∧ i.size = k ∧ i.bytes = bytes ∧ z.cells.size = k
  hk : 0 < k

def ownOf (v : Value) : Mut := fun b => v.ownBlock = some b
def Mut.or (M N : Mut) : Mut := fun b => M b ∨ N b
def OwnL {α : Type} (base e k : Nat) (V : VR α) (M : Mut) (w : World) (v : Value) (l : List α) : Prop :=
  (∀ b, ownOf v b → ¬ M b) ∧ ∃ xs, w.ownsRow base e k v l.length xs ∧ ∀ i x, l[i]? = some x → V (M.or (ownOf v)) w ((xs.drop (i * k)).take k) x

theorem OwnL.nil {α : Type} {base e k : Nat} {V : VR α} {M : Mut} {w : World} : OwnL base e k V M w (.slice none 0 0) ([] : List α) :=
  ⟨(fun b h => by cases h), [], World.ownsRow_nil _ _ _ _, fun i x h => by simp at h⟩
theorem OwnL.lt {α : Type} {base e k : Nat} {V : VR α} {M : Mut} {w : World} {v : Value} {l : List α} (h : OwnL base e k V M w v l) : ∀ b, ownOf v b → base ≤ b ∧ b < w.heap.size :=
  fun b hb => let ⟨_, _, h1, _⟩ := h; h1.lt b hb
theorem OwnL.form {α : Type} {base e k : Nat} {V : VR α} {M : Mut} {w : World} {v : Value} {l : List α} (h : OwnL base e k V M w v l) : ∃ a c, v = .slice a l.length c ∧ l.length ≤ c ∧ c ≤ 9223372036854775807 := by
  obtain ⟨_, xs, h1, _⟩ := h
  rcases h1.2 with ⟨h2, h3⟩ | ⟨g, cap, cur, h2, _, _, h4, h5, _⟩
  · exact ⟨none, 0, by rw [h2, h3], by omega, by decide⟩
  · exact ⟨_, cap, h2, h4, by unfold maxLen at h5; exact h5⟩

def VStr : VR ByteArray := fun _ _ cs s => cs = [.string s] ∧ s.size ≤ 140737488355328
def Rd.One {α : Type} (R : Rd α) : Prop := ∀ {M w u x}, R M w u x → u.oneCell' = true
theorem SlR.one {α : Type} {k : Nat} {E : Elt α} : (SlR k E).One := by
  rintro M w u x ⟨a, c, rfl, _⟩; rfl
theorem evStr : EV 1 EStr VStr where
  toE := by rintro M w b o cs x ⟨rfl, h⟩ hc; exact ⟨hc 0 _ rfl, h⟩
  ofE := by
    rintro M w b o x ⟨h1, h2⟩
    refine ⟨_, ⟨rfl, h2⟩, fun j u hu => ?_⟩
    cases j with
    | zero => simp at hu; subst hu; exact h1
    | succ j => simp at hu
  len := by rintro M w cs x ⟨rfl, _⟩; rfl
  one := by rintro M w cs x ⟨rfl, _⟩ u hu; simp at hu; subst hu; rfl
  mv := fun h _ => h
  re := fun h _ => h
theorem OwnL.rd {α : Type} {base e k : Nat} {E : Elt α} {V : VR α} (hEV : EV k E V) {M : Mut} {w : World} {v : Value} {l : List α} (h : OwnL base e k V M w v l) (hl : l.length ≤ 140737488355328) : SlR k E M w v l := by
  obtain ⟨hM, xs, hrow, hel⟩ := h
  rcases hrow.2 with ⟨h2, h3⟩ | ⟨g, cap, cur, h2, hg, hh, h4, h5, h6, h7⟩
  · cases l with
    | nil => rw [h2]; exact SlR.nil
    | cons y l => simp at h3
  · refine ⟨_, cap, h2, h4, by unfold maxLen at h5; exact h5, hl, (by intro h; cases h), fun i x hx => ⟨g, 0, rfl, ?_⟩⟩
    have hi := (List.getElem?_eq_some_iff.1 hx).1
    have hnM : ¬ M g := hM g (by subst h2; rfl)
    have hV := hEV.re (N := M) (hel i x hx) fun b hb => .inl (.inl hb)
    refine hEV.toE hV fun j u hu => ⟨?_, hnM⟩
    have hj : j < k := by
      have := (List.getElem?_eq_some_iff.1 hu).1
      have h9 := hEV.len hV
      omega
    rw [List.getElem?_take_of_lt hj, List.getElem?_drop] at hu
    subst h2
    rw [hrow.cellAt (0 + i * k + j) (by
      have h1 : (i + 1) * k ≤ l.length * k := Nat.mul_le_mul_right k hi
      rw [Nat.add_mul, Nat.one_mul] at h1
      omega)]
    rw [Nat.zero_add]; exact hu
theorem OwnL.mv {α : Type} {base e k : Nat} {E : Elt α} {V : VR α} (hEV : EV k E V) {M N : Mut} {w w' : World} {v : Value} {l : List α} (h : OwnL base e k V M w v l) (hc : Chg N w w') (hN : ∀ b, N b → M b ∨ w.heap.size ≤ b) : OwnL base e k V M w' v l := by
  have hlt := h.lt
  obtain ⟨hM, xs, hrow, hel⟩ := h
  have hc' : Chg M w w' := hc.wid hN
  refine ⟨hM, xs, ⟨hrow.1, ?_⟩, fun i x hx => hEV.mv (hel i x hx) (hc'.wid fun b hb => .inl (.inl hb))⟩
  rcases hrow.2 with h2 | ⟨g, cap, cur, h2, hg, hh, h4⟩
  · exact .inl h2
  · refine .inr ⟨g, cap, cur, h2, hg, ?_, h4⟩
    have hgl : g < w.heap.size := (hlt g (by subst h2; rfl)).2
    rw [hc'.block g hgl (hM g (by subst h2; rfl))]
    exact hh
theorem OwnL.up {α : Type} {base e k : Nat} {E : Elt α} {V : VR α} (hEV : EV k E V) {M : Mut} {w w' : World} {v : Value} {l : List α} (h : OwnL base e k V M w v l) (hc : Ext w w') : OwnL base e k V M w' v l :=
  h.mv hEV (hc.chg (M := M)) fun b hb => .inl hb
theorem Ext.own {a b c : World} {N : Mut} (h : Ext a b) (k : Chg N b c) (hN : ∀ i, N i → a.heap.size ≤ i) : Ext a c :=
  ⟨k.os.trans h.os, k.tape.trans h.tape, k.output.trans h.output, Nat.le_trans h.size k.size, fun i hi =>
    (k.block i (Nat.lt_of_lt_of_le hi h.size) (fun hn => by have := hN i hn; omega)).trans (Below.block h i hi)⟩
end Go.Cb

namespace Go.Cb
open Go.RowKit
set_option linter.all false

structure Nest {α : Type} (base e k f e' k' : Nat) (V : VR α) (M : Mut) (w : World) (v : Value) (cells : List Value) (rows : List (List α)) : Prop where
  row : w.ownsRow base e k v rows.length cells
  own : ∀ i r, rows[i]? = some r → ∃ u, cells[i * k + f]? = some u ∧ OwnL base e' k' V M w u r
  sep : ∀ i j u u', i ≠ j → i < rows.length → j < rows.length → cells[i * k + f]? = some u → cells[j * k + f]? = some u' → ∀ b, ownOf u b → ¬ ownOf u' b
  sepv : ∀ i u, i < rows.length → cells[i * k + f]? = some u → ∀ b, ownOf u b → ¬ ownOf v b

theorem ownsRow_mv {base e k n : Nat} {w w' : World} {v : Value} {xs : List Value} {N : Mut} (h : w.ownsRow base e k v n xs) (hc : Chg N w w') (hN : ∀ b, ownOf v b → ¬ N b) : w'.ownsRow base e k v n xs := by
  refine ⟨h.1, ?_⟩
  rcases h.2 with h2 | ⟨g, cap, cur, h2, hg, hh, h4⟩
  · exact .inl h2
  · refine .inr ⟨g, cap, cur, h2, hg, ?_, h4⟩
    have hgl : g < w.heap.size := (h.lt g (by subst h2; rfl)).2
    rw [hc.block g hgl (hN g (by subst h2; rfl))]
    exact hh

theorem Nest.up {α : Type} {base e k f e' k' : Nat} {E : Elt α} {V : VR α} (hEV : EV k' E V) {M : Mut} {w w' : World} {v : Value} {cells : List Value} {rows : List (List α)} (h : Nest base e k f e' k' V M w v cells rows) (hc : Ext w w') : Nest base e k f e' k' V M w' v cells rows where
  row := ownsRow_mv h.row (hc.chg (M := fun _ => False)) (fun _ _ h => h)
  own := fun i r hr => let ⟨u, h1, h2⟩ := h.own i r hr; ⟨u, h1, h2.up hEV hc⟩
  sep := h.sep
  sepv := h.sepv
theorem Nest.form {α : Type} {base e k f e' k' : Nat} {V : VR α} {M : Mut} {w : World} {v : Value} {cells : List Value} {rows : List (List α)} (h : Nest base e k f e' k' V M w v cells rows) (hn : 0 < rows.length) :
    ∃ g cap, v = .slice (some ⟨g, 0, none⟩) rows.length cap ∧ rows.length ≤ cap ∧ cap ≤ 9223372036854775807 ∧ base ≤ g ∧ g < w.heap.size := by
  have hlt := h.row.lt
  rcases h.row.2 with ⟨_, h3⟩ | ⟨g, cap, cur, h2, hg, hh, h4, h5, _⟩
  · omega
  · exact ⟨g, cap, h2, h4, by unfold maxLen at h5; exact h5, hg, (hlt g (by subst h2; rfl)).2⟩
theorem Nest.cell {α : Type} {base e k f e' k' : Nat} {V : VR α} {M : Mut} {w : World} {g n cap : Nat} {cells : List Value} {rows : List (List α)} (h : Nest base e k f e' k' V M w (.slice (some ⟨g, 0, none⟩) n cap) cells rows) (hn : n = rows.length) {j : Nat} {u : Value} (hj : cells[j]? = some u) : w.cell? ⟨g, j, none⟩ = some u := by
  subst hn
  have := (List.getElem?_eq_some_iff.1 hj).1
  rw [h.row.1] at this
  rw [h.row.cellAt j this]; exact hj
theorem Nest.free {α : Type} {base e k f e' k' : Nat} {V : VR α} {M : Mut} {w : World} {g n cap : Nat} {cells : List Value} {rows : List (List α)} (h : Nest base e k f e' k' V M w (.slice (some ⟨g, 0, none⟩) n cap) cells rows) (hn : n = rows.length) (j : Nat) : w.frozen? ⟨g, j, none⟩ = false := by
  subst hn
  exact h.row.frozenAt j

def VR.Free {α : Type} (V : VR α) : Prop := ∀ (M N : Mut) (w w' : World) (cs : List Value) (x : α), V M w cs x → V N w' cs x
theorem vStr_free : VStr.Free := fun _ _ _ _ _ _ h => h
theorem OwnL.mvF {α : Type} {base e k : Nat} {V : VR α} (hV : V.Free) {M N : Mut} {w w' : World} {v : Value} {l : List α} (h : OwnL base e k V M w v l) (hc : Chg N w w') (hN : ∀ b, ownOf v b → ¬ N b) : OwnL base e k V M w' v l := by
  obtain ⟨hM, xs, hrow, hel⟩ := h
  exact ⟨hM, xs, ownsRow_mv hrow hc hN, fun i x hx => hV _ _ _ _ _ _ (hel i x hx)⟩
theorem mul_ne {i j k f : Nat} (hk : 0 < k) (h : i ≠ j) : i * k + f ≠ j * k + f := by
  intro he
  exact h (Nat.eq_of_mul_eq_mul_right hk (by omega))
theorem Nest.upd {α : Type} {base e k f e' k' : Nat} {V : VR α} (hV : V.Free) {M : Mut} {w w1 : World} {g cap : Nat} {cells : List Value} {rows : List (List α)} {i : Nat} {r' : List α} {u u' : Value}
    (h : Nest base e k f e' k' V M w (.slice (some ⟨g, 0, none⟩) rows.length cap) cells rows) (hi : i < rows.length) (hu : cells[i * k + f]? = some u)
    (ho : OwnL base e' k' V M w1 u' r') (hc : Chg (ownOf u) w w1) (hb : u'.ownBlock = u.ownBlock ∨ ∃ n, u'.ownBlock = some n ∧ w.heap.size ≤ n) (hk : 0 < k) :
    Nest base e k f e' k' V M (w1.setCell ⟨g, i * k + f, none⟩ u') (.slice (some ⟨g, 0, none⟩) rows.length cap) (cells.set (i * k + f) u') (rows.set i r') := by
  have hgv : ownOf (.slice (some ⟨g, 0, none⟩) rows.length cap) g := rfl
  have hgu : ¬ ownOf u g := fun hg => h.sepv i u hi hu g hg hgv
  have hgl : g < w.heap.size := (h.row.lt g hgv).2
  have hgu' : ¬ ownOf u' g := fun hg => by
    unfold ownOf at hg
    rcases hb with hb | ⟨n, hb, hn⟩
    · rw [hb] at hg; exact hgu hg
    · rw [hb] at hg; cases hg; omega
  have hrow1 := ownsRow_mv h.row hc (fun b hb' => by cases hb'; exact hgu)
  have hil : i * k + f < cells.length := (List.getElem?_eq_some_iff.1 hu).1
  have hset : ∀ j x, j < rows.length → (cells.set (i * k + f) u')[j * k + f]? = some x → (j = i ∧ x = u') ∨ (j ≠ i ∧ cells[j * k + f]? = some x) := by
    intro j x hj hx
    by_cases hji : j = i
    · subst hji
      rw [List.getElem?_set_self hil] at hx
      cases hx
      exact .inl ⟨rfl, rfl⟩
    · rw [List.getElem?_set_ne (mul_ne hk (Ne.symm hji))] at hx
      exact .inr ⟨hji, hx⟩
  have hlt : ∀ j x, j < rows.length → cells[j * k + f]? = some x → ∀ b, ownOf x b → b < w.heap.size := by
    intro j x hj hx b hbx
    obtain ⟨r, hr⟩ := get_some hj
    obtain ⟨y, hy, hoy⟩ := h.own j r hr
    rw [hx] at hy
    cases hy
    exact (hoy.lt b hbx).2
  have hfr : ∀ b, ownOf u' b → ownOf u b ∨ w.heap.size ≤ b := fun b hb' => by
    unfold ownOf at *
    rcases hb with hb | ⟨n, hb, hn⟩
    · rw [hb] at hb'; exact .inl hb'
    · rw [hb] at hb'; cases hb'; exact .inr hn
  refine ⟨?_, ?_, ?_, ?_⟩
  · have := (hrow1.stored (i * k + f) u').1
    simpa using this
  · intro j r hr
    have hj : j < rows.length := by have := (List.getElem?_eq_some_iff.1 hr).1; simpa using this
    have hsc : Chg (fun b => b = g) w1 (w1.setCell ⟨g, i * k + f, none⟩ u') := Chg.setCell w1 ⟨g, i * k + f, none⟩ u'
    by_cases hji : j = i
    · subst hji
      rw [List.getElem?_set_self hj] at hr
      cases hr
      exact ⟨u', by rw [List.getElem?_set_self hil], ho.mvF hV hsc (fun b hb' hbg => by subst hbg; exact hgu' hb')⟩
    · rw [List.getElem?_set_ne (Ne.symm hji)] at hr
      obtain ⟨y, hy, hoy⟩ := h.own j r hr
      refine ⟨y, by rw [List.getElem?_set_ne (mul_ne hk (Ne.symm hji))]; exact hy, ?_⟩
      refine (hoy.mvF hV hc (fun b hb' hbu => h.sep j i y u hji hj hi hy hu b hb' hbu)).mvF hV hsc (fun b hb' hbg => ?_)
      subst hbg
      exact h.sepv j y hj hy _ hb' hgv
  · intro a c x y hac ha hc' hx hy b hbx hby
    simp only [List.length_set] at ha hc'
    rcases hset a x ha hx with ⟨rfl, rfl⟩ | ⟨ha', hx'⟩
    · rcases hset c y hc' hy with ⟨rfl, rfl⟩ | ⟨hc'', hy'⟩
      · exact hac rfl
      · rcases hfr b hbx with h1 | h1
        · exact h.sep a c u y hac ha hc' hu hy' b h1 hby
        · have := hlt c y hc' hy' b hby; omega
    · rcases hset c y hc' hy with ⟨rfl, rfl⟩ | ⟨hc'', hy'⟩
      · rcases hfr b hby with h1 | h1
        · exact h.sep a c x u hac ha hc' hx' hu b hbx h1
        · have := hlt a x ha hx' b hbx; omega
      · exact h.sep a c x y hac ha hc' hx' hy' b hbx hby
  · intro a x ha hx b hbx hbv
    simp only [List.length_set] at ha
    rcases hset a x ha hx with ⟨rfl, rfl⟩ | ⟨ha', hx'⟩
    · cases hbv; exact hgu' hbx
    · exact h.sepv a x ha hx' b hbx hbv

theorem Nest.push {α : Type} {base e k f e' k' : Nat} {V : VR α} (hV : V.Free) {M : Mut} {w w1 : World} {v v' : Value} {cells news : List Value} {rows : List (List α)}
    (h : Nest base e k f e' k' V M w v cells rows) (hrow : w1.ownsRow base e k v' (rows.length + 1) (cells ++ news)) (hc : Chg (ownOf v) w w1) (hb : v'.ownBlock = v.ownBlock ∨ v'.ownBlock = some w.heap.size) (hf : news[f]? = some (.slice none 0 0)) :
    Nest base e k f e' k' V M w1 v' (cells ++ news) (rows ++ [[]]) := by
  have hcl : cells.length = rows.length * k := h.row.1
  have hat : ∀ j x, j < (rows ++ [[]]).length → (cells ++ news)[j * k + f]? = some x → (j < rows.length ∧ cells[j * k + f]? = some x) ∨ x = .slice none 0 0 := by
    intro j x hj hx
    simp at hj
    rcases Nat.lt_or_ge j rows.length with h1 | h1
    · left
      refine ⟨h1, ?_⟩
      obtain ⟨r, hr⟩ := get_some h1
      obtain ⟨y, hy, _⟩ := h.own j r hr
      have := (List.getElem?_eq_some_iff.1 hy).1
      rw [List.getElem?_append_left this] at hx
      exact hx
    · right
      obtain rfl : j = rows.length := by omega
      rw [List.getElem?_append_right (by omega), hcl, Nat.add_sub_cancel_left, hf] at hx
      cases hx; rfl
  refine ⟨by simpa using hrow, ?_, ?_, ?_⟩
  · intro i r hr
    rcases Nat.lt_or_ge i rows.length with h1 | h1
    · rw [List.getElem?_append_left h1] at hr
      obtain ⟨y, hy, hoy⟩ := h.own i r hr
      refine ⟨y, by rw [List.getElem?_append_left (List.getElem?_eq_some_iff.1 hy).1]; exact hy, hoy.mvF hV hc (fun b hb' hbv => h.sepv i y h1 hy b hb' hbv)⟩
    · rw [List.getElem?_append_right h1] at hr
      have hi0 : i - rows.length = 0 := by have := (List.getElem?_eq_some_iff.1 hr).1; simp at this; omega
      rw [hi0] at hr
      simp at hr
      subst hr
      obtain rfl : i = rows.length := by omega
      exact ⟨.slice none 0 0, by rw [List.getElem?_append_right (by omega), hcl, Nat.add_sub_cancel_left, hf], OwnL.nil⟩
  · intro i j x y hij hi hj hx hy b hbx hby
    rcases hat i x hi hx with ⟨h1, hx'⟩ | rfl
    · rcases hat j y hj hy with ⟨h2, hy'⟩ | rfl
      · exact h.sep i j x y hij h1 h2 hx' hy' b hbx hby
      · cases hby
    · cases hbx
  · intro i x hi hx b hbx hbv
    rcases hat i x hi hx with ⟨h1, hx'⟩ | rfl
    · unfold ownOf at hbv
      rcases hb with hb | hb
      · rw [hb] at hbv; exact h.sepv i x h1 hx' b hbx hbv
      · rw [hb] at hbv; cases hbv
        obtain ⟨r, hr⟩ := get_some h1
        obtain ⟨y, hy, hoy⟩ := h.own i r hr
        rw [hx'] at hy
        cases hy
        exact Nat.lt_irrefl _ (hoy.lt _ hbx).2
    · cases hbx
theorem Nest.nil {α : Type} {base e k f e' k' : Nat} {V : VR α} {M : Mut} {w : World} : Nest base e k f e' k' V M w (.slice none 0 0) [] ([] : List (List α)) :=
  ⟨World.ownsRow_nil _ _ _ _, fun i r h => by simp at h, fun i j u u' _ h => by simp at h, fun i u h => by simp at h⟩

structure Piece where
  part : Int
  word : List ByteArray
def EPiece : Elt Piece := fun M w b o x => Cell M w b o (.int .i64 x.part) ∧ ∃ u, Cell M w b (o + 1) u ∧ Strs M w u x.word
theorem EPiece.mono : EPiece.Mono := ⟨fun ⟨h1, u, h2, h3⟩ h => ⟨h1.mv h, u, h2.mv h, Strs.mono.mv h3 h⟩, fun ⟨h1, u, h2, h3⟩ h => ⟨h1.re h, u, h2.re h, Strs.mono.re h3 h⟩⟩
abbrev Pieces : Rd (List Piece) := SlR 2 EPiece
theorem Pieces.mono : Pieces.Mono := SlR.mono EPiece.mono
theorem Pieces.up {M : Mut} {w w' : World} {v : Value} {l : List Piece} (h : Pieces M w v l) (e : Ext w w') : Pieces M w' v l := Pieces.mono.mv h e.chg
def PcOwn (base e es : Nat) (w : World) (v : Value) (ps : List Piece) : Prop :=
  ∃ cells, Nest base e 2 1 es 1 VStr (fun _ => False) w v cells (ps.map (·.word)) ∧ ∀ i p, ps[i]? = some p → cells[i * 2]? = some (.int .i64 p.part)
theorem PcOwn.nil {base e es : Nat} {w : World} : PcOwn base e es w (.slice none 0 0) [] := ⟨[], Nest.nil, fun i p h => by simp at h⟩
theorem PcOwn.up {base e es : Nat} {w w' : World} {v : Value} {ps : List Piece} (h : PcOwn base e es w v ps) (hc : Ext w w') : PcOwn base e es w' v ps :=
  let ⟨cells, h1, h2⟩ := h; ⟨cells, h1.up evStr hc, h2⟩
theorem PcOwn.form {base e es : Nat} {w : World} {v : Value} {ps : List Piece} (h : PcOwn base e es w v ps) (hn : 0 < ps.length) : ∃ g cap, v = .slice (some ⟨g, 0, none⟩) ps.length cap ∧ ps.length ≤ cap ∧ cap ≤ 9223372036854775807 ∧ base ≤ g ∧ g < w.heap.size := by
  obtain ⟨cells, h1, _⟩ := h
  have := h1.form (by simpa using hn)
  simpa using this
theorem PcOwn.part {base e es g cap : Nat} {w : World} {ps : List Piece} {i : Nat} {p : Piece} (h : PcOwn base e es w (.slice (some ⟨g, 0, none⟩) ps.length cap) ps) (hp : ps[i]? = some p) : w.cell? ⟨g, i * 2, none⟩ = some (.int .i64 p.part) := by
  obtain ⟨cells, h1, h2⟩ := h
  exact h1.cell (by simp) (h2 i p hp)
theorem PcOwn.word {base e es g cap : Nat} {w : World} {ps : List Piece} {i : Nat} {p : Piece} (h : PcOwn base e es w (.slice (some ⟨g, 0, none⟩) ps.length cap) ps) (hp : ps[i]? = some p) :
    ∃ u, w.cell? ⟨g, i * 2 + 1, none⟩ = some u ∧ w.frozen? ⟨g, i * 2 + 1, none⟩ = false ∧ OwnL base es 1 VStr (fun _ => False) w u p.word ∧ ¬ ownOf u g ∧
      ∀ u' w1 r', OwnL base es 1 VStr (fun _ => False) w1 u' r' → Chg (ownOf u) w w1 → (u'.ownBlock = u.ownBlock ∨ ∃ n, u'.ownBlock = some n ∧ w.heap.size ≤ n) →
        PcOwn base e es (w1.setCell ⟨g, i * 2 + 1, none⟩ u') (.slice (some ⟨g, 0, none⟩) ps.length cap) (ps.set i ⟨p.part, r'⟩) := by
  obtain ⟨cells, h1, h2⟩ := h
  have hi : i < ps.length := (List.getElem?_eq_some_iff.1 hp).1
  obtain ⟨u, hu, ho⟩ := h1.own i p.word (by simp [hp])
  refine ⟨u, h1.cell (by simp) hu, h1.free (by simp) _, ho, fun hg => h1.sepv i u (by simpa using hi) hu g hg rfl, fun u' w1 r' ho' hc hb => ?_⟩
  have h1' : Nest base e 2 1 es 1 VStr (fun _ => False) w (.slice (some ⟨g, 0, none⟩) (ps.map (·.word)).length cap) cells (ps.map (·.word)) := by simpa using h1
  have := h1'.upd vStr_free (i := i) (by simpa using hi) hu ho' hc hb (by decide)
  refine ⟨cells.set (i * 2 + 1) u', ?_, fun j q hq => ?_⟩
  · rw [List.map_set]; simpa using this
  · rw [List.getElem?_set_ne (by omega)]
    by_cases hji : j = i
    · subst hji
      rw [List.getElem?_set_self hi] at hq
      cases hq
      exact h2 j p hp
    · rw [List.getElem?_set_ne (Ne.symm hji)] at hq
      exact h2 j q hq
theorem PcOwn.push {base e es : Nat} {w w1 : World} {v v' : Value} {ps : List Piece} {p : Int} (h : PcOwn base e es w v ps)
    (hrow : ∀ cells, w.ownsRow base e 2 v ps.length cells → w1.ownsRow base e 2 v' (ps.length + 1) (cells ++ [.int .i64 p, .slice none 0 0])) (hc : Chg (ownOf v) w w1) (hb : v'.ownBlock = v.ownBlock ∨ v'.ownBlock = some w.heap.size) :
    PcOwn base e es w1 v' (ps ++ [⟨p, []⟩]) := by
  obtain ⟨cells, h1, h2⟩ := h
  have hr := hrow cells (by simpa using h1.row)
  have hcl : cells.length = ps.length * 2 := by have := h1.row.1; simpa using this
  refine ⟨cells ++ [.int .i64 p, .slice none 0 0], ?_, fun i q hq => ?_⟩
  · have := h1.push vStr_free (w1 := w1) (v' := v') (news := [.int .i64 p, .slice none 0 0]) (by simpa using hr) hc hb rfl
    simpa using this
  · rcases Nat.lt_or_ge i ps.length with hi | hi
    · rw [List.getElem?_append_left hi] at hq
      rw [List.getElem?_append_left (by omega)]
      exact h2 i q hq
    · rw [List.getElem?_append_right hi] at hq
      have hi0 : i - ps.length = 0 := by have := (List.getElem?_eq_some_iff.1 hq).1; simp at this; omega
      rw [hi0] at hq
      simp at hq
      subst hq
      rw [List.getElem?_append_right (by omega), hcl, show i * 2 - ps.length * 2 = 0 by omega]
      rfl
theorem PcOwn.rd {base e es : Nat} {w : World} {v : Value} {ps : List Piece} (M : Mut) (hM : ∀ b, base ≤ b → ¬ M b) (h : PcOwn base e es w v ps) (hl : ps.length ≤ 140737488355328) (hw : ∀ p ∈ ps, p.word.length ≤ 140737488355328) : Pieces M w v ps := by
  cases hps : ps with
  | nil =>
    subst hps
    obtain ⟨cells, h1, _⟩ := h
    rcases h1.row.2 with ⟨h2, _⟩ | ⟨g, cap, cur, h2, _, _, h4, h5, _⟩
    · rw [h2]; exact SlR.nil
    · rw [h2]
      exact ⟨_, cap, rfl, h4, by unfold maxLen at h5; exact h5, by simp, (by intro h; cases h), fun i x hx => by simp at hx⟩
  | cons p0 ps0 =>
    rw [← hps]
    obtain ⟨g, cap, rfl, hc1, hc2, hg1, hg2⟩ := h.form (by rw [hps]; simp)
    refine ⟨_, cap, rfl, hc1, hc2, hl, (by intro h; cases h), fun i x hx => ⟨g, 0, rfl, ?_⟩⟩
    obtain ⟨u, hu, _, ho, _⟩ := h.word hx
    have hp := h.part hx
    rw [Nat.zero_add]
    refine ⟨⟨hp, hM g hg1⟩, u, ⟨hu, hM g hg1⟩, ?_⟩
    have hro := ho.rd evStr (hw x (List.mem_of_getElem? hx))
    obtain ⟨a, c, rfl, k1, k2, k3, k4, k5⟩ := id hro
    refine ⟨a, c, rfl, k1, k2, k3, k4, fun j s hs => ?_⟩
    obtain ⟨b, off, rfl, ⟨⟨hcell, _⟩, hsz⟩⟩ := k5 j s hs
    have hbb : base ≤ b := (ho.lt b (by rfl)).1
    exact ⟨b, off, rfl, ⟨hcell, hM b hbb⟩, hsz⟩

theorem PcOwn.append {P : Program} {t e es bytes base : Nat} (hT : ElemT P t e 2 bytes) {w : World} {v : Value} {ps : List Piece} (p : Int) (ty : TypeId) (h : PcOwn base e es w v ps) (hl : (ps.length + 1) * bytes ≤ 140737488355328) (hl2 : ps.length + 1 ≤ 140737488355328) (hb : base ≤ w.heap.size) :
    ∃ v' w', (Builtin.append_ #[t, t] ty #[v, .slice (some ⟨w.heap.size, 0, none⟩) 1 1]).run P (w.alloc (.cells #[.int .i64 p, .slice none 0 0] e)) = .ok v' w' ∧ PcOwn base e es w' v' (ps ++ [⟨p, []⟩]) ∧ Chg (ownOf v) (w.alloc (.cells #[.int .i64 p, .slice none 0 0] e)) w' := by
  obtain ⟨i, z, hi, hz, hsize, hby, hzs⟩ := hT.hi
  obtain ⟨cells, h1, h2⟩ := id (h.up (Ext.alloc w (.cells #[.int .i64 p, .slice none 0 0] e)))
  have hcell : ∀ j u, [Value.int .i64 p, Value.slice none 0 0][j]? = some u → (w.alloc (.cells #[.int .i64 p, .slice none 0 0] e)).cell? ((⟨w.heap.size, 0, none⟩ : Addr).add j) = some u := by
    intro j u hu
    match j with
    | 0 => simp at hu; subst hu; simp [Addr.add]
    | 1 => simp at hu; subst hu; simp [Addr.add]
    | j + 2 => simp at hu
  obtain ⟨v', w', hr, ho, hg, _, hbb⟩ := run_append_own_at (P := P) (w.alloc (.cells #[.int .i64 p, .slice none 0 0] e)) base t ty e i z 2 bytes hT.ht hi hz hsize hby hzs hT.hk v ps.length cells (by simpa using h1.row) ⟨w.heap.size, 0, none⟩ 1 1 [.int .i64 p, .slice none 0 0] rfl hcell (by intro u hu; simp at hu; rcases hu with rfl | rfl <;> rfl) (by unfold maxLen; omega) hl (by simp; omega)
  have hchg : Chg (ownOf v) (w.alloc (.cells #[.int .i64 p, .slice none 0 0] e)) w' := (Chg.grown hg).wid fun b hb' => .inl hb'
  have h' : PcOwn base e es (w.alloc (.cells #[.int .i64 p, .slice none 0 0] e)) v ps := ⟨cells, h1, h2⟩
  refine ⟨v', w', hr, h'.push (fun cells' hc' => ?_) hchg hbb, hchg⟩
  have : cells' = cells := by
    have hr1 := h1.row
    simp only [List.length_map] at hr1
    rcases hc'.2 with ⟨a1, a2⟩ | ⟨g, cap, cur, a1, _, a3, _, _, _, a7⟩
    · rcases hr1.2 with ⟨b1, b2⟩ | ⟨g', cap', cur', b1, _, b3, _, _, _, b7⟩
      · have e1 := hc'.1; have e2 := hr1.1
        rw [a2] at e1 e2
        simp at e1 e2
        rw [e1, e2]
      · rw [a1] at b1; cases b1
    · rcases hr1.2 with ⟨b1, b2⟩ | ⟨g', cap', cur', b1, _, b3, _, _, _, b7⟩
      · rw [a1] at b1; cases b1
      · rw [a1] at b1
        cases b1
        rw [a3] at b3
        cases b3
        rw [← a7, ← b7]
  rw [this]
  exact ho
end Go.Cb

namespace Go.Cb
open Go.RowKit
set_option linter.all false

end Go.Cb

namespace Go.Cb
open Go.RowKit Go.WideMaps
set_option linter.all false

structure MapT (P : Program) (t ks e : Nat) : Prop where
  ht : P.underlying t = some (.map ks e)
  hk : P.underlying ks = some .string
  he : P.underlying e = some (.int .i64)
  hz : ∀ w, (zeroValue e).run P w = .ok (.int .i64 0) w
def MapR (P : Program) (ks e : Nat) (w : World) (b n : Nat) (f : ByteArray → Option Int) : Prop :=
  ∃ D : DataW Unit, w.ownsMap P ks (plainElem P e) b n D ∧ ∀ s : ByteArray, Maps.has D (.string s.data.toList) = (f s).isSome ∧ D.atKey (.string s.data.toList) (.lit (.int .i64 0)) = .lit (.int .i64 ((f s).getD 0))

theorem MapR.lt {P : Program} {ks e : Nat} {w : World} {b n : Nat} {f : ByteArray → Option Int} (h : MapR P ks e w b n f) : b < w.heap.size := let ⟨_, h1, _⟩ := h; h1.lt
theorem MapR.mono {P : Program} {ks e : Nat} {w : World} {b n m : Nat} {f : ByteArray → Option Int} (h : MapR P ks e w b n f) (hm : n ≤ m) : MapR P ks e w b m f := let ⟨D, h1, h2⟩ := h; ⟨D, h1.mono hm, h2⟩
theorem MapR.mv {P : Program} {ks e : Nat} {w w' : World} {b n : Nat} {f : ByteArray → Option Int} {N : Mut} (h : MapR P ks e w b n f) (hc : Chg N w w') (hN : ¬ N b) : MapR P ks e w' b n f := by
  have hl := h.lt
  obtain ⟨D, ⟨es, clock, hb, h1⟩, h2⟩ := h
  exact ⟨D, ⟨es, clock, (hc.block b hl hN).trans hb, h1⟩, h2⟩
theorem MapR.up {P : Program} {ks e : Nat} {w w' : World} {b n : Nat} {f : ByteArray → Option Int} (h : MapR P ks e w b n f) (hc : Ext w w') : MapR P ks e w' b n f := h.mv (hc.chg (M := fun _ => False)) (fun h => h)
end Go.Cb

namespace Go.Cb
open Go.RowKit
set_option linter.all false

section
variable {P : Program} {ops : Array Oper} {Q : Exit → Act → World → Prop} {md : Region.Mode} {C : World → Prop} {z : Nat}

def onlyN (Q : Exit → Act → World → Prop) : Exit → Act → World → Prop
  | .normal, a, w => Q .normal a w
  | _, _, _ => False
theorem wp_onlyN {Q' : Exit → Act → World → Prop} {o : Oper} {a : Act} {w : World} {K : Act → World → Prop} (h : o.wp P a w K (onlyN Q')) : o.wp P a w K Q := by
  unfold Oper.wp at *
  generalize (execOp a.eval o).run P w = r at *
  cases r with
  | ok n w' =>
    cases n <;> simp only [Oper.upon] at h ⊢ <;> try exact h
    refine Calls.mono h fun e w'' he => ?_
    cases e with
    | returned u => exact he
    | panicked c => exact he.elim
    | outgrown => obtain ⟨_, _, hf⟩ := he; exact hf.elim
  | halt x w' =>
    cases x <;> simp only [Oper.upon] at h ⊢
    exact h.elim
theorem wpOp_onlyN {i : Nat} {a : Act} {w : World} {K : Act → World → Prop} (h : wpOp P ops (onlyN Q) i K a w) : wpOp P ops Q i K a w := by
  unfold wpOp at *
  split
  · rename_i ho; simp only [ho] at h; exact h
  · rename_i o ho
    simp only [ho] at h
    split
    · rename_i hw
      simp only [hw, if_true] at h
      rcases h with h | ⟨_, _, _, hf⟩
      · exact .inl (wp_onlyN h)
      · exact hf.elim
    · rename_i hw; simp only [hw] at h; exact h

def YieldsC (P : Program) (ops : Array Oper) (C : World → Prop) (o : Oper) (v : Value) (a : Act) : Prop :=
  (Region.wanted o (yielded ops a.tmps) = true ∧ ∀ w, C w → (execOp a.eval o).run P w = .ok (.value v) w) ∨
  (Region.wanted o (yielded ops a.tmps) = false ∧ v = undef)
theorem YieldsC.ifS {o : Oper} {v : Value} {a : Act} (h : YieldsC P ops C o v a) : YieldsIf P ops C o v a := h

theorem wpOp_of_list {Q' : Exit → Act → World → Prop} {k : Nat} {o : Oper} (ho : ops[k]? = some o) {a : Act} {w : World} {K : Act → World → Prop} (hK : ∀ a w, Q' .normal a w → K a w) (h : wpList P ops (onlyN Q') [o] a w) : wpOp P ops (onlyN Q) k K a w := by
  unfold wpOp
  simp only [ho]
  unfold wpList at h
  split
  · rename_i hw
    rw [if_pos hw] at h
    rcases h with h | ⟨_, _, _, hf⟩
    · exact .inl (wp_onlyN (Oper.wp_mono (fun a w h => hK a w h) h))
    · exact hf.elim
  · rename_i hw
    rw [if_neg hw] at h
    exact hK _ _ h
def waitsFor (md : Region.Mode) (ops : Array Oper) (z i : Nat) : Bool := match ops[z]? with
  | some oz => oz.after.any fun e => Region.binds md e && e.on == i
  | none => false
def Cls (p : World → Prop) : Type := { w : World // p w }
def Cls.wd {p : World → Prop} (y : Cls p) : World := y.1
theorem Cls.ok {p : World → Prop} (y : Cls p) : p y.wd := y.2
end
end Go.Cb

namespace Go.Cb
open Go.RowKit
set_option linter.all false

section
variable {P : Program} {ops : Array Oper} {Q : Exit → Act → World → Prop} {md : Region.Mode} {C : World → Prop} {z : Nat}

end
end Go.Cb
