/-
  Common ground for the walks: worlds that have only grown ('Ext', 'World.plus'), how Go's slices of strings, numbers and structs read as lists, and a rule for regions that draw their order and whose callees may make memory. No program in sight.
  A region that draws its order: its first operations yield values in every world of a class and leave it; what is left comes in one order, each but the last leaving a world of the class. So it is as if the first ones were carried out first, in the order of the text, then the others. No program in sight.
  A region that draws its order, by a plan: each operation either yields its value in every world of a class ('true'), or is the only one that may come up ('false'). No program in sight.
  Slices that a call makes itself and appends to: what they hold, read as a list. No program in sight.
  A slice that a call owns, one cell of each element of which is itself a slice that the call owns: rows that are appended to one by one. No program in sight.
  Owned slices, more: a middle part, a store, make. No program in sight.
  Maps from strings to numbers, read as functions. No program in sight.
-/
import Derived.WalkKit
import Derived.WalkSpells
import Derived.WalkLawsBesides
import Derived.Handy
import Derived.BigQuiet
import Derived.Lib.Hide
import Derived.OrdersHeld
import Derived.Maps.AppendAt
import Derived.Maps.Own
import Derived.Maps.OwnOps
import Derived.Maps.OwnSet
import Derived.StringKeys
namespace Go.Cb
open Go.RowKit

/-! ### Worlds that have grown -/
/-- Nothing that was there has changed. -/
abbrev Ext (w w' : World) : Prop := Below w.heap.size w w'
theorem Ext.rfl' (w : World) : Ext w w := Below.refl _ _
theorem Ext.tr {a b c : World} (h : Ext a b) (k : Ext b c) : Ext a c := Below.trans h (k.mono h.size)
theorem Ext.alloc (w : World) (o : Obj) : Ext w (w.alloc o) := (Below.refl _ _).alloc (Nat.le_refl _) o
theorem Ext.drew (w : World) : Ext w w.drew := (Below.refl _ _).drew
theorem Ext.to_alloc {a w : World} (h : Ext a w) (o : Obj) : Ext a (w.alloc o) := h.tr (Ext.alloc w o)
theorem Ext.to_drew {a w : World} (h : Ext a w) : Ext a w.drew := h.tr (Ext.drew w)
theorem Ext.to_drewN {a w : World} (h : Ext a w) (n : Nat) : Ext a (w.drewN n) := h.tr ⟨rfl, rfl, rfl, Nat.le_refl _, fun _ _ => rfl⟩
theorem Ext.cell {w w' : World} (h : Ext w w') {p : Addr} {v : Value} (hp : w.cell? p = some v) : w'.cell? p = some v := cell_later h hp
theorem Ext.block {w w' : World} (h : Ext w w') {b : Nat} {o : Obj} (hp : w.heap[b]? = some o) : w'.heap[b]? = some o := by
  have hlt : b < w.heap.size := by
    rcases Nat.lt_or_ge b w.heap.size with h1 | h1
    · exact h1
    · rw [Array.getElem?_eq_none h1] at hp; cases hp
  rw [Below.block h b hlt]; exact hp

/-- Blocks more, and some number of draws. -/
structure More where
  objs : Array Obj
  drawn : Nat
instance : Inhabited More := ⟨⟨#[], 0⟩⟩
/-- The world with blocks more, and some number of draws. -/
def _root_.Go.World.plus (w : World) (x : More) : World := { w with heap := w.heap ++ x.objs, drawn := x.drawn }
theorem plus_ext (w : World) (x : More) : Ext w (w.plus x) :=
  ⟨rfl, rfl, rfl, by simp [World.plus], fun k hk => by simp [World.plus, Array.getElem?_append_left hk]⟩
theorem ext_plus {w w' : World} (h : Ext w w') : ∃ x, w' = w.plus x := by
  refine ⟨⟨w'.heap.extract w.heap.size w'.heap.size, w'.drawn⟩, ?_⟩
  have e : w'.heap = w.heap ++ w'.heap.extract w.heap.size w'.heap.size := by
    apply Array.ext_getElem?
    intro i
    rcases Nat.lt_or_ge i w.heap.size with h1 | h1
    · rw [Array.getElem?_append_left h1]; exact Below.block h i h1
    · rw [Array.getElem?_append_right h1, Array.getElem?_extract]
      split
      · rw [Nat.add_sub_cancel' h1]
      · rw [Array.getElem?_eq_none]; omega
  obtain ⟨h1, h2, h3, h4, h5⟩ := h
  cases w; cases w'
  simp only [World.plus, World.mk.injEq] at *
  exact ⟨e, h2, trivial, h1, h3⟩
theorem plus_cell {w : World} {p : Addr} {v : Value} (h : w.cell? p = some v) (x : More) : (w.plus x).cell? p = some v := (plus_ext w x).cell h
/-- A callee's contract, met in a world that has grown. -/
theorem plus_call {P : Program} {f : FuncId} {args : Array Value} {w : World} {x : More} {v : Value}
    (h : Calls P f args (w.plus x) fun e w' => e = .returned v ∧ Ext (w.plus x) w') : Calls P f args (w.plus x) fun e w'' => e = .returned v ∧ ∃ y, w'' = w.plus y :=
  h.mono fun _ _ ⟨he, hm⟩ => ⟨he, ext_plus ((plus_ext w x).tr hm)⟩
/-- .. of a callee that leaves the world alone. -/
theorem plus_call_same {P : Program} {f : FuncId} {args : Array Value} {w : World} {x : More} {v : Value}
    (h : Calls P f args (w.plus x) fun e w' => e = .returned v ∧ w.plus x = w') : Calls P f args (w.plus x) fun e w'' => e = .returned v ∧ ∃ y, w'' = w.plus y :=
  h.mono fun _ _ ⟨he, hm⟩ => ⟨he, x, hm.symm⟩
/-- A REGION THAT DRAWS ITS ORDER, whose operations read and whose callees may make memory, each yielding one value whatever has been made: one walk in the order of the text. -/
theorem wp_region_grow {P : Program} {id : Nat} {Q : Exit → Act → World → Prop} {a : Act} {w : World} {l : List Oper} (hm : P.follows .mixedOrders = true) (hB : Region.lexB .any l.toArray = true)
    (h : wpQuiet P l.toArray (fun w' => ∃ x, w' = w.plus x) (fun a' => ∀ w', (∃ x, w' = w.plus x) → Q .normal a' w') l a) : (Code.region id l.toArray true).wp P Q a w :=
  wp_region_quiet (C := fun w' => ∃ x, w' = w.plus x) hm hB (ext_plus (Ext.drew w)) (by simpa using h)

/-! ### Worlds in which some blocks may have changed -/
/-- The blocks that may change. -/
abbrev Mut := Nat → Prop
/-- No block has gone, and of those that were there only such as M names have changed. -/
structure Chg (M : Mut) (w w' : World) : Prop where
  os : w'.os = w.os
  tape : w'.tape = w.tape
  output : w'.output = w.output
  size : w.heap.size ≤ w'.heap.size
  block : ∀ k, k < w.heap.size → ¬ M k → w'.heap[k]? = w.heap[k]?
theorem Chg.rfl' (M : Mut) (w : World) : Chg M w w := ⟨rfl, rfl, rfl, Nat.le_refl _, fun _ _ _ => rfl⟩
theorem Ext.chg {M : Mut} {w w' : World} (h : Ext w w') : Chg M w w' := ⟨h.os, h.tape, h.output, h.size, fun k hk _ => Below.block h k hk⟩
theorem Chg.ext {M : Mut} {w w' : World} (h : Chg M w w') (hM : ∀ b, b < w.heap.size → ¬ M b) : Ext w w' := ⟨h.os, h.tape, h.output, h.size, fun k hk => h.block k hk (hM k hk)⟩
/-- .. below a bound from which on alone changes are made. -/
theorem Chg.below {M : Mut} {w w' : World} {B : Nat} (h : Chg M w w') (hM : ∀ b, b < B → ¬ M b) (hB : B ≤ w.heap.size) : Below B w w' := ⟨h.os, h.tape, h.output, h.size, fun k hk => h.block k (by omega) (hM k hk)⟩
/-- Two steps; the second may change what the first may, and what the first made. -/
theorem Chg.tr {M N : Mut} {a b c : World} (h : Chg M a b) (k : Chg N b c) (hN : ∀ i, N i → M i ∨ a.heap.size ≤ i) : Chg M a c :=
  ⟨k.os.trans h.os, k.tape.trans h.tape, k.output.trans h.output, Nat.le_trans h.size k.size, fun i hi hm =>
    (k.block i (Nat.lt_of_lt_of_le hi h.size) (fun hn => (hN i hn).elim hm (by omega))).trans (h.block i hi hm)⟩
theorem Chg.tr' {M : Mut} {a b c : World} (h : Chg M a b) (k : Chg M b c) : Chg M a c := h.tr k fun _ h => .inl h
theorem Chg.wid {M N : Mut} {a b : World} (h : Chg M a b) (hN : ∀ i, M i → N i ∨ a.heap.size ≤ i) : Chg N a b :=
  ⟨h.os, h.tape, h.output, h.size, fun i hi hn => h.block i hi fun hm => (hN i hm).elim hn (by omega)⟩
theorem Chg.grown {w w' : World} {row : Option Nat} (h : w.grownBy w' row) : Chg (fun b => row = some b) w w' :=
  ⟨h.os, h.tape, h.output, h.size, fun k hk hm => h.block k hk (fun e => hm e.symm)⟩
theorem Chg.setCell (w : World) (p : Addr) (u : Value) : Chg (fun b => b = p.block) w (w.setCell p u) :=
  ⟨rfl, rfl, rfl, by simp [World.setCell], fun k _ hm => Below.heap_setCell _ _ _ _ hm⟩
/-- A cell that holds a value, in a block that does not change. -/
def Cell (M : Mut) (w : World) (b o : Nat) (v : Value) : Prop := w.cell? ⟨b, o, none⟩ = some v ∧ ¬ M b
theorem Cell.mv {M : Mut} {w w' : World} {b o : Nat} {v : Value} (h : Cell M w b o v) (e : Chg M w w') : Cell M w' b o v := by
  have hlt : b < w.heap.size := World.block_lt_of_cell? _ _ h.1
  exact ⟨(World.cell?_of_block (w := w) (a := ⟨b, o, none⟩) (e.block b hlt h.2)).trans h.1, h.2⟩
theorem Cell.re {M N : Mut} {w : World} {b o : Nat} {v : Value} (h : Cell M w b o v) (hN : ∀ i, N i → M i ∨ w.heap.size ≤ i) : Cell N w b o v := by
  have hlt : b < w.heap.size := World.block_lt_of_cell? _ _ h.1
  exact ⟨h.1, fun hn => (hN b hn).elim h.2 (by omega)⟩

/-! ### How memory reads -/
/-- How the cells of one element, from an offset of a block on, read. -/
abbrev Elt (α : Type) := Mut → World → Nat → Nat → α → Prop
/-- How a value reads. -/
abbrev Rd (α : Type) := Mut → World → Value → α → Prop
/-- What is read stays read while only blocks change that it does not lean on; and what may change may be named anew. -/
structure Elt.Mono {α : Type} (E : Elt α) : Prop where
  mv : ∀ {M w w' b o x}, E M w b o x → Chg M w w' → E M w' b o x
  re : ∀ {M N w b o x}, E M w b o x → (∀ i, N i → M i ∨ w.heap.size ≤ i) → E N w b o x
structure Rd.Mono {α : Type} (R : Rd α) : Prop where
  mv : ∀ {M w w' v x}, R M w v x → Chg M w w' → R M w' v x
  re : ∀ {M N w v x}, R M w v x → (∀ i, N i → M i ∨ w.heap.size ≤ i) → R N w v x

/-- A slice whose elements, of k cells each, read as a list. -/
def SlR {α : Type} (k : Nat) (E : Elt α) : Rd (List α) := fun M w v l =>
  ∃ a c, v = .slice a l.length c ∧ l.length ≤ c ∧ c ≤ 9223372036854775807 ∧ l.length ≤ 140737488355328 ∧ (a = none → c = 0) ∧ ∀ i x, l[i]? = some x → ∃ b off, a = some ⟨b, off, none⟩ ∧ E M w b (off + i * k) x
theorem SlR.mono {α : Type} {k : Nat} {E : Elt α} (hE : E.Mono) : (SlR k E).Mono where
  mv := by
    rintro M w w' v l ⟨a, c, rfl, h1, h2, h4, h5, h3⟩ h
    exact ⟨a, c, rfl, h1, h2, h4, h5, fun i x hx => let ⟨b, off, ha, he⟩ := h3 i x hx; ⟨b, off, ha, hE.mv he h⟩⟩
  re := by
    rintro M N w v l ⟨a, c, rfl, h1, h2, h4, h5, h3⟩ h
    exact ⟨a, c, rfl, h1, h2, h4, h5, fun i x hx => let ⟨b, off, ha, he⟩ := h3 i x hx; ⟨b, off, ha, hE.re he h⟩⟩
/-- Two ways: no element; or an address, and each element from there on. -/
theorem SlR.cases {α : Type} {k : Nat} {E : Elt α} {M : Mut} {w : World} {v : Value} {l : List α} (h : SlR k E M w v l) :
    (∃ a c, v = .slice a 0 c ∧ l = [] ∧ c ≤ 9223372036854775807) ∨
    (∃ b off c, v = .slice (some ⟨b, off, none⟩) l.length c ∧ l.length ≤ c ∧ c ≤ 9223372036854775807 ∧ 0 < l.length ∧ ∀ i x, l[i]? = some x → E M w b (off + i * k) x) := by
  obtain ⟨a, c, rfl, h1, h2, h4, h5, h3⟩ := h
  cases l with
  | nil => exact .inl ⟨a, c, rfl, rfl, h2⟩
  | cons x l =>
    obtain ⟨b, off, rfl, _⟩ := h3 0 x rfl
    refine .inr ⟨b, off, c, rfl, h1, h2, by simp, fun i y hy => ?_⟩
    obtain ⟨b', off', he, hE⟩ := h3 i y hy
    cases he
    exact hE
theorem SlR.nil {α : Type} {k : Nat} {E : Elt α} {M : Mut} {w : World} : SlR k E M w (.slice none 0 0) [] := ⟨none, 0, rfl, Nat.le_refl _, by decide, by simp, fun _ => rfl, fun i x h => by simp at h⟩
theorem SlR.len {α : Type} {k : Nat} {E : Elt α} {M : Mut} {w : World} {v : Value} {l : List α} (h : SlR k E M w v l) : l.length ≤ 140737488355328 := by
  obtain ⟨a, c, rfl, h1, h2, h4, h3⟩ := h; omega

def EStr : Elt ByteArray := fun M w b o s => Cell M w b o (.string s) ∧ s.size ≤ 140737488355328
def EInt : Elt Int := fun M w b o n => Cell M w b o (.int .i64 n) ∧ -9223372036854775808 ≤ n ∧ n ≤ 9223372036854775807
def EBool : Elt Bool := fun M w b o t => Cell M w b o (.bool t)
def EVal {α : Type} (R : Rd α) : Elt α := fun M w b o x => ∃ u, Cell M w b o u ∧ R M w u x
theorem EStr.mono : EStr.Mono := ⟨fun ⟨h1, h2⟩ h => ⟨h1.mv h, h2⟩, fun ⟨h1, h2⟩ h => ⟨h1.re h, h2⟩⟩
theorem EInt.mono : EInt.Mono := ⟨fun ⟨h1, h2⟩ h => ⟨h1.mv h, h2⟩, fun ⟨h1, h2⟩ h => ⟨h1.re h, h2⟩⟩
theorem EBool.mono : EBool.Mono := ⟨fun h1 h => Cell.mv h1 h, fun h1 h => Cell.re h1 h⟩
theorem EVal.mono {α : Type} {R : Rd α} (hR : R.Mono) : (EVal R).Mono := ⟨fun ⟨u, h1, h2⟩ h => ⟨u, h1.mv h, hR.mv h2 h⟩, fun ⟨u, h1, h2⟩ h => ⟨u, h1.re h, hR.re h2 h⟩⟩

/-- A slice of strings. -/
abbrev Strs : Rd (List ByteArray) := SlR 1 EStr
theorem Strs.mono : Strs.Mono := SlR.mono EStr.mono
theorem Strs.up {M : Mut} {w w' : World} {v : Value} {l : List ByteArray} (h : Strs M w v l) (e : Ext w w') : Strs M w' v l := Strs.mono.mv h e.chg
/-- A slice of slices of strings. -/
abbrev Strss : Rd (List (List ByteArray)) := SlR 1 (EVal Strs)
theorem Strss.mono : Strss.Mono := SlR.mono (EVal.mono Strs.mono)
theorem Strss.up {M : Mut} {w w' : World} {v : Value} {l : List (List ByteArray)} (h : Strss M w v l) (e : Ext w w') : Strss M w' v l := Strss.mono.mv h e.chg

/-- A variant: a word and how many cases have it. -/
structure Var where
  acts : List ByteArray
  count : Int
def EVar : Elt Var := fun M w b o x => (∃ u, Cell M w b o u ∧ Strs M w u x.acts) ∧ Cell M w b (o + 1) (.int .i64 x.count) ∧ -9223372036854775808 ≤ x.count ∧ x.count ≤ 9223372036854775807
theorem EVar.mono : EVar.Mono := ⟨fun ⟨⟨u, h1, h2⟩, h3, h4⟩ h => ⟨⟨u, h1.mv h, Strs.mono.mv h2 h⟩, h3.mv h, h4⟩, fun ⟨⟨u, h1, h2⟩, h3, h4⟩ h => ⟨⟨u, h1.re h, Strs.mono.re h2 h⟩, h3.re h, h4⟩⟩
abbrev Vars : Rd (List Var) := SlR 2 EVar
theorem Vars.mono : Vars.Mono := SlR.mono EVar.mono
theorem Vars.up {M : Mut} {w w' : World} {v : Value} {l : List Var} (h : Vars M w v l) (e : Ext w w') : Vars M w' v l := Vars.mono.mv h e.chg
abbrev Varss : Rd (List (List Var)) := SlR 1 (EVal Vars)
theorem Varss.mono : Varss.Mono := SlR.mono (EVal.mono Vars.mono)
theorem Varss.up {M : Mut} {w w' : World} {v : Value} {l : List (List Var)} (h : Varss M w v l) (e : Ext w w') : Varss M w' v l := Varss.mono.mv h e.chg

/-- A cut: its kind, its parts. -/
structure Cut where
  kind : Int
  parts : List (List ByteArray)
def CutR : Rd Cut := fun M w v c => ∃ u, v = .agg #[.int .i64 c.kind, u] ∧ Strss M w u c.parts ∧ -9223372036854775808 ≤ c.kind ∧ c.kind ≤ 9223372036854775807
theorem CutR.mono : CutR.Mono := ⟨fun ⟨u, h1, h2, h3⟩ h => ⟨u, h1, Strss.mono.mv h2 h, h3⟩, fun ⟨u, h1, h2, h3⟩ h => ⟨u, h1, Strss.mono.re h2 h, h3⟩⟩
theorem CutR.up {M : Mut} {w w' : World} {v : Value} {c : Cut} (h : CutR M w v c) (e : Ext w w') : CutR M w' v c := CutR.mono.mv h e.chg

/-! ### Small things -/
theorem ret_bool {a b : Bool} (h : a = b) : Ending.returned (.bool a) = .returned (.bool b) := by rw [h]
theorem ret_int {k : IntKind} {a b : Int} (h : a = b) : Ending.returned (.int k a) = .returned (.int k b) := by rw [h]
theorem get_some {α : Type} {l : List α} {i : Nat} (h : i < l.length) : ∃ x, l[i]? = some x := ⟨l[i], by simp [h]⟩
/-- The index of the first element of a kind, as Go tells it. -/
def idx {α : Type} (p : α → Bool) (l : List α) : Int := match l.findIdx? p with | some i => i | none => -1
theorem idx_any {α : Type} (p : α → Bool) (l : List α) : decide (0 ≤ idx p l) = l.any p := by
  unfold idx
  cases h : l.findIdx? p with
  | none => rw [List.findIdx?_eq_none_iff] at h; symm; simpa using h
  | some i => rw [List.findIdx?_eq_some_iff_getElem] at h; obtain ⟨hi, hp, _⟩ := h; symm; simp; exact ⟨_, List.getElem_mem hi, hp⟩
theorem idx_here {α : Type} {p : α → Bool} {l : List α} {k : Nat} {x : α} (h : ∀ i y, i < k → l[i]? = some y → p y = false) (hx : l[k]? = some x) (hp : p x = true) : idx p l = k := by
  unfold idx
  obtain ⟨hk, rfl⟩ := List.getElem?_eq_some_iff.1 hx
  have : l.findIdx? p = some k := by
    rw [List.findIdx?_eq_some_iff_getElem]
    exact ⟨hk, hp, fun j hj => by simp [h j _ hj (List.getElem?_eq_getElem (by omega))]⟩
  rw [this]
theorem idx_none {α : Type} {p : α → Bool} {l : List α} (h : ∀ i y, i < l.length → l[i]? = some y → p y = false) : idx p l = -1 := by
  unfold idx
  have : l.findIdx? p = none := by
    rw [List.findIdx?_eq_none_iff]
    intro x hx
    obtain ⟨i, hi, rfl⟩ := List.getElem_of_mem hx
    exact h i _ hi (List.getElem?_eq_getElem hi)
  rw [this]
end Go.Cb

namespace Go.Cb
open Go.RowKit
set_option linter.all false

section
variable {P : Program} {ops : Array Oper} {Q : Exit → Act → World → Prop} {md : Region.Mode} {C : World → Prop} {z : Nat}

/-- Only the way through counts. -/
def onlyN (Q : Exit → Act → World → Prop) : Exit → Act → World → Prop
  | .normal, a, w => Q .normal a w
  | _, _, _ => False
theorem wp_onlyN {Q' : Exit → Act → World → Prop} {o : Oper} {a : Act} {w : World} {K : Act → World → Prop} (h : o.wp P a w K (onlyN Q')) : o.wp P a w K Q := by
  unfold Oper.wp at *
  generalize (execOp a.eval o).run P w = r at *
  cases r with
  | ok n w' =>
    cases n <;> simp only [Oper.upon] at h ⊢ <;> try exact h
    refine Calls.mono h fun e w'' he => ?_
    cases e with
    | returned u => exact he
    | panicked c => exact he.elim
    | outgrown => obtain ⟨_, _, hf⟩ := he; exact hf.elim
  | halt x w' =>
    cases x <;> simp only [Oper.upon] at h ⊢
    exact h.elim
theorem wpOp_onlyN {i : Nat} {a : Act} {w : World} {K : Act → World → Prop} (h : wpOp P ops (onlyN Q) i K a w) : wpOp P ops Q i K a w := by
  unfold wpOp at *
  split
  · rename_i ho; simp only [ho] at h; exact h
  · rename_i o ho
    simp only [ho] at h
    split
    · rename_i hw
      simp only [hw, if_true] at h
      rcases h with h | ⟨_, _, _, hf⟩
      · exact .inl (wp_onlyN h)
      · exact hf.elim
    · rename_i hw; simp only [hw] at h; exact h

/-- In state a, in every world of the class, the operation leaves v in its temporary and does nothing else. -/
def YieldsC (P : Program) (ops : Array Oper) (C : World → Prop) (o : Oper) (v : Value) (a : Act) : Prop :=
  (Region.wanted o (yielded ops a.tmps) = true ∧ ∀ w, C w → (execOp a.eval o).run P w = .ok (.value v) w) ∨
  (Region.wanted o (yielded ops a.tmps) = false ∧ v = undef)
theorem YieldsC.ifS {o : Oper} {v : Value} {a : Act} (h : YieldsC P ops C o v a) : YieldsIf P ops C o v a := h

/-- Whatever order is picked from here on, and the class holds behind every operation but z. -/
def wpAnyZ (P : Program) (md : Region.Mode) (ops : Array Oper) (Q : Exit → Act → World → Prop) (C : World → Prop) (z : Nat) : Nat → Array Bool → Act → World → Prop
  | 0, listed, a, w => Region.ready md ops listed = [] ∧ Q .normal a w
  | fuel + 1, listed, a, w =>
    (Region.ready md ops listed = [] → Q .normal a w) ∧
    ∀ i ∈ Region.ready md ops listed, wpOp P ops (onlyN Q) i (fun a' w' => (i = z ∨ C w') ∧ wpAnyZ P md ops Q C z fuel (listed.setIfInBounds i true) a' w') a w
theorem wpAny_of_Z : ∀ (fuel : Nat) (listed : Array Bool) (a : Act) (w : World), wpAnyZ P md ops Q C z fuel listed a w → wpAny P md ops Q fuel listed a w
  | 0, _, _, _, h => h
  | fuel + 1, _, _, _, h => ⟨h.1, fun i hi => wpOp_onlyN (wpOp_mono (fun a' w' h' => wpAny_of_Z fuel _ a' w' h'.2) (h.2 i hi))⟩

/-- An operation for which z waits may be taken first. -/
theorem wpAnyZ_first {i : Nat} {oi oz : Oper} {v : Value} (hi : ops[i]? = some oi) (hz : ops[z]? = some oz) (hzi : ∃ e ∈ oz.after, Region.binds md e = true ∧ e.on = i)
    (hsel : ∀ (j : Nat) (o : Oper) cs b, ops[j]? = some o → o.op ≠ .select cs b) :
    ∀ (fuel : Nat) (listed : Array Bool) (a : Act) (w : World),
      (∀ j oj, ops[j]? = some oj → j ≠ i → listed.getD j true = false → (∀ e ∈ oj.after, Region.binds md e = true → e.on ≠ i) → oi.apart ops oj = true) →
      i ∈ Region.ready md ops listed → YieldsC P ops C oi v a → C w →
      wpAnyZ P md ops Q C z fuel (listed.setIfInBounds i true) (a.put oi.dst v) w → wpAnyZ P md ops Q C z (fuel + 1) listed a w := by
  intro fuel
  induction fuel with
  | zero =>
    intro listed a w _ hr hy hC H
    refine ⟨fun h => (by rw [h] at hr; cases hr), fun j hj => ?_⟩
    by_cases hji : j = i
    · subst hji; exact YieldsIf.wpOp hi hy.ifS hC ⟨.inr hC, H⟩
    · have := ready_mono hj hji
      rw [H.1] at this
      cases this
  | succ fuel ih =>
    intro listed a w hfree hr hy hC H
    refine ⟨fun h => (by rw [h] at hr; cases hr), fun j hj => ?_⟩
    by_cases hji : j = i
    · subst hji; exact YieldsIf.wpOp hi hy.ifS hC ⟨.inr hC, H⟩
    · have h1 := H.2 j (ready_mono hj hji)
      obtain ⟨hjun, oj, hoj, hall⟩ := mem_ready.1 hj
      have hnot : ∀ e ∈ oj.after, Region.binds md e = true → e.on ≠ i := fun e he hb heq => by
        have h1 := hall e he hb
        have h0 := (mem_ready.1 hr).1
        rw [heq] at h1
        rcases Nat.lt_or_ge i listed.size with h' | h'
        · simp [h'] at h0 h1; rw [h0] at h1; cases h1
        · simp [Array.getElem?_eq_none h'] at h1
      have hjz : j ≠ z := fun hjz => by
        subst hjz
        rw [hz] at hoj
        cases hoj
        obtain ⟨e, he, hb, heq⟩ := hzi
        exact hnot e he hb heq
      have h2 := wpOp_putIf hoj (hfree j oj hoj hji hjun hnot) (fun cs b => hsel i oi cs b hi) (fun cs b => hsel j oj cs b hoj) (fun c a w h => h) hy.ifS h1
      have hfree' : ∀ k ok, ops[k]? = some ok → k ≠ i → (listed.setIfInBounds j true).getD k true = false →
          (∀ e ∈ ok.after, Region.binds md e = true → e.on ≠ i) → oi.apart ops ok = true := fun k ok hk hki hun hno => by
        refine hfree k ok hk hki ?_ hno
        by_cases hjk : j = k
        · subst hjk; exact hjun
        · rw [getD_set_ne true hjk] at hun; exact hun
      refine wpOp_mono (fun a' w' h3 => ?_) h2
      obtain ⟨hy', hor, hK⟩ := h3
      have hC' : C w' := hor.resolve_left hjz
      refine ⟨.inr hC', ih (listed.setIfInBounds j true) a' w' hfree' (ready_mono hr (Ne.symm hji)) hy' hC' ?_⟩
      rw [Array.setIfInBounds_comm _ _ hji]
      exact hK

/-- What is left comes in the order of the text. -/
def wpTail (P : Program) (ops : Array Oper) (C : World → Prop) (Q : Exit → Act → World → Prop) : List Oper → Act → World → Prop
  | [], a, w => Q .normal a w
  | [o], a, w => wpList P ops (onlyN Q) [o] a w
  | o :: rest, a, w => wpList P ops (onlyN fun _ a' w' => C w' ∧ wpTail P ops C Q rest a' w') [o] a w

/-- The list of operations from number k on comes in that order. -/
def tailFrom (md : Region.Mode) (ops : Array Oper) : Nat → Nat → Array Bool → Bool
  | 0, _, listed => (Region.ready md ops listed).isEmpty
  | fuel + 1, k, listed => Region.ready md ops listed == [k] && tailFrom md ops fuel (k + 1) (listed.setIfInBounds k true)
theorem wpOp_of_list {Q' : Exit → Act → World → Prop} {k : Nat} {o : Oper} (ho : ops[k]? = some o) {a : Act} {w : World} {K : Act → World → Prop} (hK : ∀ a w, Q' .normal a w → K a w) (h : wpList P ops (onlyN Q') [o] a w) : wpOp P ops (onlyN Q) k K a w := by
  unfold wpOp
  simp only [ho]
  unfold wpList at h
  split
  · rename_i hw
    rw [if_pos hw] at h
    rcases h with h | ⟨_, _, _, hf⟩
    · exact .inl (wp_onlyN (Oper.wp_mono (fun a w h => hK a w h) h))
    · exact hf.elim
  · rename_i hw
    rw [if_neg hw] at h
    exact hK _ _ h
theorem wpAnyZ_tail : ∀ (l : List Oper) (k : Nat) (listed : Array Bool) (a : Act) (w : World), (∀ j, l[j]? = ops[k + j]?) → tailFrom md ops l.length k listed = true → (l ≠ [] → z + 1 = k + l.length) →
    wpTail P ops C Q l a w → wpAnyZ P md ops Q C z l.length listed a w
  | [], k, listed, a, w, _, hB, _, h => ⟨by simpa [tailFrom] using hB, h⟩
  | [o], k, listed, a, w, hl, hB, hz, h => by
    have h0 : ops[k]? = some o := by simpa using (hl 0).symm
    simp only [List.length_cons, List.length_nil, tailFrom, Bool.and_eq_true, beq_iff_eq] at hB
    obtain ⟨hr, hB'⟩ := hB
    refine ⟨fun hn => (by rw [hr] at hn; cases hn), fun i hi => ?_⟩
    rw [hr] at hi
    obtain rfl : i = k := by simpa using hi
    have hzz := hz (by simp)
    simp at hzz
    exact wpOp_of_list (Q' := Q) h0 (fun a' w' hq => ⟨.inl (by omega), ⟨by simpa using hB', hq⟩⟩) h
  | o :: o' :: rest, k, listed, a, w, hl, hB, hz, h => by
    have h0 : ops[k]? = some o := by simpa using (hl 0).symm
    rw [List.length_cons] at hB ⊢
    simp only [tailFrom, Bool.and_eq_true, beq_iff_eq] at hB
    obtain ⟨hr, hB'⟩ := hB
    refine ⟨fun hn => (by rw [hr] at hn; cases hn), fun i hi => ?_⟩
    rw [hr] at hi
    obtain rfl : i = k := by simpa using hi
    refine wpOp_of_list (Q' := fun _ a' w' => C w' ∧ wpTail P ops C Q (o' :: rest) a' w') h0 (fun a' w' hq => ⟨.inr hq.1, ?_⟩) h
    exact wpAnyZ_tail (o' :: rest) (i + 1) _ a' w' (fun j => by have := hl (j + 1); simpa [Nat.add_assoc, Nat.add_comm 1 j] using this) hB' (fun _ => by have := hz (by simp); simp at this ⊢; omega) hq.2

/-- The first operations, in the order of the text, in every world of the class. -/
def wpYields (P : Program) (ops : Array Oper) (C : World → Prop) (K : Act → Prop) : List Oper → Act → Prop
  | [], a => K a
  | o :: rest, a => ∃ v, YieldsC P ops C o v a ∧ wpYields P ops C K rest (a.put o.dst v)
/-- z waits for number i. -/
def waitsFor (md : Region.Mode) (ops : Array Oper) (z i : Nat) : Bool := match ops[z]? with
  | some oz => oz.after.any fun e => Region.binds md e && e.on == i
  | none => false
def headFrom (md : Region.Mode) (ops : Array Oper) (z rest : Nat) : Nat → Nat → Array Bool → Bool
  | 0, k, listed => tailFrom md ops rest k listed
  | fuel + 1, k, listed => (Region.ready md ops listed).contains k && Region.free md ops listed k && waitsFor md ops z k && headFrom md ops z rest fuel (k + 1) (listed.setIfInBounds k true)
theorem wpAnyZ_head (hs : Region.noSelect ops = true) (tl : List Oper) (hz : z + 1 = ops.size) (ht : tl ≠ []) :
    ∀ (l : List Oper) (k : Nat) (listed : Array Bool) (a : Act) (w : World), (∀ j, (l ++ tl)[j]? = ops[k + j]?) → k + l.length + tl.length = ops.size → headFrom md ops z tl.length l.length k listed = true → C w →
      wpYields P ops C (fun a' => wpTail P ops C Q tl a' w) l a → wpAnyZ P md ops Q C z (l.length + tl.length) listed a w
  | [], k, listed, a, w, hl, hsz, hB, hC, h => by
    simp only [List.length_nil, Nat.zero_add, headFrom, List.nil_append] at *
    exact wpAnyZ_tail tl k listed a w hl hB (fun _ => by omega) h
  | o :: l, k, listed, a, w, hl, hsz, hB, hC, h => by
    have h0 : ops[k]? = some o := by simpa using (hl 0).symm
    simp only [List.length_cons, headFrom, Bool.and_eq_true] at hB hsz
    obtain ⟨⟨⟨hr, hf⟩, hwt⟩, hB'⟩ := hB
    obtain ⟨v, hy, hK⟩ := h
    obtain ⟨oz, hoz⟩ : ∃ oz, ops[z]? = some oz := ⟨ops[z]'(by omega), by simp⟩
    have hzi : ∃ e ∈ oz.after, Region.binds md e = true ∧ e.on = k := by
      simp only [waitsFor, hoz] at hwt
      obtain ⟨e, he, hb⟩ := Array.any_eq_true'.1 hwt
      simp only [Bool.and_eq_true, beq_iff_eq] at hb
      exact ⟨e, he, hb⟩
    rw [show (o :: l).length + tl.length = (l.length + tl.length) + 1 by simp; omega]
    refine wpAnyZ_first h0 hoz hzi (Region.noSelect_spec hs) _ listed a w (Region.free_spec h0 hf) (by simpa using hr) hy hC ?_
    exact wpAnyZ_head hs tl hz ht l (k + 1) _ _ w (fun j => by have := hl (j + 1); simpa [Nat.add_assoc, Nat.add_comm 1 j] using this) (by omega) hB' hC hK
def tailB (n : Nat) (l : List Oper) : Bool := Region.noSelect l.toArray && decide (n < l.length) && headFrom .any l.toArray (l.length - 1) (l.length - n) n 0 (Array.replicate l.length false)

/-- A REGION THAT DRAWS ITS ORDER: the first n operations only read, in every world of the class; the others come in the order of the text, each but the last leaving a world of the class. -/
theorem wp_region_tail {id : Nat} {a : Act} {w : World} {l : List Oper} (n : Nat) (hm : P.follows .mixedOrders = true) (hB : tailB n l = true) (hC : C w.drew)
    (h : wpYields P l.toArray C (fun a' => wpTail P l.toArray C Q (l.drop n) a' w.drew) (l.take n) a) : (Code.region id l.toArray true).wp P Q a w := by
  simp only [tailB, Bool.and_eq_true, decide_eq_true_eq] at hB
  obtain ⟨⟨hs, hn⟩, hB⟩ := hB
  refine wp_region_any hm (wpAny_of_Z (C := C) (z := l.length - 1) _ _ _ _ ?_)
  have hlen : (l.take n).length = n := by simp; omega
  have hdl : (l.drop n).length = l.length - n := by simp
  have := wpAnyZ_head (P := P) (ops := l.toArray) (Q := Q) (md := .any) (C := C) (z := l.length - 1) hs (l.drop n) (by simp; omega) (by intro h; rw [h] at hdl; simp at hdl; omega) (l.take n) 0 (Array.replicate l.length false) a w.drew (by simp) (by simp; omega) (by rw [hlen, hdl]; exact hB) hC h
  rw [hlen, hdl, show n + (l.length - n) = l.length by omega] at this
  simpa using this

/-! ### From the quiet walk -/
/-- Operations that enter no function. -/
def plainOp : Op → Bool
  | .move _ | .assign _ | .pick .. | .load .. | .binOp .. | .unOp .. | .fieldAddr .. | .field .. | .indexAddr .. | .index .. | .extract .. | .slice .. | .lookup .. | .convert .. => true
  | .call { callee := .builtin .len, .. } => true
  | _ => false
theorem noEnter_map {β : Type} {s : Sem β} {g : β → Value} {w : World} {f : FuncId} {args : Array Value} {w' : World} : (s.bind fun v => Sem.pure (Next.value (g v))).run P w ≠ .ok (.enter f args) w' := by
  intro h
  have : (s.bind fun v => Sem.pure (Next.value (g v))).run P w = (s.run P w).andThen fun v w => .ok (.value (g v)) w := Sem.run_bind ..
  rw [this] at h
  cases hr : s.run P w with
  | ok v w1 => rw [hr] at h; simp [Result.andThen] at h
  | halt x w1 => rw [hr] at h; simp [Result.andThen] at h
theorem noEnter_value {s : Sem Value} {w : World} {f : FuncId} {args : Array Value} {w' : World} : (s.bind fun v => Sem.pure (Next.value v)).run P w ≠ .ok (.enter f args) w' := noEnter_map (g := id)
theorem plain_noEnter {o : Oper} {ρ : Operand → Value} (h : plainOp o.op = true) {w : World} {f : FuncId} {args : Array Value} {w' : World} : (execOp ρ o).run P w ≠ .ok (.enter f args) w' := by
  unfold execOp
  cases ho : o.op <;> rw [ho] at h <;> simp only [plainOp] at h <;> try (first | exact noEnter_value | (cases h; done))
  case move x => intro h'; simp [Sem.run] at h'
  case assign x => intro h'; simp [Sem.run] at h'
  case pick c a b => exact noEnter_map (g := fun t => if t = true then ρ a else ρ b)
  case call c =>
    obtain ⟨callee, xs, ts⟩ := c
    cases callee <;> try (simp at h; done)
    rename_i b
    cases b <;> try (simp at h; done)
    exact noEnter_value

/-- No operation skips. -/
theorem plain_noSkip {o : Oper} {ρ : Operand → Value} (h : plainOp o.op = true) {w : World} {w' : World} : (execOp ρ o).run P w ≠ .ok .skip w' := by
  have nm : ∀ {β : Type} {s : Sem β} {g : β → Value}, (s.bind fun v => Sem.pure (Next.value (g v))).run P w ≠ .ok .skip w' := by
    intro β s g h
    have : (s.bind fun v => Sem.pure (Next.value (g v))).run P w = (s.run P w).andThen fun v w => .ok (.value (g v)) w := Sem.run_bind ..
    rw [this] at h
    cases hr : s.run P w with
    | ok v w1 => rw [hr] at h; simp [Result.andThen] at h
    | halt x w1 => rw [hr] at h; simp [Result.andThen] at h
  unfold execOp
  cases ho : o.op <;> rw [ho] at h <;> simp only [plainOp] at h <;> try (first | exact nm (g := id) | (cases h; done))
  case move x => intro h'; simp [Sem.run] at h'
  case assign x => intro h'; simp [Sem.run] at h'
  case pick c a b => exact nm (g := fun t => if t = true then ρ a else ρ b)
  case call c =>
    obtain ⟨callee, xs, ts⟩ := c
    cases callee <;> try (simp at h; done)
    rename_i b
    cases b <;> try (simp at h; done)
    exact nm (g := id)
theorem wpYields_of_quiet {K : Act → Prop} : ∀ (l : List Oper) (a : Act), (l.all fun o => plainOp o.op) = true → wpQuiet P ops C K l a → wpYields P ops C K l a
  | [], a, _, h => h
  | o :: l, a, hp, h => by
    rw [List.all_cons, Bool.and_eq_true] at hp
    unfold wpQuiet at h
    by_cases hw : Region.wanted o (yielded ops a.tmps) = true
    · rw [if_pos hw] at h
      obtain ⟨v, hv, hn⟩ := h
      refine ⟨v, .inl ⟨hw, fun w hC => ?_⟩, wpYields_of_quiet l _ hp.2 hn⟩
      have h1 := hv w hC
      unfold Oper.quietAt at h1
      cases hr : (execOp a.eval o).run P w with
      | ok n w' =>
        rw [hr] at h1
        cases n <;> simp only [Oper.quietUpon] at h1
        case value u => obtain ⟨rfl, rfl⟩ := h1; rfl
        case skip => exact absurd hr (plain_noSkip hp.1)
        case enter f args => exact absurd hr (plain_noEnter hp.1)
      | halt x w' => rw [hr] at h1; simp only [Oper.quietUpon] at h1
    · rw [if_neg hw] at h
      exact ⟨undef, .inr ⟨by simpa using hw, rfl⟩, wpYields_of_quiet l _ hp.2 h⟩
/-- The same, the first operations by the quiet walk. -/
theorem wp_region_reads {id : Nat} {a : Act} {w : World} {l : List Oper} (n : Nat) (C : World → Prop) (hm : P.follows .mixedOrders = true) (hB : (tailB n l && (l.take n).all fun o => plainOp o.op) = true) (hC : C w.drew)
    (h : wpQuiet P l.toArray C (fun a' => wpTail P l.toArray C Q (l.drop n) a' w.drew) (l.take n) a) : (Code.region id l.toArray true).wp P Q a w := by
  rw [Bool.and_eq_true] at hB
  exact wp_region_tail n hm hB.1 hC (wpYields_of_quiet _ _ hB.2 h)

/-- The worlds that meet a condition, as a type. -/
def Cls (p : World → Prop) : Type := { w : World // p w }
def Cls.wd {p : World → Prop} (y : Cls p) : World := y.1
theorem Cls.ok {p : World → Prop} (y : Cls p) : p y.wd := y.2
theorem cls_eq (p : World → Prop) : (fun w' => ∃ y : Cls p, w' = y.wd) = p := by
  funext w
  exact propext ⟨fun ⟨y, h⟩ => h ▸ y.2, fun h => ⟨⟨w, h⟩, rfl⟩⟩
/-- The same over a condition on worlds. -/
theorem wp_region_cls {id : Nat} {a : Act} {w : World} {l : List Oper} (n : Nat) (p : World → Prop) (hm : P.follows .mixedOrders = true) (hB : (tailB n l && (l.take n).all fun o => plainOp o.op) = true) (hC : p w.drew)
    (h : ∀ _ : Nonempty (Cls p), wpQuiet P l.toArray (fun w' => ∃ y : Cls p, w' = y.wd) (fun a' => wpTail P l.toArray p Q (l.drop n) a' w.drew) (l.take n) a) : (Code.region id l.toArray true).wp P Q a w := by
  refine wp_region_reads n p hm hB hC ?_
  have h1 := h ⟨⟨_, hC⟩⟩
  rw [cls_eq p] at h1
  exact h1

/-- One operation of what is left, what follows behind a variable. -/
theorem wpTail_k {o o' : Oper} {rest : List Oper} {a : Act} {w : World} (h : ∀ K : Act → World → Prop, (∀ a' w', C w' → wpTail P ops C Q (o' :: rest) a' w' → K a' w') → wpList P ops (onlyN fun _ => K) [o] a w) : wpTail P ops C Q (o :: o' :: rest) a w :=
  h (fun a' w' => C w' ∧ wpTail P ops C Q (o' :: rest) a' w') fun _ _ h1 h2 => ⟨h1, h2⟩
/-- The last one. -/
theorem wpTail_z {o : Oper} {a : Act} {w : World} (h : ∀ K : Act → World → Prop, (∀ a' w', Q .normal a' w' → K a' w') → wpList P ops (onlyN fun _ => K) [o] a w) : wpTail P ops C Q [o] a w :=
  h (fun a' w' => Q .normal a' w') fun _ _ h => h
end
end Go.Cb

namespace Go.Cb
open Go.RowKit
set_option linter.all false

section
variable {P : Program} {ops : Array Oper} {Q : Exit → Act → World → Prop} {md : Region.Mode} {C : World → Prop} {z : Nat}

/-- As 'wpAnyZ_first', z being told apart in whatever way. -/
theorem wpAnyZ_first' {i : Nat} {oi : Oper} {v : Value} (hi : ops[i]? = some oi) (hz : ops[z]? = none ∨ ∃ oz, ops[z]? = some oz ∧ ∃ e ∈ oz.after, Region.binds md e = true ∧ e.on = i)
    (hsel : ∀ (j : Nat) (o : Oper) cs b, ops[j]? = some o → o.op ≠ .select cs b) :
    ∀ (fuel : Nat) (listed : Array Bool) (a : Act) (w : World),
      (∀ j oj, ops[j]? = some oj → j ≠ i → listed.getD j true = false → (∀ e ∈ oj.after, Region.binds md e = true → e.on ≠ i) → oi.apart ops oj = true) →
      i ∈ Region.ready md ops listed → YieldsC P ops C oi v a → C w →
      wpAnyZ P md ops Q C z fuel (listed.setIfInBounds i true) (a.put oi.dst v) w → wpAnyZ P md ops Q C z (fuel + 1) listed a w := by
  rcases hz with hz | ⟨oz, hz, hzi⟩
  · intro fuel
    induction fuel with
    | zero =>
      intro listed a w _ hr hy hC H
      refine ⟨fun h => (by rw [h] at hr; cases hr), fun j hj => ?_⟩
      by_cases hji : j = i
      · subst hji; exact YieldsIf.wpOp hi hy.ifS hC ⟨.inr hC, H⟩
      · have := ready_mono hj hji
        rw [H.1] at this
        cases this
    | succ fuel ih =>
      intro listed a w hfree hr hy hC H
      refine ⟨fun h => (by rw [h] at hr; cases hr), fun j hj => ?_⟩
      by_cases hji : j = i
      · subst hji; exact YieldsIf.wpOp hi hy.ifS hC ⟨.inr hC, H⟩
      · have h1 := H.2 j (ready_mono hj hji)
        obtain ⟨hjun, oj, hoj, hall⟩ := mem_ready.1 hj
        have hnot : ∀ e ∈ oj.after, Region.binds md e = true → e.on ≠ i := fun e he hb heq => by
          have h1 := hall e he hb
          have h0 := (mem_ready.1 hr).1
          rw [heq] at h1
          rcases Nat.lt_or_ge i listed.size with h' | h'
          · simp [h'] at h0 h1; rw [h0] at h1; cases h1
          · simp [Array.getElem?_eq_none h'] at h1
        have hjz : j ≠ z := fun hjz => by
          subst hjz
          rw [hz] at hoj
          cases hoj
        have h2 := wpOp_putIf hoj (hfree j oj hoj hji hjun hnot) (fun cs b => hsel i oi cs b hi) (fun cs b => hsel j oj cs b hoj) (fun c a w h => h) hy.ifS h1
        have hfree' : ∀ k ok, ops[k]? = some ok → k ≠ i → (listed.setIfInBounds j true).getD k true = false →
            (∀ e ∈ ok.after, Region.binds md e = true → e.on ≠ i) → oi.apart ops ok = true := fun k ok hk hki hun hno => by
          refine hfree k ok hk hki ?_ hno
          by_cases hjk : j = k
          · subst hjk; exact hjun
          · rw [getD_set_ne true hjk] at hun; exact hun
        refine wpOp_mono (fun a' w' h3 => ?_) h2
        obtain ⟨hy', hor, hK⟩ := h3
        have hC' : C w' := hor.resolve_left hjz
        refine ⟨.inr hC', ih (listed.setIfInBounds j true) a' w' hfree' (ready_mono hr (Ne.symm hji)) hy' hC' ?_⟩
        rw [Array.setIfInBounds_comm _ _ hji]
        exact hK
  · exact wpAnyZ_first hi hz hzi hsel

/-- The plan fits the region. -/
def planFrom (md : Region.Mode) (ops : Array Oper) (z : Nat) : List Bool → Nat → Array Bool → Bool
  | [], _, listed => (Region.ready md ops listed).isEmpty
  | true :: bs, k, listed => (Region.ready md ops listed).contains k && Region.free md ops listed k && (decide (ops.size ≤ z) || waitsFor md ops z k) && planFrom md ops z bs (k + 1) (listed.setIfInBounds k true)
  | false :: bs, k, listed => Region.ready md ops listed == [k] && planFrom md ops z bs (k + 1) (listed.setIfInBounds k true)
/-- The walk of a plan, from operation number k on. -/
def wpPlan (P : Program) (ops : Array Oper) (C : World → Prop) (z : Nat) (Q : Exit → Act → World → Prop) : List Bool → Nat → List Oper → Act → World → Prop
  | true :: bs, k, o :: l, a, w => ∃ v, YieldsC P ops C o v a ∧ wpPlan P ops C z Q bs (k + 1) l (a.put o.dst v) w
  | false :: bs, k, o :: l, a, w => wpList P ops (onlyN fun _ a' w' => (k = z ∨ C w') ∧ wpPlan P ops C z Q bs (k + 1) l a' w') [o] a w
  | _, _, _, a, w => Q .normal a w
theorem wpAnyZ_plan (hs : Region.noSelect ops = true) :
    ∀ (bs : List Bool) (l : List Oper) (k : Nat) (listed : Array Bool) (a : Act) (w : World), bs.length = l.length → (∀ j, l[j]? = ops[k + j]?) → planFrom md ops z bs k listed = true → k + bs.length ≤ z + 1 → (bs = [] ∨ C w) →
      wpPlan P ops C z Q bs k l a w → wpAnyZ P md ops Q C z l.length listed a w
  | [], [], k, listed, a, w, _, hl, hB, _, hC, h => ⟨by simpa [planFrom] using hB, h⟩
  | [], o :: l, _, _, _, _, hn, _, _, _, _, _ => by simp at hn
  | b :: bs, [], _, _, _, _, hn, _, _, _, _, _ => by simp at hn
  | true :: bs, o :: l, k, listed, a, w, hn, hl, hB, hh, hC, h => by
    have hC : C w := hC.resolve_left (by simp)
    have h0 : ops[k]? = some o := by simpa using (hl 0).symm
    simp only [planFrom, Bool.and_eq_true, Bool.or_eq_true, decide_eq_true_eq] at hB
    obtain ⟨⟨⟨hr, hf⟩, hwt⟩, hB'⟩ := hB
    obtain ⟨v, hy, hK⟩ := h
    refine wpAnyZ_first' h0 ?_ (Region.noSelect_spec hs) _ listed a w (Region.free_spec h0 hf) (by simpa using hr) hy hC ?_
    · rcases hwt with hwt | hwt
      · exact .inl (by rw [Array.getElem?_eq_none hwt])
      · right
        unfold waitsFor at hwt
        cases hoz : ops[z]? with
        | none => rw [hoz] at hwt; simp at hwt
        | some oz =>
          rw [hoz] at hwt
          obtain ⟨e, he, hb⟩ := Array.any_eq_true'.1 hwt
          simp only [Bool.and_eq_true, beq_iff_eq] at hb
          exact ⟨oz, rfl, e, he, hb⟩
    · exact wpAnyZ_plan hs bs l (k + 1) _ _ w (by simpa using hn) (fun j => by have := hl (j + 1); simpa [Nat.add_assoc, Nat.add_comm 1 j] using this) hB' (by simp at hh; omega) (.inr hC) hK
  | false :: bs, o :: l, k, listed, a, w, hn, hl, hB, hh, hC, h => by
    have h0 : ops[k]? = some o := by simpa using (hl 0).symm
    simp only [planFrom, Bool.and_eq_true, beq_iff_eq] at hB
    obtain ⟨hr, hB'⟩ := hB
    refine ⟨fun hn' => (by rw [hr] at hn'; cases hn'), fun i hi => ?_⟩
    rw [hr] at hi
    obtain rfl : i = k := by simpa using hi
    refine wpOp_of_list (Q' := fun _ a' w' => (i = z ∨ C w') ∧ wpPlan P ops C z Q bs (i + 1) l a' w') h0 (fun a' w' hq => ⟨hq.1, ?_⟩) h
    refine wpAnyZ_plan hs bs l (i + 1) _ a' w' (by simpa using hn) (fun j => by have := hl (j + 1); simpa [Nat.add_assoc, Nat.add_comm 1 j] using this) hB' (by simp at hh; omega) ?_ hq.2
    rcases hq.1 with h1 | h1
    · left
      simp at hh
      exact List.eq_nil_of_length_eq_zero (by omega)
    · exact .inr h1
def planB (z : Nat) (bs : List Bool) (l : List Oper) : Bool := Region.noSelect l.toArray && decide (bs.length = l.length) && decide (l.length ≤ z + 1) && planFrom .any l.toArray z bs 0 (Array.replicate l.length false)
/-- A REGION THAT DRAWS ITS ORDER, BY A PLAN. -/
theorem wp_region_plan {id : Nat} {a : Act} {w : World} {l : List Oper} (z : Nat) (bs : List Bool) (p : World → Prop) (hm : P.follows .mixedOrders = true) (hB : planB z bs l = true) (hC : p w.drew)
    (h : ∀ _ : Nonempty (Cls p), wpPlan P l.toArray p z Q bs 0 l a w.drew) : (Code.region id l.toArray true).wp P Q a w := by
  simp only [planB, Bool.and_eq_true, decide_eq_true_eq] at hB
  obtain ⟨⟨⟨hs, hn⟩, hz⟩, hB⟩ := hB
  refine wp_region_any hm (wpAny_of_Z (C := p) (z := z) _ _ _ _ ?_)
  have := wpAnyZ_plan (P := P) (ops := l.toArray) (Q := Q) (md := .any) (C := p) (z := z) hs bs l 0 (Array.replicate l.length false) a w.drew hn (by simp) hB (by omega) (.inr hC) (h ⟨⟨_, hC⟩⟩)
  simpa using this
theorem wpPlan_yields {p : World → Prop} {bs : List Bool} {w : World} {l2 : List Oper} : ∀ (l1 : List Oper) (k : Nat) (a : Act), wpYields P ops p (fun a' => wpPlan P ops p z Q bs (k + l1.length) l2 a' w) l1 a → wpPlan P ops p z Q (List.replicate l1.length true ++ bs) k (l1 ++ l2) a w
  | [], k, a, h => h
  | o :: l1, k, a, h => by
    obtain ⟨v, hy, hK⟩ := h
    refine ⟨v, hy, wpPlan_yields l1 (k + 1) _ ?_⟩
    rw [show k + 1 + l1.length = k + (o :: l1).length by simp; omega]
    exact hK
/-- The next n operations read. -/
theorem wpPlan_quiet {p : World → Prop} (hne : Nonempty (Cls p)) {bs : List Bool} {w : World} {l : List Oper} {k : Nat} {a : Act} (n : Nat) (hb : bs.take n = List.replicate n true) (hp : ((l.take n).all fun o => plainOp o.op) = true) (hn : n ≤ l.length)
    (h : wpQuiet P ops (fun w' => ∃ y : Cls p, w' = y.wd) (fun a' => wpPlan P ops p z Q (bs.drop n) (k + n) (l.drop n) a' w) (l.take n) a) : wpPlan P ops p z Q bs k l a w := by
  rw [cls_eq p] at h
  have h1 := wpYields_of_quiet _ _ hp h
  have hl : (l.take n).length = n := by simp; omega
  have := wpPlan_yields (bs := bs.drop n) (l2 := l.drop n) (w := w) (z := z) (Q := Q) (l.take n) k a (by rw [hl]; exact h1)
  rw [hl, List.take_append_drop, ← hb, List.take_append_drop] at this
  exact this
/-- One operation that comes up alone. -/
theorem wpPlan_one {p : World → Prop} {bs : List Bool} {k : Nat} {o : Oper} {l : List Oper} {a : Act} {w : World} (h : ∀ K : Act → World → Prop, (∀ a' w', (k = z ∨ p w') → wpPlan P ops p z Q bs (k + 1) l a' w' → K a' w') → wpList P ops (onlyN fun _ => K) [o] a w) : wpPlan P ops p z Q (false :: bs) k (o :: l) a w :=
  h (fun a' w' => (k = z ∨ p w') ∧ wpPlan P ops p z Q bs (k + 1) l a' w') fun _ _ h1 h2 => ⟨h1, h2⟩
theorem wpPlan_end {p : World → Prop} {k : Nat} {a : Act} {w : World} (h : Q .normal a w) : wpPlan P ops p z Q [] k [] a w := h
end
end Go.Cb

namespace Go.Cb
open Go.RowKit
set_option linter.all false

/-- How the values in the cells of one element read. -/
abbrev VR (α : Type) := Mut → World → List Value → α → Prop
/-- Cells in memory and the values in them read alike. -/
structure EV {α : Type} (k : Nat) (E : Elt α) (V : VR α) : Prop where
  toE : ∀ {M w b o cs x}, V M w cs x → (∀ j u, cs[j]? = some u → Cell M w b (o + j) u) → E M w b o x
  ofE : ∀ {M w b o x}, E M w b o x → ∃ cs, V M w cs x ∧ ∀ j u, cs[j]? = some u → Cell M w b (o + j) u
  len : ∀ {M w cs x}, V M w cs x → cs.length = k
  one : ∀ {M w cs x}, V M w cs x → ∀ u ∈ cs, u.oneCell' = true
  mv : ∀ {M w w' cs x}, V M w cs x → Chg M w w' → V M w' cs x
  re : ∀ {M N w cs x}, V M w cs x → (∀ i, N i → M i ∨ w.heap.size ≤ i) → V N w cs x
/-- What the program's tables say of a slice type and its elements. -/
structure ElemT (P : Program) (t e k bytes : Nat) : Prop where
  ht : P.underlying t = some (.slice e)
  hi : ∃ i z, P.info? e = some i ∧ i.zero = some z ∧ i.size = k ∧ i.bytes = bytes ∧ z.cells.size = k
  hk : 0 < k

/-- The block that a slice owns. -/
def ownOf (v : Value) : Mut := fun b => v.ownBlock = some b
/-- One set of blocks, or another. -/
def Mut.or (M N : Mut) : Mut := fun b => M b ∨ N b
/-- A slice that the call owns, from block 'base' on, reads as a list. -/
def OwnL {α : Type} (base e k : Nat) (V : VR α) (M : Mut) (w : World) (v : Value) (l : List α) : Prop :=
  (∀ b, ownOf v b → ¬ M b) ∧ ∃ xs, w.ownsRow base e k v l.length xs ∧ ∀ i x, l[i]? = some x → V (M.or (ownOf v)) w ((xs.drop (i * k)).take k) x

theorem OwnL.nil {α : Type} {base e k : Nat} {V : VR α} {M : Mut} {w : World} : OwnL base e k V M w (.slice none 0 0) ([] : List α) :=
  ⟨(fun b h => by cases h), [], World.ownsRow_nil _ _ _ _, fun i x h => by simp at h⟩
theorem OwnL.lt {α : Type} {base e k : Nat} {V : VR α} {M : Mut} {w : World} {v : Value} {l : List α} (h : OwnL base e k V M w v l) : ∀ b, ownOf v b → base ≤ b ∧ b < w.heap.size :=
  fun b hb => let ⟨_, _, h1, _⟩ := h; h1.lt b hb
theorem OwnL.form {α : Type} {base e k : Nat} {V : VR α} {M : Mut} {w : World} {v : Value} {l : List α} (h : OwnL base e k V M w v l) : ∃ a c, v = .slice a l.length c ∧ l.length ≤ c ∧ c ≤ 9223372036854775807 := by
  obtain ⟨_, xs, h1, _⟩ := h
  rcases h1.2 with ⟨h2, h3⟩ | ⟨g, cap, cur, h2, _, _, h4, h5, _⟩
  · exact ⟨none, 0, by rw [h2, h3], by omega, by decide⟩
  · exact ⟨_, cap, h2, h4, by unfold maxLen at h5; exact h5⟩

theorem chunk_left {xs ys : List Value} {n k i : Nat} (hx : xs.length = n * k) (hi : i < n) : ((xs ++ ys).drop (i * k)).take k = (xs.drop (i * k)).take k := by
  have h1 : (i + 1) * k ≤ n * k := Nat.mul_le_mul_right k hi
  rw [Nat.add_mul, Nat.one_mul] at h1
  rw [List.drop_append_of_le_length (by omega), List.take_append_of_le_length (by simp; omega)]
theorem chunk_right {xs ys : List Value} {n k i : Nat} (hx : xs.length = n * k) (hi : n ≤ i) : ((xs ++ ys).drop (i * k)).take k = (ys.drop ((i - n) * k)).take k := by
  obtain ⟨d, rfl⟩ : ∃ d, i = n + d := ⟨i - n, by omega⟩
  rw [Nat.add_mul, ← hx, ← List.drop_drop, List.drop_left, Nat.add_sub_cancel_left]

/-- The cells of a slice that reads as a list, one behind the other. -/
theorem cells_of_slice {α : Type} {k : Nat} {E : Elt α} {V : VR α} (hEV : EV k E V) {M : Mut} {w : World} {b : Nat} :
    ∀ {l : List α} {off : Nat}, (∀ i x, l[i]? = some x → E M w b (off + i * k) x) →
      ∃ news : List Value, news.length = l.length * k ∧ (∀ j u, news[j]? = some u → w.cell? ⟨b, off + j, none⟩ = some u) ∧ (∀ u ∈ news, u.oneCell' = true) ∧ ∀ i x, l[i]? = some x → V M w ((news.drop (i * k)).take k) x := by
  intro l
  induction l with
  | nil => intro off _; exact ⟨[], by simp, by simp, by simp, by simp⟩
  | cons y l ih =>
    intro off h
    obtain ⟨news, h1, h2, h3, h4⟩ := ih (off := off + k) fun i x hx => by
      have := h (i + 1) x (by simpa using hx)
      rwa [Nat.add_mul, Nat.one_mul, show off + (i * k + k) = off + k + i * k by omega] at this
    obtain ⟨cs, hV, hc⟩ := hEV.ofE (h 0 y rfl)
    have hlen := hEV.len hV
    refine ⟨cs ++ news, by simp [h1, hlen, Nat.add_mul]; omega, ?_, ?_, ?_⟩
    · intro j u hu
      rcases Nat.lt_or_ge j cs.length with hj | hj
      · rw [List.getElem?_append_left hj] at hu
        have := (hc j u hu).1
        rwa [Nat.zero_mul, Nat.add_zero] at this
      · rw [List.getElem?_append_right hj] at hu
        have := h2 _ _ hu
        rwa [hlen, show off + k + (j - k) = off + j by omega] at this
    · intro u hu
      rcases List.mem_append.1 hu with hu | hu
      · exact hEV.one hV u hu
      · exact h3 u hu
    · intro i x hx
      cases i with
      | zero =>
        simp at hx
        subst hx
        rw [Nat.zero_mul, List.drop_zero, ← hlen, List.take_left]
        exact hV
      | succ i =>
        have := h4 i x (by simpa using hx)
        rw [show ((cs ++ news).drop ((i + 1) * k)) = news.drop (i * k) by
          rw [Nat.add_mul, Nat.one_mul, Nat.add_comm, ← List.drop_drop, ← hlen, List.drop_left, hlen]]
        exact this

/-- APPEND to a slice that the call owns. -/
theorem append_L {α : Type} {P : Program} {t e k bytes : Nat} (hT : ElemT P t e k bytes) {E : Elt α} {V : VR α} (hEV : EV k E V) {base : Nat} {M : Mut} {w : World} {v src : Value} {l ys : List α} (ty : TypeId)
    (hown : OwnL base e k V M w v l) (hsrc : SlR k E (M.or (ownOf v)) w src ys) (hbytes : (l.length + ys.length) * bytes ≤ 140737488355328) (h63 : l.length + ys.length ≤ 140737488355328) (hbase : base ≤ w.heap.size) (hnew : ¬ M w.heap.size) :
    ∃ v' w', (Builtin.append_ #[t, t] ty #[v, src]).run P w = .ok v' w' ∧ OwnL base e k V M w' v' (l ++ ys) ∧ Chg (ownOf v) w w' ∧ (v'.ownBlock = v.ownBlock ∨ v'.ownBlock = some w.heap.size) := by
  obtain ⟨i, z, hi, hz, hsize, hby, hzs⟩ := hT.hi
  obtain ⟨hM, xs, hrow, hel⟩ := id hown
  have key : ∀ (ad : Addr) (c : Nat) (news : List Value), src = .slice (some ad) ys.length c → news.length = ys.length * k → (∀ j u, news[j]? = some u → w.cell? (ad.add j) = some u) → (∀ u ∈ news, u.oneCell' = true) →
      (∀ i x, ys[i]? = some x → V (M.or (ownOf v)) w ((news.drop (i * k)).take k) x) →
      ∃ v' w', (Builtin.append_ #[t, t] ty #[v, src]).run P w = .ok v' w' ∧ OwnL base e k V M w' v' (l ++ ys) ∧ Chg (ownOf v) w w' ∧ (v'.ownBlock = v.ownBlock ∨ v'.ownBlock = some w.heap.size) := by
    intro ad c news hs hl hnews hone hV
    obtain ⟨v', w', hr, ho, hg, _, hb⟩ := run_append_own_at (P := P) w base t ty e i z k bytes hT.ht hi hz hsize hby hzs hT.hk v l.length xs hrow ad ys.length c news hl hnews hone (by unfold maxLen; omega) hbytes hbase
    have hchg : Chg (ownOf v) w w' := (Chg.grown hg).wid fun b hb' => .inl hb'
    have hchg' : Chg (M.or (ownOf v)) w w' := hchg.wid fun b hb' => .inl (.inr hb')
    have hM' : ∀ b, ownOf v' b → ¬ M b := fun b hb' => by
      unfold ownOf at hb'
      rcases hb with h | h
      · rw [h] at hb'; exact hM b hb'
      · rw [h] at hb'; cases hb'; exact hnew
    refine ⟨v', w', by rw [hs]; exact hr, ⟨hM', xs ++ news, by simpa using ho, ?_⟩, hchg, hb⟩
    intro j x hx
    have base' : V (M.or (ownOf v)) w ((((xs ++ news)).drop (j * k)).take k) x := by
      rcases Nat.lt_or_ge j l.length with hj | hj
      · rw [List.getElem?_append_left hj] at hx
        rw [chunk_left hrow.1 hj]; exact hel j x hx
      · rw [List.getElem?_append_right hj] at hx
        rw [chunk_right hrow.1 hj]; exact hV _ x hx
    have h2 : V (fun b => (M.or (ownOf v)) b ∨ ownOf v' b) w ((((xs ++ news)).drop (j * k)).take k) x := hEV.re base' fun b hb' => by
      rcases hb' with h | h
      · exact .inl h
      · unfold ownOf at h
        rcases hb with hb | hb
        · rw [hb] at h; exact .inl (.inr h)
        · rw [hb] at h; cases h; exact .inr (Nat.le_refl _)
    exact hEV.re (hEV.mv h2 (hchg.wid fun b hb' => .inl (.inl (.inr hb')))) fun b hb' => .inl (hb'.elim (fun h => .inl (.inl h)) .inr)
  obtain ⟨a, c, rfl, h1, h2, h4, h5, h3⟩ := id hsrc
  cases a with
  | none =>
    have hnil : ys = [] := by
      cases ys with
      | nil => rfl
      | cons y ys => obtain ⟨b, off, h, _⟩ := h3 0 y rfl; cases h
    subst hnil
    obtain rfl := h5 rfl
    refine ⟨v, w, ?_, ?_, Chg.rfl' _ _, .inl rfl⟩
    · exact run_append_owned_none (P := P) w base t ty e i k hT.ht hi v l.length xs hrow
    · rw [List.append_nil]; exact hown
  | some ad =>
    cases ys with
    | nil => exact key ad c [] rfl (by simp) (by simp) (by simp) (by simp)
    | cons y ys =>
      obtain ⟨b, off, hab, _⟩ := h3 0 y rfl
      cases hab
      obtain ⟨news, n1, n2, n3, n4⟩ := cells_of_slice hEV (M := M.or (ownOf v)) (w := w) (b := b) (off := off) (l := y :: ys) fun i x hx => by
        obtain ⟨b', off', he, hE⟩ := h3 i x hx
        cases he
        exact hE
      refine key ⟨b, off, none⟩ c news rfl n1 (fun j u hu => ?_) n3 n4
      have := n2 j u hu
      unfold Addr.add
      split
      · rename_i h0; subst h0; simpa using this
      · exact this

/-! ### Element kinds -/
def VStr : VR ByteArray := fun _ _ cs s => cs = [.string s] ∧ s.size ≤ 140737488355328
def VInt : VR Int := fun _ _ cs n => cs = [.int .i64 n] ∧ -9223372036854775808 ≤ n ∧ n ≤ 9223372036854775807
def VVal {α : Type} (R : Rd α) : VR α := fun M w cs x => ∃ u, cs = [u] ∧ R M w u x
def VVar : VR Var := fun M w cs x => ∃ u, cs = [u, .int .i64 x.count] ∧ Strs M w u x.acts ∧ -9223372036854775808 ≤ x.count ∧ x.count ≤ 9223372036854775807
/-- A value that takes one cell. -/
def Rd.One {α : Type} (R : Rd α) : Prop := ∀ {M w u x}, R M w u x → u.oneCell' = true
theorem SlR.one {α : Type} {k : Nat} {E : Elt α} : (SlR k E).One := by
  rintro M w u x ⟨a, c, rfl, _⟩; rfl
theorem evStr : EV 1 EStr VStr where
  toE := by rintro M w b o cs x ⟨rfl, h⟩ hc; exact ⟨hc 0 _ rfl, h⟩
  ofE := by
    rintro M w b o x ⟨h1, h2⟩
    refine ⟨_, ⟨rfl, h2⟩, fun j u hu => ?_⟩
    cases j with
    | zero => simp at hu; subst hu; exact h1
    | succ j => simp at hu
  len := by rintro M w cs x ⟨rfl, _⟩; rfl
  one := by rintro M w cs x ⟨rfl, _⟩ u hu; simp at hu; subst hu; rfl
  mv := fun h _ => h
  re := fun h _ => h
theorem evInt : EV 1 EInt VInt where
  toE := by rintro M w b o cs x ⟨rfl, h⟩ hc; exact ⟨hc 0 _ rfl, h⟩
  ofE := by
    rintro M w b o x ⟨h1, h2⟩
    refine ⟨_, ⟨rfl, h2⟩, fun j u hu => ?_⟩
    cases j with
    | zero => simp at hu; subst hu; exact h1
    | succ j => simp at hu
  len := by rintro M w cs x ⟨rfl, _⟩; rfl
  one := by rintro M w cs x ⟨rfl, _⟩ u hu; simp at hu; subst hu; rfl
  mv := fun h _ => h
  re := fun h _ => h
theorem evVal {α : Type} {R : Rd α} (hR : R.Mono) (h1 : R.One) : EV 1 (EVal R) (VVal R) where
  toE := by rintro M w b o cs x ⟨u, rfl, h⟩ hc; exact ⟨u, hc 0 _ rfl, h⟩
  ofE := by
    rintro M w b o x ⟨u, h1, h2⟩
    refine ⟨_, ⟨u, rfl, h2⟩, fun j u' hu => ?_⟩
    cases j with
    | zero => simp at hu; subst hu; exact h1
    | succ j => simp at hu
  len := by rintro M w cs x ⟨u, rfl, _⟩; rfl
  one := by rintro M w cs x ⟨u, rfl, h⟩ u' hu; simp at hu; subst hu; exact h1 h
  mv := by rintro M w w' cs x ⟨u, rfl, h⟩ hc; exact ⟨u, rfl, hR.mv h hc⟩
  re := by rintro M N w cs x ⟨u, rfl, h⟩ hc; exact ⟨u, rfl, hR.re h hc⟩
theorem evVar : EV 2 EVar VVar where
  toE := by rintro M w b o cs x ⟨u, rfl, h, h'⟩ hc; exact ⟨⟨u, hc 0 _ rfl, h⟩, hc 1 _ rfl, h'⟩
  ofE := by
    rintro M w b o x ⟨⟨u, h1, h2⟩, h3, h4⟩
    refine ⟨_, ⟨u, rfl, h2, h4⟩, fun j u' hu => ?_⟩
    match j with
    | 0 => simp at hu; subst hu; exact h1
    | 1 => simp at hu; subst hu; exact h3
    | j + 2 => simp at hu
  len := by rintro M w cs x ⟨u, rfl, _⟩; rfl
  one := by
    rintro M w cs x ⟨u, rfl, h, _⟩ u' hu
    simp at hu
    rcases hu with rfl | rfl
    · exact SlR.one h
    · rfl
  mv := by rintro M w w' cs x ⟨u, rfl, h, h'⟩ hc; exact ⟨u, rfl, Strs.mono.mv h hc, h'⟩
  re := by rintro M N w cs x ⟨u, rfl, h, h'⟩ hc; exact ⟨u, rfl, Strs.mono.re h hc, h'⟩

/-! ### What an owned slice is good for -/
/-- An owned slice may be read. -/
theorem OwnL.rd {α : Type} {base e k : Nat} {E : Elt α} {V : VR α} (hEV : EV k E V) {M : Mut} {w : World} {v : Value} {l : List α} (h : OwnL base e k V M w v l) (hl : l.length ≤ 140737488355328) : SlR k E M w v l := by
  obtain ⟨hM, xs, hrow, hel⟩ := h
  rcases hrow.2 with ⟨h2, h3⟩ | ⟨g, cap, cur, h2, hg, hh, h4, h5, h6, h7⟩
  · cases l with
    | nil => rw [h2]; exact SlR.nil
    | cons y l => simp at h3
  · refine ⟨_, cap, h2, h4, by unfold maxLen at h5; exact h5, hl, (by intro h; cases h), fun i x hx => ⟨g, 0, rfl, ?_⟩⟩
    have hi := (List.getElem?_eq_some_iff.1 hx).1
    have hnM : ¬ M g := hM g (by subst h2; rfl)
    have hV := hEV.re (N := M) (hel i x hx) fun b hb => .inl (.inl hb)
    refine hEV.toE hV fun j u hu => ⟨?_, hnM⟩
    have hj : j < k := by
      have := (List.getElem?_eq_some_iff.1 hu).1
      have h9 := hEV.len hV
      omega
    rw [List.getElem?_take_of_lt hj, List.getElem?_drop] at hu
    subst h2
    rw [hrow.cellAt (0 + i * k + j) (by
      have h1 : (i + 1) * k ≤ l.length * k := Nat.mul_le_mul_right k hi
      rw [Nat.add_mul, Nat.one_mul] at h1
      omega)]
    rw [Nat.zero_add]; exact hu
/-- .. and stays owned while other blocks change. -/
theorem OwnL.mv {α : Type} {base e k : Nat} {E : Elt α} {V : VR α} (hEV : EV k E V) {M N : Mut} {w w' : World} {v : Value} {l : List α} (h : OwnL base e k V M w v l) (hc : Chg N w w') (hN : ∀ b, N b → M b ∨ w.heap.size ≤ b) : OwnL base e k V M w' v l := by
  have hlt := h.lt
  obtain ⟨hM, xs, hrow, hel⟩ := h
  have hc' : Chg M w w' := hc.wid hN
  refine ⟨hM, xs, ⟨hrow.1, ?_⟩, fun i x hx => hEV.mv (hel i x hx) (hc'.wid fun b hb => .inl (.inl hb))⟩
  rcases hrow.2 with h2 | ⟨g, cap, cur, h2, hg, hh, h4⟩
  · exact .inl h2
  · refine .inr ⟨g, cap, cur, h2, hg, ?_, h4⟩
    have hgl : g < w.heap.size := (hlt g (by subst h2; rfl)).2
    rw [hc'.block g hgl (hM g (by subst h2; rfl))]
    exact hh
theorem OwnL.up {α : Type} {base e k : Nat} {E : Elt α} {V : VR α} (hEV : EV k E V) {M : Mut} {w w' : World} {v : Value} {l : List α} (h : OwnL base e k V M w v l) (hc : Ext w w') : OwnL base e k V M w' v l :=
  h.mv hEV (hc.chg (M := M)) fun b hb => .inl hb
/-- A literal of one element. -/
theorem SlR.lit1 {α : Type} {k : Nat} {E : Elt α} {V : VR α} (hEV : EV k E V) {N : Mut} {w : World} {cs : List Value} {y : α} (e : TypeId) (hV : V N w cs y) (hN : ¬ N w.heap.size) :
    SlR k E N (w.alloc (.cells cs.toArray e)) (.slice (some ⟨w.heap.size, 0, none⟩) 1 1) [y] := by
  refine ⟨_, 1, rfl, by simp, by decide, by simp, (by intro h; cases h), fun i x hx => ⟨w.heap.size, 0, rfl, ?_⟩⟩
  have hi : i = 0 := by
    have := (List.getElem?_eq_some_iff.1 hx).1
    simp at this; omega
  subst hi
  simp at hx
  subst hx
  refine hEV.toE (hEV.mv hV (Ext.alloc _ _).chg) fun j u hu => ⟨?_, hN⟩
  have hb : (w.alloc (.cells cs.toArray e)).heap[w.heap.size]? = some (.cells cs.toArray e) := by
    show (w.heap.push _)[w.heap.size]? = _
    simp
  have : (w.alloc (.cells cs.toArray e)).cell? ⟨w.heap.size, 0 + 0 * k + j, none⟩ = cs.toArray[0 + 0 * k + j]? := by
    unfold World.cell?
    rw [hb]
    rfl
  rw [this, Nat.zero_mul, Nat.zero_add]
  simpa using hu
/-- What has been done to owned blocks alone leaves the rest. -/
theorem Ext.own {a b c : World} {N : Mut} (h : Ext a b) (k : Chg N b c) (hN : ∀ i, N i → a.heap.size ≤ i) : Ext a c :=
  ⟨k.os.trans h.os, k.tape.trans h.tape, k.output.trans h.output, Nat.le_trans h.size k.size, fun i hi =>
    (k.block i (Nat.lt_of_lt_of_le hi h.size) (fun hn => by have := hN i hn; omega)).trans (Below.block h i hi)⟩
theorem not_or_own {M : Mut} {v : Value} {n : Nat} (h1 : ∀ b, M b → b < n) (h2 : ∀ b, ownOf v b → b < n) : ¬ (M.or (ownOf v)) n := by
  rintro (h | h)
  · exact Nat.lt_irrefl _ (h1 _ h)
  · exact Nat.lt_irrefl _ (h2 _ h)

/-- An append of which the run is known. -/
theorem wpList_append_run {P : Program} {ops : Array Oper} {rest : List Oper} {o : Oper} {a : Act} {Q : Exit → Act → World → Prop} {w w' : World} {v' : Value} (hgd : o.guard = none) (s x : Operand) (t : TypeId)
    (ho : o.op = .call { callee := .builtin .append, args := #[s, x], argTypes := #[t, t] }) (hr : (Builtin.append_ #[t, t] o.type #[a.eval s, a.eval x]).run P w = .ok v' w')
    (h : wpList P ops Q rest (a.put o.dst v') w') : wpList P ops Q (o :: rest) a w := by
  refine wpList_plain hgd fun K hK => ?_
  unfold Oper.wp execOp
  simp only [ho, resolve, invoke, builtin, Sem.run_bind, Sem.run_pure, Result.andThen_ok, List.map_toArray, List.map_cons, List.map_nil, hr]
  exact hK _ _ h

/-! ### Parts of slices -/
theorem run_sizeOf {P : Program} {t e k bytes : Nat} (hT : ElemT P t e k bytes) (w : World) : (sizeOf e).run P w = .ok k w := by
  obtain ⟨i, z, hi, _, hs, _⟩ := hT.hi
  simp [sizeOf, typeInfo, hi, hs]
theorem slice_to {α : Type} {P : Program} {t e k bytes : Nat} (hT : ElemT P t e k bytes) {E : Elt α} {M : Mut} {w : World} {v : Value} {l : List α} (h : SlR k E M w v l) (i : Nat) (hi : i ≤ l.length) :
    ∃ v', (Instr.sliceAt t v none (some (.int .i64 i)) none).run P w = .ok v' w ∧ SlR k E M w v' (l.take i) := by
  obtain ⟨a, c, rfl, h1, h2, h4, h5, h3⟩ := h
  have hl : (l.take i).length = i := by simp; omega
  have hic : i ≤ c := by omega
  refine ⟨.slice a i c, ?_, a, c, by rw [hl], by omega, h2, by omega, h5, fun j x hx => h3 j x ?_⟩
  · simp [Instr.sliceAt, Instr.slice, run_underlying hT.ht, Instr.sliceBounds, Instr.sliceBound, asIntOf, hic, run_sizeOf hT]
    cases a with
    | none => simp
    | some ad => simp [Addr.add]
  · rw [List.getElem?_take] at hx
    split at hx
    · exact hx
    · cases hx
theorem slice_from {α : Type} {P : Program} {t e k bytes : Nat} (hT : ElemT P t e k bytes) {E : Elt α} {M : Mut} {w : World} {v : Value} {l : List α} (h : SlR k E M w v l) (i : Nat) (hi : i ≤ l.length) :
    ∃ v', (Instr.sliceAt t v (some (.int .i64 i)) none none).run P w = .ok v' w ∧ SlR k E M w v' (l.drop i) := by
  obtain ⟨a, c, rfl, h1, h2, h4, h5, h3⟩ := h
  have hl : (l.drop i).length = l.length - i := by simp
  have hic : i ≤ l.length := by omega
  refine ⟨.slice (if c = i then a else a.map (·.add (i * k))) (l.length - i) (c - i), ?_, _, _, by rw [hl], by omega, by omega, by omega, ?_, fun j x hx => ?_⟩
  · simp [Instr.sliceAt, Instr.slice, run_underlying hT.ht, Instr.sliceBounds, Instr.sliceBound, asIntOf, hic, run_sizeOf hT]
  · intro hn
    split at hn
    · omega
    · cases a with
      | none => have := h5 rfl; omega
      | some ad => cases hn
  · rw [List.getElem?_drop] at hx
    obtain ⟨b, off, rfl, hE⟩ := h3 _ x hx
    have hlt := (List.getElem?_eq_some_iff.1 hx).1
    rw [if_neg (by omega)]
    refine ⟨b, off + i * k, ?_, ?_⟩
    · simp only [Option.map_some, Addr.add]
      split
      · rename_i h0; rw [h0, Nat.add_zero]
      · rfl
    · rwa [show off + i * k + j * k = off + (i + j) * k by rw [Nat.add_mul]; omega]
/-- A part of a slice, into slot d, of which the run is known. -/
theorem wpList_sl {P : Program} {ops : Array Oper} {rest : List Oper} {a : Act} {Q : Exit → Act → World → Prop} {w : World} (d : Tmp) (v' : Value) {ty : TypeId} {pos : String} {after : Array Edge} {t : TypeId} {x : Operand} {lo hi mx : Option Operand}
    (hr : (Instr.sliceAt t (a.eval x) (lo.map a.eval) (hi.map a.eval) (mx.map a.eval)).run P w = .ok v' w)
    (h : wpList P ops Q rest (a.put (some d) v') w) : wpList P ops Q (⟨some d, .slice t x lo hi mx, ty, pos, after, none⟩ :: rest) a w := by
  refine wpList_plain rfl fun K hK => ?_
  unfold Oper.wp execOp
  simp only [Sem.run_bind, Sem.run_pure, Result.andThen_ok, hr]
  exact hK _ _ h
/-- An append, into slot d, of which the run is known. -/
theorem wpList_ap {P : Program} {ops : Array Oper} {rest : List Oper} {a : Act} {Q : Exit → Act → World → Prop} {w : World} (d : Tmp) (v' : Value) (w' : World) {ty : TypeId} {pos : String} {after : Array Edge} {t : TypeId} {s x : Operand}
    (hr : (Builtin.append_ #[t, t] ty #[a.eval s, a.eval x]).run P w = .ok v' w')
    (h : wpList P ops Q rest (a.put (some d) v') w') : wpList P ops Q (⟨some d, .call { callee := .builtin .append, args := #[s, x], argTypes := #[t, t] }, ty, pos, after, none⟩ :: rest) a w :=
  wpList_append_run rfl s x t rfl hr h
/-- An empty literal. -/
theorem OwnL.lit0 {α : Type} {base e k : Nat} {V : VR α} {M : Mut} {w : World} (hM : ¬ M w.heap.size) (hb : base ≤ w.heap.size) : OwnL base e k V M (w.alloc (.cells #[] e)) (.slice (some ⟨w.heap.size, 0, none⟩) 0 0) ([] : List α) := by
  refine ⟨(fun b h => by cases h; exact hM), [], ⟨by simp, .inr ⟨w.heap.size, 0, #[], rfl, hb, ?_, Nat.le_refl _, by unfold maxLen; omega, by simp, by simp⟩⟩, fun i x h => by simp at h⟩
  show (w.heap.push _)[w.heap.size]? = _
  simp

/-- What an owned slice may change is new to whoever read before. -/
theorem OwnL.news {α : Type} {base e k : Nat} {V : VR α} {M : Mut} {w : World} {v : Value} {l : List α} (h : OwnL base e k V M w v l) : ∀ i, (M.or (ownOf v)) i → M i ∨ base ≤ i :=
  fun i hi => hi.elim .inl fun h' => .inr (h.lt i h').1
theorem OwnL.not_new {α : Type} {base e k : Nat} {V : VR α} {M : Mut} {w : World} {v : Value} {l : List α} (h : OwnL base e k V M w v l) (hM : ¬ M w.heap.size) : ¬ (M.or (ownOf v)) w.heap.size :=
  fun hb => hb.elim hM fun h' => Nat.lt_irrefl _ (h.lt _ h').2

theorem Ext.chg_tr {a b c : World} {N : Mut} (h : Ext a b) (k : Chg N b c) : Chg N a c :=
  ⟨k.os.trans h.os, k.tape.trans h.tape, k.output.trans h.output, Nat.le_trans h.size k.size, fun i hi hn =>
    (k.block i (Nat.lt_of_lt_of_le hi h.size) hn).trans (Below.block h i hi)⟩
end Go.Cb

namespace Go.Cb
open Go.RowKit
set_option linter.all false

/-- A slice v of elements of k cells; the cell number f of element i is an owned slice that reads as row i. -/
structure Nest {α : Type} (base e k f e' k' : Nat) (V : VR α) (M : Mut) (w : World) (v : Value) (cells : List Value) (rows : List (List α)) : Prop where
  row : w.ownsRow base e k v rows.length cells
  own : ∀ i r, rows[i]? = some r → ∃ u, cells[i * k + f]? = some u ∧ OwnL base e' k' V M w u r
  sep : ∀ i j u u', i ≠ j → i < rows.length → j < rows.length → cells[i * k + f]? = some u → cells[j * k + f]? = some u' → ∀ b, ownOf u b → ¬ ownOf u' b
  sepv : ∀ i u, i < rows.length → cells[i * k + f]? = some u → ∀ b, ownOf u b → ¬ ownOf v b

theorem ownsRow_mv {base e k n : Nat} {w w' : World} {v : Value} {xs : List Value} {N : Mut} (h : w.ownsRow base e k v n xs) (hc : Chg N w w') (hN : ∀ b, ownOf v b → ¬ N b) : w'.ownsRow base e k v n xs := by
  refine ⟨h.1, ?_⟩
  rcases h.2 with h2 | ⟨g, cap, cur, h2, hg, hh, h4⟩
  · exact .inl h2
  · refine .inr ⟨g, cap, cur, h2, hg, ?_, h4⟩
    have hgl : g < w.heap.size := (h.lt g (by subst h2; rfl)).2
    rw [hc.block g hgl (hN g (by subst h2; rfl))]
    exact hh

theorem Nest.up {α : Type} {base e k f e' k' : Nat} {E : Elt α} {V : VR α} (hEV : EV k' E V) {M : Mut} {w w' : World} {v : Value} {cells : List Value} {rows : List (List α)} (h : Nest base e k f e' k' V M w v cells rows) (hc : Ext w w') : Nest base e k f e' k' V M w' v cells rows where
  row := ownsRow_mv h.row (hc.chg (M := fun _ => False)) (fun _ _ h => h)
  own := fun i r hr => let ⟨u, h1, h2⟩ := h.own i r hr; ⟨u, h1, h2.up hEV hc⟩
  sep := h.sep
  sepv := h.sepv
/-- The slice's own form. -/
theorem Nest.form {α : Type} {base e k f e' k' : Nat} {V : VR α} {M : Mut} {w : World} {v : Value} {cells : List Value} {rows : List (List α)} (h : Nest base e k f e' k' V M w v cells rows) (hn : 0 < rows.length) :
    ∃ g cap, v = .slice (some ⟨g, 0, none⟩) rows.length cap ∧ rows.length ≤ cap ∧ cap ≤ 9223372036854775807 ∧ base ≤ g ∧ g < w.heap.size := by
  have hlt := h.row.lt
  rcases h.row.2 with ⟨_, h3⟩ | ⟨g, cap, cur, h2, hg, hh, h4, h5, _⟩
  · omega
  · exact ⟨g, cap, h2, h4, by unfold maxLen at h5; exact h5, hg, (hlt g (by subst h2; rfl)).2⟩
theorem Nest.cell {α : Type} {base e k f e' k' : Nat} {V : VR α} {M : Mut} {w : World} {g n cap : Nat} {cells : List Value} {rows : List (List α)} (h : Nest base e k f e' k' V M w (.slice (some ⟨g, 0, none⟩) n cap) cells rows) (hn : n = rows.length) {j : Nat} {u : Value} (hj : cells[j]? = some u) : w.cell? ⟨g, j, none⟩ = some u := by
  subst hn
  have := (List.getElem?_eq_some_iff.1 hj).1
  rw [h.row.1] at this
  rw [h.row.cellAt j this]; exact hj
theorem Nest.free {α : Type} {base e k f e' k' : Nat} {V : VR α} {M : Mut} {w : World} {g n cap : Nat} {cells : List Value} {rows : List (List α)} (h : Nest base e k f e' k' V M w (.slice (some ⟨g, 0, none⟩) n cap) cells rows) (hn : n = rows.length) (j : Nat) : w.frozen? ⟨g, j, none⟩ = false := by
  subst hn
  exact h.row.frozenAt j

/-- Elements that lean on no memory. -/
def VR.Free {α : Type} (V : VR α) : Prop := ∀ (M N : Mut) (w w' : World) (cs : List Value) (x : α), V M w cs x → V N w' cs x
theorem vStr_free : VStr.Free := fun _ _ _ _ _ _ h => h
theorem OwnL.mvF {α : Type} {base e k : Nat} {V : VR α} (hV : V.Free) {M N : Mut} {w w' : World} {v : Value} {l : List α} (h : OwnL base e k V M w v l) (hc : Chg N w w') (hN : ∀ b, ownOf v b → ¬ N b) : OwnL base e k V M w' v l := by
  obtain ⟨hM, xs, hrow, hel⟩ := h
  exact ⟨hM, xs, ownsRow_mv hrow hc hN, fun i x hx => hV _ _ _ _ _ _ (hel i x hx)⟩
theorem mul_ne {i j k f : Nat} (hk : 0 < k) (h : i ≠ j) : i * k + f ≠ j * k + f := by
  intro he
  exact h (Nat.eq_of_mul_eq_mul_right hk (by omega))
/-- Row i has been appended to, and its new value stored. -/
theorem Nest.upd {α : Type} {base e k f e' k' : Nat} {V : VR α} (hV : V.Free) {M : Mut} {w w1 : World} {g cap : Nat} {cells : List Value} {rows : List (List α)} {i : Nat} {r' : List α} {u u' : Value}
    (h : Nest base e k f e' k' V M w (.slice (some ⟨g, 0, none⟩) rows.length cap) cells rows) (hi : i < rows.length) (hu : cells[i * k + f]? = some u)
    (ho : OwnL base e' k' V M w1 u' r') (hc : Chg (ownOf u) w w1) (hb : u'.ownBlock = u.ownBlock ∨ ∃ n, u'.ownBlock = some n ∧ w.heap.size ≤ n) (hk : 0 < k) :
    Nest base e k f e' k' V M (w1.setCell ⟨g, i * k + f, none⟩ u') (.slice (some ⟨g, 0, none⟩) rows.length cap) (cells.set (i * k + f) u') (rows.set i r') := by
  have hgv : ownOf (.slice (some ⟨g, 0, none⟩) rows.length cap) g := rfl
  have hgu : ¬ ownOf u g := fun hg => h.sepv i u hi hu g hg hgv
  have hgl : g < w.heap.size := (h.row.lt g hgv).2
  have hgu' : ¬ ownOf u' g := fun hg => by
    unfold ownOf at hg
    rcases hb with hb | ⟨n, hb, hn⟩
    · rw [hb] at hg; exact hgu hg
    · rw [hb] at hg; cases hg; omega
  have hrow1 := ownsRow_mv h.row hc (fun b hb' => by cases hb'; exact hgu)
  have hil : i * k + f < cells.length := (List.getElem?_eq_some_iff.1 hu).1
  have hset : ∀ j x, j < rows.length → (cells.set (i * k + f) u')[j * k + f]? = some x → (j = i ∧ x = u') ∨ (j ≠ i ∧ cells[j * k + f]? = some x) := by
    intro j x hj hx
    by_cases hji : j = i
    · subst hji
      rw [List.getElem?_set_self hil] at hx
      cases hx
      exact .inl ⟨rfl, rfl⟩
    · rw [List.getElem?_set_ne (mul_ne hk (Ne.symm hji))] at hx
      exact .inr ⟨hji, hx⟩
  have hlt : ∀ j x, j < rows.length → cells[j * k + f]? = some x → ∀ b, ownOf x b → b < w.heap.size := by
    intro j x hj hx b hbx
    obtain ⟨r, hr⟩ := get_some hj
    obtain ⟨y, hy, hoy⟩ := h.own j r hr
    rw [hx] at hy
    cases hy
    exact (hoy.lt b hbx).2
  have hfr : ∀ b, ownOf u' b → ownOf u b ∨ w.heap.size ≤ b := fun b hb' => by
    unfold ownOf at *
    rcases hb with hb | ⟨n, hb, hn⟩
    · rw [hb] at hb'; exact .inl hb'
    · rw [hb] at hb'; cases hb'; exact .inr hn
  refine ⟨?_, ?_, ?_, ?_⟩
  · have := (hrow1.stored (i * k + f) u').1
    simpa using this
  · intro j r hr
    have hj : j < rows.length := by have := (List.getElem?_eq_some_iff.1 hr).1; simpa using this
    have hsc : Chg (fun b => b = g) w1 (w1.setCell ⟨g, i * k + f, none⟩ u') := Chg.setCell w1 ⟨g, i * k + f, none⟩ u'
    by_cases hji : j = i
    · subst hji
      rw [List.getElem?_set_self hj] at hr
      cases hr
      exact ⟨u', by rw [List.getElem?_set_self hil], ho.mvF hV hsc (fun b hb' hbg => by subst hbg; exact hgu' hb')⟩
    · rw [List.getElem?_set_ne (Ne.symm hji)] at hr
      obtain ⟨y, hy, hoy⟩ := h.own j r hr
      refine ⟨y, by rw [List.getElem?_set_ne (mul_ne hk (Ne.symm hji))]; exact hy, ?_⟩
      refine (hoy.mvF hV hc (fun b hb' hbu => h.sep j i y u hji hj hi hy hu b hb' hbu)).mvF hV hsc (fun b hb' hbg => ?_)
      subst hbg
      exact h.sepv j y hj hy _ hb' hgv
  · intro a c x y hac ha hc' hx hy b hbx hby
    simp only [List.length_set] at ha hc'
    rcases hset a x ha hx with ⟨rfl, rfl⟩ | ⟨ha', hx'⟩
    · rcases hset c y hc' hy with ⟨rfl, rfl⟩ | ⟨hc'', hy'⟩
      · exact hac rfl
      · rcases hfr b hbx with h1 | h1
        · exact h.sep a c u y hac ha hc' hu hy' b h1 hby
        · have := hlt c y hc' hy' b hby; omega
    · rcases hset c y hc' hy with ⟨rfl, rfl⟩ | ⟨hc'', hy'⟩
      · rcases hfr b hby with h1 | h1
        · exact h.sep a c x u hac ha hc' hx' hu b hbx h1
        · have := hlt a x ha hx' b hbx; omega
      · exact h.sep a c x y hac ha hc' hx' hy' b hbx hby
  · intro a x ha hx b hbx hbv
    simp only [List.length_set] at ha
    rcases hset a x ha hx with ⟨rfl, rfl⟩ | ⟨ha', hx'⟩
    · cases hbv; exact hgu' hbx
    · exact h.sepv a x ha hx' b hbx hbv

/-- An element more, its row empty. -/
theorem Nest.push {α : Type} {base e k f e' k' : Nat} {V : VR α} (hV : V.Free) {M : Mut} {w w1 : World} {v v' : Value} {cells news : List Value} {rows : List (List α)}
    (h : Nest base e k f e' k' V M w v cells rows) (hrow : w1.ownsRow base e k v' (rows.length + 1) (cells ++ news)) (hc : Chg (ownOf v) w w1) (hb : v'.ownBlock = v.ownBlock ∨ v'.ownBlock = some w.heap.size) (hf : news[f]? = some (.slice none 0 0)) :
    Nest base e k f e' k' V M w1 v' (cells ++ news) (rows ++ [[]]) := by
  have hcl : cells.length = rows.length * k := h.row.1
  have hat : ∀ j x, j < (rows ++ [[]]).length → (cells ++ news)[j * k + f]? = some x → (j < rows.length ∧ cells[j * k + f]? = some x) ∨ x = .slice none 0 0 := by
    intro j x hj hx
    simp at hj
    rcases Nat.lt_or_ge j rows.length with h1 | h1
    · left
      refine ⟨h1, ?_⟩
      obtain ⟨r, hr⟩ := get_some h1
      obtain ⟨y, hy, _⟩ := h.own j r hr
      have := (List.getElem?_eq_some_iff.1 hy).1
      rw [List.getElem?_append_left this] at hx
      exact hx
    · right
      obtain rfl : j = rows.length := by omega
      rw [List.getElem?_append_right (by omega), hcl, Nat.add_sub_cancel_left, hf] at hx
      cases hx; rfl
  refine ⟨by simpa using hrow, ?_, ?_, ?_⟩
  · intro i r hr
    rcases Nat.lt_or_ge i rows.length with h1 | h1
    · rw [List.getElem?_append_left h1] at hr
      obtain ⟨y, hy, hoy⟩ := h.own i r hr
      refine ⟨y, by rw [List.getElem?_append_left (List.getElem?_eq_some_iff.1 hy).1]; exact hy, hoy.mvF hV hc (fun b hb' hbv => h.sepv i y h1 hy b hb' hbv)⟩
    · rw [List.getElem?_append_right h1] at hr
      have hi0 : i - rows.length = 0 := by have := (List.getElem?_eq_some_iff.1 hr).1; simp at this; omega
      rw [hi0] at hr
      simp at hr
      subst hr
      obtain rfl : i = rows.length := by omega
      exact ⟨.slice none 0 0, by rw [List.getElem?_append_right (by omega), hcl, Nat.add_sub_cancel_left, hf], OwnL.nil⟩
  · intro i j x y hij hi hj hx hy b hbx hby
    rcases hat i x hi hx with ⟨h1, hx'⟩ | rfl
    · rcases hat j y hj hy with ⟨h2, hy'⟩ | rfl
      · exact h.sep i j x y hij h1 h2 hx' hy' b hbx hby
      · cases hby
    · cases hbx
  · intro i x hi hx b hbx hbv
    rcases hat i x hi hx with ⟨h1, hx'⟩ | rfl
    · unfold ownOf at hbv
      rcases hb with hb | hb
      · rw [hb] at hbv; exact h.sepv i x h1 hx' b hbx hbv
      · rw [hb] at hbv; cases hbv
        obtain ⟨r, hr⟩ := get_some h1
        obtain ⟨y, hy, hoy⟩ := h.own i r hr
        rw [hx'] at hy
        cases hy
        exact Nat.lt_irrefl _ (hoy.lt _ hbx).2
    · cases hbx
theorem Nest.nil {α : Type} {base e k f e' k' : Nat} {V : VR α} {M : Mut} {w : World} : Nest base e k f e' k' V M w (.slice none 0 0) [] ([] : List (List α)) :=
  ⟨World.ownsRow_nil _ _ _ _, fun i r h => by simp at h, fun i j u u' _ h => by simp at h, fun i u h => by simp at h⟩

/-! ### Pieces: a number and a word -/
structure Piece where
  part : Int
  word : List ByteArray
def EPiece : Elt Piece := fun M w b o x => Cell M w b o (.int .i64 x.part) ∧ ∃ u, Cell M w b (o + 1) u ∧ Strs M w u x.word
theorem EPiece.mono : EPiece.Mono := ⟨fun ⟨h1, u, h2, h3⟩ h => ⟨h1.mv h, u, h2.mv h, Strs.mono.mv h3 h⟩, fun ⟨h1, u, h2, h3⟩ h => ⟨h1.re h, u, h2.re h, Strs.mono.re h3 h⟩⟩
abbrev Pieces : Rd (List Piece) := SlR 2 EPiece
theorem Pieces.mono : Pieces.Mono := SlR.mono EPiece.mono
theorem Pieces.up {M : Mut} {w w' : World} {v : Value} {l : List Piece} (h : Pieces M w v l) (e : Ext w w') : Pieces M w' v l := Pieces.mono.mv h e.chg
/-- Pieces that the call owns, the words too. -/
def PcOwn (base e es : Nat) (w : World) (v : Value) (ps : List Piece) : Prop :=
  ∃ cells, Nest base e 2 1 es 1 VStr (fun _ => False) w v cells (ps.map (·.word)) ∧ ∀ i p, ps[i]? = some p → cells[i * 2]? = some (.int .i64 p.part)
theorem PcOwn.nil {base e es : Nat} {w : World} : PcOwn base e es w (.slice none 0 0) [] := ⟨[], Nest.nil, fun i p h => by simp at h⟩
theorem PcOwn.up {base e es : Nat} {w w' : World} {v : Value} {ps : List Piece} (h : PcOwn base e es w v ps) (hc : Ext w w') : PcOwn base e es w' v ps :=
  let ⟨cells, h1, h2⟩ := h; ⟨cells, h1.up evStr hc, h2⟩
theorem PcOwn.form {base e es : Nat} {w : World} {v : Value} {ps : List Piece} (h : PcOwn base e es w v ps) (hn : 0 < ps.length) : ∃ g cap, v = .slice (some ⟨g, 0, none⟩) ps.length cap ∧ ps.length ≤ cap ∧ cap ≤ 9223372036854775807 ∧ base ≤ g ∧ g < w.heap.size := by
  obtain ⟨cells, h1, _⟩ := h
  have := h1.form (by simpa using hn)
  simpa using this
theorem PcOwn.shape {base e es : Nat} {w : World} {v : Value} {ps : List Piece} (h : PcOwn base e es w v ps) : ∃ a cap, v = .slice a ps.length cap ∧ ps.length ≤ cap ∧ cap ≤ 9223372036854775807 := by
  cases ps with
  | nil =>
    obtain ⟨cells, h1, _⟩ := h
    rcases h1.row.2 with ⟨h2, _⟩ | ⟨g, cap, cur, h2, _, _, h4, h5, _⟩
    · exact ⟨none, 0, h2, by simp, by decide⟩
    · exact ⟨_, cap, h2, h4, by unfold maxLen at h5; exact h5⟩
  | cons p ps =>
    obtain ⟨g, cap, h1, h2, h3, _⟩ := h.form (by simp)
    exact ⟨_, cap, h1, h2, h3⟩
theorem PcOwn.part {base e es g cap : Nat} {w : World} {ps : List Piece} {i : Nat} {p : Piece} (h : PcOwn base e es w (.slice (some ⟨g, 0, none⟩) ps.length cap) ps) (hp : ps[i]? = some p) : w.cell? ⟨g, i * 2, none⟩ = some (.int .i64 p.part) := by
  obtain ⟨cells, h1, h2⟩ := h
  exact h1.cell (by simp) (h2 i p hp)
theorem PcOwn.word {base e es g cap : Nat} {w : World} {ps : List Piece} {i : Nat} {p : Piece} (h : PcOwn base e es w (.slice (some ⟨g, 0, none⟩) ps.length cap) ps) (hp : ps[i]? = some p) :
    ∃ u, w.cell? ⟨g, i * 2 + 1, none⟩ = some u ∧ w.frozen? ⟨g, i * 2 + 1, none⟩ = false ∧ OwnL base es 1 VStr (fun _ => False) w u p.word ∧ ¬ ownOf u g ∧
      ∀ u' w1 r', OwnL base es 1 VStr (fun _ => False) w1 u' r' → Chg (ownOf u) w w1 → (u'.ownBlock = u.ownBlock ∨ ∃ n, u'.ownBlock = some n ∧ w.heap.size ≤ n) →
        PcOwn base e es (w1.setCell ⟨g, i * 2 + 1, none⟩ u') (.slice (some ⟨g, 0, none⟩) ps.length cap) (ps.set i ⟨p.part, r'⟩) := by
  obtain ⟨cells, h1, h2⟩ := h
  have hi : i < ps.length := (List.getElem?_eq_some_iff.1 hp).1
  obtain ⟨u, hu, ho⟩ := h1.own i p.word (by simp [hp])
  refine ⟨u, h1.cell (by simp) hu, h1.free (by simp) _, ho, fun hg => h1.sepv i u (by simpa using hi) hu g hg rfl, fun u' w1 r' ho' hc hb => ?_⟩
  have h1' : Nest base e 2 1 es 1 VStr (fun _ => False) w (.slice (some ⟨g, 0, none⟩) (ps.map (·.word)).length cap) cells (ps.map (·.word)) := by simpa using h1
  have := h1'.upd vStr_free (i := i) (by simpa using hi) hu ho' hc hb (by decide)
  refine ⟨cells.set (i * 2 + 1) u', ?_, fun j q hq => ?_⟩
  · rw [List.map_set]; simpa using this
  · rw [List.getElem?_set_ne (by omega)]
    by_cases hji : j = i
    · subst hji
      rw [List.getElem?_set_self hi] at hq
      cases hq
      exact h2 j p hp
    · rw [List.getElem?_set_ne (Ne.symm hji)] at hq
      exact h2 j q hq
theorem PcOwn.push {base e es : Nat} {w w1 : World} {v v' : Value} {ps : List Piece} {p : Int} (h : PcOwn base e es w v ps)
    (hrow : ∀ cells, w.ownsRow base e 2 v ps.length cells → w1.ownsRow base e 2 v' (ps.length + 1) (cells ++ [.int .i64 p, .slice none 0 0])) (hc : Chg (ownOf v) w w1) (hb : v'.ownBlock = v.ownBlock ∨ v'.ownBlock = some w.heap.size) :
    PcOwn base e es w1 v' (ps ++ [⟨p, []⟩]) := by
  obtain ⟨cells, h1, h2⟩ := h
  have hr := hrow cells (by simpa using h1.row)
  have hcl : cells.length = ps.length * 2 := by have := h1.row.1; simpa using this
  refine ⟨cells ++ [.int .i64 p, .slice none 0 0], ?_, fun i q hq => ?_⟩
  · have := h1.push vStr_free (w1 := w1) (v' := v') (news := [.int .i64 p, .slice none 0 0]) (by simpa using hr) hc hb rfl
    simpa using this
  · rcases Nat.lt_or_ge i ps.length with hi | hi
    · rw [List.getElem?_append_left hi] at hq
      rw [List.getElem?_append_left (by omega)]
      exact h2 i q hq
    · rw [List.getElem?_append_right hi] at hq
      have hi0 : i - ps.length = 0 := by have := (List.getElem?_eq_some_iff.1 hq).1; simp at this; omega
      rw [hi0] at hq
      simp at hq
      subst hq
      rw [List.getElem?_append_right (by omega), hcl, show i * 2 - ps.length * 2 = 0 by omega]
      rfl
/-- Pieces that the call owns may be read. -/
theorem PcOwn.rd {base e es : Nat} {w : World} {v : Value} {ps : List Piece} (M : Mut) (hM : ∀ b, base ≤ b → ¬ M b) (h : PcOwn base e es w v ps) (hl : ps.length ≤ 140737488355328) (hw : ∀ p ∈ ps, p.word.length ≤ 140737488355328) : Pieces M w v ps := by
  cases hps : ps with
  | nil =>
    subst hps
    obtain ⟨cells, h1, _⟩ := h
    rcases h1.row.2 with ⟨h2, _⟩ | ⟨g, cap, cur, h2, _, _, h4, h5, _⟩
    · rw [h2]; exact SlR.nil
    · rw [h2]
      exact ⟨_, cap, rfl, h4, by unfold maxLen at h5; exact h5, by simp, (by intro h; cases h), fun i x hx => by simp at hx⟩
  | cons p0 ps0 =>
    rw [← hps]
    obtain ⟨g, cap, rfl, hc1, hc2, hg1, hg2⟩ := h.form (by rw [hps]; simp)
    refine ⟨_, cap, rfl, hc1, hc2, hl, (by intro h; cases h), fun i x hx => ⟨g, 0, rfl, ?_⟩⟩
    obtain ⟨u, hu, _, ho, _⟩ := h.word hx
    have hp := h.part hx
    rw [Nat.zero_add]
    refine ⟨⟨hp, hM g hg1⟩, u, ⟨hu, hM g hg1⟩, ?_⟩
    have hro := ho.rd evStr (hw x (List.mem_of_getElem? hx))
    obtain ⟨a, c, rfl, k1, k2, k3, k4, k5⟩ := id hro
    refine ⟨a, c, rfl, k1, k2, k3, k4, fun j s hs => ?_⟩
    obtain ⟨b, off, rfl, ⟨⟨hcell, _⟩, hsz⟩⟩ := k5 j s hs
    have hbb : base ≤ b := (ho.lt b (by rfl)).1
    exact ⟨b, off, rfl, ⟨hcell, hM b hbb⟩, hsz⟩

/-- A piece without a word is appended. -/
theorem PcOwn.append {P : Program} {t e es bytes base : Nat} (hT : ElemT P t e 2 bytes) {w : World} {v : Value} {ps : List Piece} (p : Int) (ty : TypeId) (h : PcOwn base e es w v ps) (hl : (ps.length + 1) * bytes ≤ 140737488355328) (hl2 : ps.length + 1 ≤ 140737488355328) (hb : base ≤ w.heap.size) :
    ∃ v' w', (Builtin.append_ #[t, t] ty #[v, .slice (some ⟨w.heap.size, 0, none⟩) 1 1]).run P (w.alloc (.cells #[.int .i64 p, .slice none 0 0] e)) = .ok v' w' ∧ PcOwn base e es w' v' (ps ++ [⟨p, []⟩]) ∧ Chg (ownOf v) (w.alloc (.cells #[.int .i64 p, .slice none 0 0] e)) w' := by
  obtain ⟨i, z, hi, hz, hsize, hby, hzs⟩ := hT.hi
  obtain ⟨cells, h1, h2⟩ := id (h.up (Ext.alloc w (.cells #[.int .i64 p, .slice none 0 0] e)))
  have hcell : ∀ j u, [Value.int .i64 p, Value.slice none 0 0][j]? = some u → (w.alloc (.cells #[.int .i64 p, .slice none 0 0] e)).cell? ((⟨w.heap.size, 0, none⟩ : Addr).add j) = some u := by
    intro j u hu
    match j with
    | 0 => simp at hu; subst hu; simp [Addr.add]
    | 1 => simp at hu; subst hu; simp [Addr.add]
    | j + 2 => simp at hu
  obtain ⟨v', w', hr, ho, hg, _, hbb⟩ := run_append_own_at (P := P) (w.alloc (.cells #[.int .i64 p, .slice none 0 0] e)) base t ty e i z 2 bytes hT.ht hi hz hsize hby hzs hT.hk v ps.length cells (by simpa using h1.row) ⟨w.heap.size, 0, none⟩ 1 1 [.int .i64 p, .slice none 0 0] rfl hcell (by intro u hu; simp at hu; rcases hu with rfl | rfl <;> rfl) (by unfold maxLen; omega) hl (by simp; omega)
  have hchg : Chg (ownOf v) (w.alloc (.cells #[.int .i64 p, .slice none 0 0] e)) w' := (Chg.grown hg).wid fun b hb' => .inl hb'
  have h' : PcOwn base e es (w.alloc (.cells #[.int .i64 p, .slice none 0 0] e)) v ps := ⟨cells, h1, h2⟩
  refine ⟨v', w', hr, h'.push (fun cells' hc' => ?_) hchg hbb, hchg⟩
  have : cells' = cells := by
    have hr1 := h1.row
    simp only [List.length_map] at hr1
    rcases hc'.2 with ⟨a1, a2⟩ | ⟨g, cap, cur, a1, _, a3, _, _, _, a7⟩
    · rcases hr1.2 with ⟨b1, b2⟩ | ⟨g', cap', cur', b1, _, b3, _, _, _, b7⟩
      · have e1 := hc'.1; have e2 := hr1.1
        rw [a2] at e1 e2
        simp at e1 e2
        rw [e1, e2]
      · rw [a1] at b1; cases b1
    · rcases hr1.2 with ⟨b1, b2⟩ | ⟨g', cap', cur', b1, _, b3, _, _, _, b7⟩
      · rw [a1] at b1; cases b1
      · rw [a1] at b1
        cases b1
        rw [a3] at b3
        cases b3
        rw [← a7, ← b7]
  rw [this]
  exact ho
end Go.Cb

namespace Go.Cb
open Go.RowKit
set_option linter.all false

theorem slice_mid {α : Type} {P : Program} {t e k bytes : Nat} (hT : ElemT P t e k bytes) {E : Elt α} {M : Mut} {w : World} {v : Value} {l : List α} (h : SlR k E M w v l) (i j : Nat) (hi : i ≤ j) (hj : j ≤ l.length) :
    ∃ v', (Instr.sliceAt t v (some (.int .i64 i)) (some (.int .i64 j)) none).run P w = .ok v' w ∧ SlR k E M w v' ((l.drop i).take (j - i)) := by
  obtain ⟨a, c, rfl, h1, h2, h4, h5, h3⟩ := h
  have hl : ((l.drop i).take (j - i)).length = j - i := by simp; omega
  have hjc : j ≤ c := by omega
  refine ⟨.slice (if c = i then a else a.map (·.add (i * k))) (j - i) (c - i), ?_, _, _, by rw [hl], by omega, by omega, by omega, ?_, fun m x hx => ?_⟩
  · simp [Instr.sliceAt, Instr.slice, run_underlying hT.ht, Instr.sliceBounds, Instr.sliceBound, asIntOf, hi, hjc, run_sizeOf hT]
  · intro hn
    split at hn
    · omega
    · cases a with
      | none => have := h5 rfl; omega
      | some ad => cases hn
  · rw [List.getElem?_take] at hx
    split at hx
    · rw [List.getElem?_drop] at hx
      obtain ⟨b, off, rfl, hE⟩ := h3 _ x hx
      have hlt := (List.getElem?_eq_some_iff.1 hx).1
      rw [if_neg (by omega)]
      refine ⟨b, off + i * k, ?_, ?_⟩
      · simp only [Option.map_some, Addr.add]
        split
        · rename_i h0; rw [h0, Nat.add_zero]
        · rfl
      · rwa [show off + i * k + m * k = off + (i + m) * k by rw [Nat.add_mul]; omega]
    · cases hx

theorem drop_at' {β : Type} {l : List β} {k : Nat} {x : β} (h : l[k]? = some x) : l.drop k = x :: l.drop (k + 1) := by
  obtain ⟨hk, rfl⟩ := List.getElem?_eq_some_iff.1 h
  exact List.drop_eq_getElem_cons hk
/-- An element of one cell is stored. -/
theorem OwnL.store1 {α : Type} {base e : Nat} {E : Elt α} {V : VR α} (hEV : EV 1 E V) {M : Mut} {w : World} {g n cap : Nat} {l : List α} {i : Nat} {u : Value} {x : α}
    (h : OwnL base e 1 V M w (.slice (some ⟨g, 0, none⟩) n cap) l) (hn : n = l.length) (hi : i < l.length) (hx : V (M.or (ownOf (.slice (some ⟨g, 0, none⟩) n cap))) w [u] x) :
    OwnL base e 1 V M (w.setCell ⟨g, i, none⟩ u) (.slice (some ⟨g, 0, none⟩) n cap) (l.set i x) := by
  subst hn
  obtain ⟨hM, xs, hrow, hel⟩ := h
  have hchg : Chg (M.or (ownOf (.slice (some ⟨g, 0, none⟩) l.length cap))) w (w.setCell ⟨g, i, none⟩ u) := (Chg.setCell w ⟨g, i, none⟩ u).wid fun b hb => .inl (.inr (by cases hb; rfl))
  have hxl : xs.length = l.length := by have := hrow.1; omega
  refine ⟨hM, xs.set i u, by simpa using (hrow.stored i u).1, fun j y hy => ?_⟩
  rw [Nat.mul_one]
  have hj : j < l.length := by have := (List.getElem?_eq_some_iff.1 hy).1; simpa using this
  have hone : ∀ (zs : List Value), zs.length = l.length → ∀ z, zs[j]? = some z → (zs.drop j).take 1 = [z] := by
    intro zs hz z hzz
    rw [drop_at' hzz]; rfl
  by_cases hji : j = i
  · subst hji
    rw [List.getElem?_set_self hj] at hy
    cases hy
    rw [hone (xs.set j u) (by simp [hxl]) u (by rw [List.getElem?_set_self (by omega)])]
    exact hEV.mv hx hchg
  · rw [List.getElem?_set_ne (Ne.symm hji)] at hy
    obtain ⟨z, hz⟩ := get_some (show j < xs.length by omega)
    rw [hone (xs.set i u) (by simp [hxl]) z (by rw [List.getElem?_set_ne (Ne.symm hji)]; exact hz)]
    have := hel j y hy
    rw [Nat.mul_one, hone xs hxl z hz] at this
    exact hEV.mv this hchg

/-- make of a slice of elements of one cell. -/
theorem make_L {α : Type} {P : Program} {t e bytes : Nat} {z : Value} (ht : P.underlying t = some (.slice e)) (hinfo : (P.info? e).map (fun i => (i.zero, i.size, i.bytes)) = some (some z, 1, bytes)) (hz : z.cells = #[z]) {V : VR α} {M : Mut} {w : World} (n : Nat) (x : α) (hV : ∀ N W, V N W [z] x) (hbytes : bytes * n ≤ 281474976710656) (hn : n ≤ 140737488355328) (base : Nat) (hb : base ≤ w.heap.size) (hM : ¬ M w.heap.size) :
    ∃ w', (Instr.makeSlice t (.int .i64 n) (.int .i64 n)).run P w = .ok (.slice (some ⟨w.heap.size, 0, none⟩) n n) w' ∧ OwnL base e 1 V M w' (.slice (some ⟨w.heap.size, 0, none⟩) n n) (List.replicate n x) ∧ Ext w w' ∧ w'.heap.size = w.heap.size + 1 := by
  obtain ⟨i, hi, hz0, hs, hby⟩ := info_parts hinfo
  refine ⟨w.alloc (.cells (madeCells z.cells (n * 1)) e), ?_, ?_, Ext.alloc _ _, World.size_alloc _ _⟩
  · have hbn : ((i.bytes : Nat) : Int) * (n : Int) ≤ 281474976710656 := by
      rw [hby, ← Int.natCast_mul]
      omega
    have := run_make (P := P) w t e i z ht hi hz0 .i64 .i64 (n : Int) (n : Int) (by omega) (by omega) hbn (by omega)
    rw [this, hs]
    simp
  · have hcells : (madeCells z.cells (n * 1)).toList = List.replicate n z := by
      rw [hz]
      unfold madeCells
      rw [Nat.mul_one]
      apply List.ext_getElem
      · simp
      · intro j h1 h2
        simp [Nat.mod_one]
    refine ⟨(fun b hb' => by cases hb'; exact hM), List.replicate n z, ⟨by simp, .inr ⟨w.heap.size, n, madeCells z.cells (n * 1), by simp, hb, ?_, by simp, by unfold maxLen; omega, by rw [size_madeCells], ?_⟩⟩, fun j y hy => ?_⟩
    · show (w.heap.push _)[w.heap.size]? = _
      simp
    · rw [hcells]; simp
    · have hj : j < n := by have := (List.getElem?_eq_some_iff.1 hy).1; simpa using this
      have hyx : y = x := by
        rw [List.getElem?_replicate] at hy
        simp [hj] at hy
        exact hy.symm
      subst hyx
      have hch : ((List.replicate n z).drop (j * 1)).take 1 = [z] := by
        rw [Nat.mul_one, List.drop_replicate, List.take_replicate, show min 1 (n - j) = 1 by omega]
        rfl
      rw [hch]
      exact hV _ _
end Go.Cb

namespace Go.Cb
open Go.RowKit Go.WideMaps
set_option linter.all false

def mapPut (f : ByteArray → Option Int) (s : ByteArray) (n : Int) : ByteArray → Option Int := fun t => if t.data.toList = s.data.toList then some n else f t
/-- A type of maps from strings to numbers. -/
structure MapT (P : Program) (t ks e : Nat) : Prop where
  ht : P.underlying t = some (.map ks e)
  hk : P.underlying ks = some .string
  he : P.underlying e = some (.int .i64)
  hz : ∀ w, (zeroValue e).run P w = .ok (.int .i64 0) w
/-- Block b is a map that reads as f, of at most n entries. -/
def MapR (P : Program) (ks e : Nat) (w : World) (b n : Nat) (f : ByteArray → Option Int) : Prop :=
  ∃ D : DataW Unit, w.ownsMap P ks (plainElem P e) b n D ∧ ∀ s : ByteArray, Maps.has D (.string s.data.toList) = (f s).isSome ∧ D.atKey (.string s.data.toList) (.lit (.int .i64 0)) = .lit (.int .i64 ((f s).getD 0))

theorem MapR.made (P : Program) (ks e : Nat) (w : World) : MapR P ks e (w.alloc (.map #[] 0)) w.heap.size 0 (fun _ => none) :=
  ⟨.map [], World.ownsMap_made w P ks _, fun s => ⟨rfl, rfl⟩⟩
theorem MapR.lt {P : Program} {ks e : Nat} {w : World} {b n : Nat} {f : ByteArray → Option Int} (h : MapR P ks e w b n f) : b < w.heap.size := let ⟨_, h1, _⟩ := h; h1.lt
theorem MapR.mono {P : Program} {ks e : Nat} {w : World} {b n m : Nat} {f : ByteArray → Option Int} (h : MapR P ks e w b n f) (hm : n ≤ m) : MapR P ks e w b m f := let ⟨D, h1, h2⟩ := h; ⟨D, h1.mono hm, h2⟩
theorem MapR.mv {P : Program} {ks e : Nat} {w w' : World} {b n : Nat} {f : ByteArray → Option Int} {N : Mut} (h : MapR P ks e w b n f) (hc : Chg N w w') (hN : ¬ N b) : MapR P ks e w' b n f := by
  have hl := h.lt
  obtain ⟨D, ⟨es, clock, hb, h1⟩, h2⟩ := h
  exact ⟨D, ⟨es, clock, (hc.block b hl hN).trans hb, h1⟩, h2⟩
theorem MapR.up {P : Program} {ks e : Nat} {w w' : World} {b n : Nat} {f : ByteArray → Option Int} (h : MapR P ks e w b n f) (hc : Ext w w') : MapR P ks e w' b n f := h.mv (hc.chg (M := fun _ => False)) (fun h => h)
theorem int_lit_eq {a b : Int} (h : (DataW.lit (.int .i64 a) : DataW Unit) = .lit (.int .i64 b)) : a = b := by
  cases h; rfl
theorem MapR.look {P : Program} {t ks e : Nat} (hT : MapT P t ks e) {w : World} {b n : Nat} {f : ByteArray → Option Int} (h : MapR P ks e w b n f) (s : ByteArray) (hs : s.size ≤ 9223372036854775807) :
    (Instr.lookup t (.map (some b)) (.string s) false).run P w = .ok (.int .i64 ((f s).getD 0)) w := by
  obtain ⟨D, h1, h2⟩ := h
  obtain ⟨c, hr, hc, _⟩ := h1.lookup_int (Maps.string_keyed hT.hk) hT.ht hT.he (hT.hz w) (keyOf_string_mk hT.hk (s := s) (by unfold maxLen; exact hs))
  rw [(h2 s).2] at hc
  rw [hr, int_lit_eq hc]
theorem MapR.look_ok {P : Program} {t ks e : Nat} (hT : MapT P t ks e) {w : World} {b n : Nat} {f : ByteArray → Option Int} (h : MapR P ks e w b n f) (s : ByteArray) (hs : s.size ≤ 9223372036854775807) :
    (Instr.lookup t (.map (some b)) (.string s) true).run P w = .ok (.tuple #[.int .i64 ((f s).getD 0), .bool (f s).isSome]) w := by
  obtain ⟨D, h1, h2⟩ := h
  obtain ⟨v, ps, hr, hv⟩ := h1.look_ok (Maps.string_keyed hT.hk) hT.ht (hT.hz w) (plainElem_int hT.he (by decide)) (keyOf_string_mk hT.hk (s := s) (by unfold maxLen; exact hs))
  obtain ⟨a, rfl, hz, _⟩ := plainElem_int_inv hT.he hv
  rw [(h2 s).2] at hz
  have : (f s).getD 0 = a := int_lit_eq (Prod.mk.inj hz).1
  rw [hr, (h2 s).1, this]
theorem MapR.update {P : Program} {t ks e : Nat} (hT : MapT P t ks e) {w : World} {b n : Nat} {f : ByteArray → Option Int} (h : MapR P ks e w b n f) (hn : n < 9223372036854775807) (s : ByteArray) (hs : s.size ≤ 9223372036854775807) (x : Int) (hx0 : -9223372036854775808 ≤ x) (hx1 : x ≤ 9223372036854775807) :
    ∃ w', (Instr.mapUpdate t (.map (some b)) (.string s) (.int .i64 x)).run P w = .ok () w' ∧ MapR P ks e w' b (n + 1) (mapPut f s x) ∧ Chg (fun i => i = b) w w' := by
  obtain ⟨D, h1, h2⟩ := h
  have K := Maps.string_keyed hT.hk
  have hkey := keyOf_string_mk hT.hk (s := s) (by unfold maxLen; exact hs)
  obtain ⟨w', hr, h3, h4⟩ := h1.update K hT.ht (by unfold maxLen; exact hn) hkey (plainElem_int hT.he (a := x) (WalkArith.wf_i64 (by omega)))
  refine ⟨w', hr, ⟨_, h3, fun u => ?_⟩, (Chg.grown h4).wid fun i hi => .inl (by cases hi; rfl)⟩
  unfold mapPut
  split
  · rename_i hu
    rw [hu]
    exact ⟨Maps.has_put_same h1.isMap (K.key hkey) _, Maps.atKey_put_same h1.isMap (K.key hkey) _ _⟩
  · rename_i hu
    have hne : Lit.string u.data.toList ≠ Lit.string s.data.toList := fun hh => hu (by injection hh)
    rw [Maps.has_put_other hne, Maps.atKey_put_other hne]
    exact h2 u
/-- m[k] = v, of which the run is known. -/
theorem wpList_mu {P : Program} {ops : Array Oper} {rest : List Oper} {a : Act} {Q : Exit → Act → World → Prop} {w : World} (w' : World) {ty : TypeId} {pos : String} {after : Array Edge} {t : TypeId} {m x v : Operand}
    (hr : (Instr.mapUpdate t (a.eval m) (a.eval x) (a.eval v)).run P w = .ok () w')
    (h : wpList P ops Q rest (a.put none undef) w') : wpList P ops Q (⟨none, .mapUpdate t m x v, ty, pos, after, none⟩ :: rest) a w := by
  refine wpList_plain rfl fun K hK => ?_
  unfold Oper.wp execOp
  simp [hr, Result.andThen]
  exact hK _ _ h
end Go.Cb
