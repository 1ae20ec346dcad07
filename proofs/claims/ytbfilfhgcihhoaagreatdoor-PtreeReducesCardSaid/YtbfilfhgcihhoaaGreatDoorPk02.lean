/-
  The engine's rules in short forms. No program in sight.
  The engine: rows of owned rows as a family; nil checks; pointers that are shared from now on; three writers at once. No program in sight.
  The engine: results that lie in cells. No program in sight.
  Walks: names, alphabets; searching lists of strings (package name, the reference's layer 2, package slices).
  Owned slices, more: a middle part, a store, make. No program in sight.
  Maps from strings to numbers, read as functions. No program in sight.
  Plain functions, more: the parts of a cut as a map. No program in sight.
  Plain laws: words in order; variants counted by first occurrence, then sorted, are those added in order. No program in sight.
  Plain: process trees: their order, valid ones, normal forms. No program in sight.
  Walks: slices.IndexFunc, slices.ContainsFunc, at the element types of the program.
  Walks: lists of variants: which are valid, which are the same; what is small enough for the laws of the cut chapter.
  Walks: process trees: which nodes are right, how many there are, which trees are valid, in the program and in the reference.
  The engine, fifteenth part: a row is sorted by the library. No program in sight.
  The engine: a row is cut short; new rows of zeros by append. No program in sight.
  The engine: a row of numbers is sorted by the library. No program in sight.
  The engine: rows are sorted by the library, compared by functions that were walked. No program in sight.
  The engine: ranging over a map that is read. No program in sight.
  The engine: maps whose keys are pairs of strings. No program in sight.
  The engine: owned structs behind pointers, handed back and opened. No program in sight.
  The engine: calls that change what the caller owns. No program in sight.
  The engine: structs of plain values are compared. No program in sight.
  The engine: what an owned thing reads as, written otherwise. No program in sight.
  The engine: literals of structs. No program in sight.
  The engine: a contract's result, read otherwise. No program in sight.
  The engine: a slot's value, read otherwise. No program in sight.
-/
import Derived.KernelRfl
import Derived.Test.YtbfilfhgcihhoaaGreatDoorProg
import Derived.Maps.Own
import Derived.Maps.OwnOps
import Derived.Maps.OwnSet
import Derived.StringKeys
import Derived.Shelf.SlSortCmp.InsertionK
import Derived.Shelf.SlSortCmp.Kit1
import Derived.Maps.RangeRun
import Derived.DeepKeys3
import Derived.Lib.SliceRun
import Derived.Laws.StructEq
import Derived.Test.YtbfilfhgcihhoaaGreatDoorPk01
namespace Go.En
open Go.RowKit Go.Cb
set_option linter.all false
theorem nav {A B : Prop} (h : B) (e : B → A := by intro h; (repeat (first | with_reducible refine aC_seq ?_ | with_reducible refine aC_block ?_ | with_reducible refine aN_then ?_ | with_reducible refine aN_block ?_ | with_reducible refine aC_skip ?_ | with_reducible refine aC_exit ?_ | with_reducible refine aX_then ?_ | with_reducible refine aX_block ?_ | with_reducible refine aX_other rfl ?_ | with_reducible refine aC_ret ?_ | with_reducible refine aR_then ?_ | with_reducible refine aR_block ?_)); exact h) : A := e h
section
variable {P : Program} {c : Ctx} {ops : Array Oper} {Q : Exit → Act → World → Prop} {rest : List Oper} {st : St} {sL hP : List (Nat × Ent)} {o : Oper} {x y : Operand} {t t' : TypeId} {q q' : PV} {Z : Nat → Bool} {K : List Nat} {fuel : Nat} {listed : Array Bool}
theorem xL {v : Value} {p : PV} (d : Nat) (hy : YE P (⟨sL, hP⟩ : St) o (· = v) p) (k : aL P c ops Q rest ⟨put d (v, p) sL, hP⟩) (hw : wants ops sL o = some true := by exact rfl) (hd : o.dst = some d := by exact rfl) (hn : d < c.nt := by exact Nat.le_of_ble_eq_true rfl) : aL P c ops Q (o :: rest) (⟨sL, hP⟩ : St) :=
 aL_x d hw hd hn hy k
theorem yL {V : Value → Prop} {p : PV} (d : Nat) (hy : YE P (⟨sL, hP⟩ : St) o V p) (k : ∀ v, V v → aL P c ops Q rest ⟨put d (v, p) sL, hP⟩) (hw : wants ops sL o = some true := by exact rfl) (hd : o.dst = some d := by exact rfl) (hn : d < c.nt := by exact Nat.le_of_ble_eq_true rfl) : aL P c ops Q (o :: rest) (⟨sL, hP⟩ : St) :=
 aL_y d hw hd hn hy k
theorem kL (d : Nat) (k : aL P c ops Q rest ⟨put d (undef, .val undef) sL, hP⟩) (hw : wants ops sL o = some false := by exact rfl) (hd : o.dst = some d := by exact rfl) (hn : d < c.nt := by exact Nat.le_of_ble_eq_true rfl) : aL P c ops Q (o :: rest) (⟨sL, hP⟩ : St) :=
 aL_skip d hw hd hn k
theorem bL {l : List Oper} {b : Bool} {q : PV} (t : Nat) (ht : b = true → aL P c ops Q l ⟨put t (.bool true, .val (.bool true)) sL, hP⟩) (hf : b = false → aL P c ops Q l ⟨put t (.bool false, .val (.bool false)) sL, hP⟩) (hx : lk sL t = some (.bool b, q) := by exact rfl) : aL P c ops Q l (⟨sL, hP⟩ : St) :=
 aL_bcase t hx ht hf
theorem xD {v : Value} {p : PV} (i : Nat) (d : Nat) (ho : ops[i]? = some o) (hy : YE P ⟨sL, onlyK K hP⟩ o (· = v) p) (k : aD P c ops Q Z K fuel (listed.setIfInBounds i true) ⟨put d (v, p) sL, hP⟩) (hck : (Region.noSelect ops && (Region.ready .any ops listed).contains i && Region.free .any ops listed i && zWaits .any ops Z i) = true := by kernel_rfl) (hw : wants ops sL o = some true := by exact rfl) (hd : o.dst = some d := by exact rfl) (hn : d < c.nt := by exact Nat.le_of_ble_eq_true rfl) : aD P c ops Q Z K (fuel + 1) listed (⟨sL, hP⟩ : St) :=
 aD_x i d ho hck hw hd hn hy k
theorem yD {V : Value → Prop} {p : PV} (i : Nat) (d : Nat) (ho : ops[i]? = some o) (hy : YE P ⟨sL, onlyK K hP⟩ o V p) (k : ∀ v, V v → aD P c ops Q Z K fuel (listed.setIfInBounds i true) ⟨put d (v, p) sL, hP⟩) (hck : (Region.noSelect ops && (Region.ready .any ops listed).contains i && Region.free .any ops listed i && zWaits .any ops Z i) = true := by kernel_rfl) (hw : wants ops sL o = some true := by exact rfl) (hd : o.dst = some d := by exact rfl) (hn : d < c.nt := by exact Nat.le_of_ble_eq_true rfl) : aD P c ops Q Z K (fuel + 1) listed (⟨sL, hP⟩ : St) :=
 aD_y i d ho hck hw hd hn hy k
theorem kD (i : Nat) (d : Nat) (ho : ops[i]? = some o) (k : aD P c ops Q Z K fuel (listed.setIfInBounds i true) ⟨put d (undef, .val undef) sL, hP⟩) (hck : (Region.noSelect ops && (Region.ready .any ops listed).contains i && Region.free .any ops listed i && zWaits .any ops Z i) = true := by kernel_rfl) (hw : wants ops sL o = some false := by exact rfl) (hd : o.dst = some d := by exact rfl) (hn : d < c.nt := by exact Nat.le_of_ble_eq_true rfl) : aD P c ops Q Z K (fuel + 1) listed (⟨sL, hP⟩ : St) :=
 aD_skip i d ho hck hw hd hn k
theorem xE {v : Value} {p : PV} (i : Nat) (d : Nat) (ho : ops[i]? = some o) (hy : YE P (⟨sL, hP⟩ : St) o (· = v) p) (k : aD P c ops Q Z K fuel (listed.setIfInBounds i true) ⟨put d (v, p) sL, hP⟩) (hr : Region.ready .any ops listed = [i] := by kernel_rfl) (hw : wants ops sL o = some true := by exact rfl) (hd : o.dst = some d := by exact rfl) (hn : d < c.nt := by exact Nat.le_of_ble_eq_true rfl) : aD P c ops Q Z K (fuel + 1) listed (⟨sL, hP⟩ : St) :=
 aD_x1 i d ho hr hw hd hn hy k
theorem yE {V : Value → Prop} {p : PV} (i : Nat) (d : Nat) (ho : ops[i]? = some o) (hy : YE P (⟨sL, hP⟩ : St) o V p) (k : ∀ v, V v → aD P c ops Q Z K fuel (listed.setIfInBounds i true) ⟨put d (v, p) sL, hP⟩) (hr : Region.ready .any ops listed = [i] := by kernel_rfl) (hw : wants ops sL o = some true := by exact rfl) (hd : o.dst = some d := by exact rfl) (hn : d < c.nt := by exact Nat.le_of_ble_eq_true rfl) : aD P c ops Q Z K (fuel + 1) listed (⟨sL, hP⟩ : St) :=
 aD_y1 i d ho hr hw hd hn hy k
theorem q_move {P : Program} {st : St} {o : Oper} {x : Operand} {v : Value} {p : PV} (ho : o.op = .move x := by exact rfl) (hx : ev st.slots x = some (v, p) := by exact rfl) : YE P st o (· = v) p :=
 y_move ho hx
theorem q_assign {P : Program} {st : St} {o : Oper} {x : Operand} {v : Value} {p : PV} (ho : o.op = .assign x := by exact rfl) (hx : ev st.slots x = some (v, p) := by exact rfl) : YE P st o (· = v) p :=
 y_assign ho hx
theorem q_pick {P : Program} {st : St} {o : Oper} {c x y : Operand} {b : Bool} {q : PV} {v : Value} {p : PV} (ho : o.op = .pick c x y := by exact rfl) (hc : ev st.slots c = some (.bool b, q) := by exact rfl) (hx : ev st.slots (if b then x else y) = some (v, p) := by exact rfl) : YE P st o (· = v) p :=
 y_pick ho hc hx
theorem q_not {P : Program} {st : St} {o : Oper} {x : Operand} {t : TypeId} {b : Bool} {q : PV} (ho : o.op = .unOp .not t x := by exact rfl) (hx : ev st.slots x = some (.bool b, q) := by exact rfl) : YE P st o (· = .bool (!b)) (.val (.bool (!b))) :=
 y_not ho hx
theorem q_lss {k : IntKind} {a b : Int} (ho : o.op = .binOp .lss t x y t' := by exact rfl) (hx : ev st.slots x = some (.int k a, q) := by exact rfl) (hy : ev st.slots y = some (.int k b, q') := by exact rfl) : YE P st o (· = .bool (decide (a < b))) (.val (.bool (decide (a < b)))) :=
 y_lss ho hx hy
theorem q_leq {k : IntKind} {a b : Int} (ho : o.op = .binOp .leq t x y t' := by exact rfl) (hx : ev st.slots x = some (.int k a, q) := by exact rfl) (hy : ev st.slots y = some (.int k b, q') := by exact rfl) : YE P st o (· = .bool (decide (a ≤ b))) (.val (.bool (decide (a ≤ b)))) :=
 y_leq ho hx hy
theorem q_gtr {k : IntKind} {a b : Int} (ho : o.op = .binOp .gtr t x y t' := by exact rfl) (hx : ev st.slots x = some (.int k a, q) := by exact rfl) (hy : ev st.slots y = some (.int k b, q') := by exact rfl) : YE P st o (· = .bool (decide (b < a))) (.val (.bool (decide (b < a)))) :=
 y_gtr ho hx hy
theorem q_geq {k : IntKind} {a b : Int} (ho : o.op = .binOp .geq t x y t' := by exact rfl) (hx : ev st.slots x = some (.int k a, q) := by exact rfl) (hy : ev st.slots y = some (.int k b, q') := by exact rfl) : YE P st o (· = .bool (decide (b ≤ a))) (.val (.bool (decide (b ≤ a)))) :=
 y_geq ho hx hy
theorem q_eql {k : IntKind} {a b : Int} (ho : o.op = .binOp .eql t x y t' := by exact rfl) (hx : ev st.slots x = some (.int k a, q) := by exact rfl) (hy : ev st.slots y = some (.int k b, q') := by exact rfl) : YE P st o (· = .bool (decide (a = b))) (.val (.bool (decide (a = b)))) :=
 y_eql ho hx hy
theorem q_neq {k : IntKind} {a b : Int} (ho : o.op = .binOp .neq t x y t' := by exact rfl) (hx : ev st.slots x = some (.int k a, q) := by exact rfl) (hy : ev st.slots y = some (.int k b, q') := by exact rfl) : YE P st o (· = .bool (decide (a ≠ b))) (.val (.bool (decide (a ≠ b)))) :=
 y_neq ho hx hy
theorem q_seql {a b : ByteArray} (ho : o.op = .binOp .eql t x y t' := by exact rfl) (hx : ev st.slots x = some (.string a, q) := by exact rfl) (hy : ev st.slots y = some (.string b, q') := by exact rfl) : YE P st o (· = .bool (a.toList == b.toList)) (.val (.bool (a.toList == b.toList))) :=
 y_seql ho hx hy
theorem q_sneq {a b : ByteArray} (ho : o.op = .binOp .neq t x y t' := by exact rfl) (hx : ev st.slots x = some (.string a, q) := by exact rfl) (hy : ev st.slots y = some (.string b, q') := by exact rfl) : YE P st o (· = .bool (!(a.toList == b.toList))) (.val (.bool (!(a.toList == b.toList)))) :=
 y_sneq ho hx hy
theorem q_add {a b : Int} (ho : o.op = .binOp .add t x y t' := by exact rfl) (hx : ev st.slots x = some (.int .i64 a, q) := by exact rfl) (hy : ev st.slots y = some (.int .i64 b, q') := by exact rfl) (h1 : -9223372036854775808 ≤ a + b := by first | omega | exact Nat.le_of_ble_eq_true rfl | (simp only [List.length_cons, List.length_nil, List.length_map, List.length_set, List.length_append, List.length_replicate, List.length_singleton, List.flatMap_cons, List.flatMap_nil]; omega)) (h2 : a + b ≤ 9223372036854775807 := by first | omega | exact Nat.le_of_ble_eq_true rfl | (simp only [List.length_cons, List.length_nil, List.length_map, List.length_set, List.length_append, List.length_replicate, List.length_singleton, List.flatMap_cons, List.flatMap_nil]; omega)) : YE P st o (· = .int .i64 (a + b)) (.val (.int .i64 (a + b))) :=
 y_add ho hx hy h1 h2
theorem q_sub {a b : Int} (ho : o.op = .binOp .sub t x y t' := by exact rfl) (hx : ev st.slots x = some (.int .i64 a, q) := by exact rfl) (hy : ev st.slots y = some (.int .i64 b, q') := by exact rfl) (h1 : -9223372036854775808 ≤ a - b := by first | omega | exact Nat.le_of_ble_eq_true rfl | (simp only [List.length_cons, List.length_nil, List.length_map, List.length_set, List.length_append, List.length_replicate, List.length_singleton, List.flatMap_cons, List.flatMap_nil]; omega)) (h2 : a - b ≤ 9223372036854775807 := by first | omega | exact Nat.le_of_ble_eq_true rfl | (simp only [List.length_cons, List.length_nil, List.length_map, List.length_set, List.length_append, List.length_replicate, List.length_singleton, List.flatMap_cons, List.flatMap_nil]; omega)) : YE P st o (· = .int .i64 (a - b)) (.val (.int .i64 (a - b))) :=
 y_sub ho hx hy h1 h2
theorem q_index {s : ByteArray} {i : Int} {c : UInt8} {k : IntKind} (hu : P.underlying t = some .string) (ho : o.op = .index t x y := by exact rfl) (hx : ev st.slots x = some (.string s, q) := by exact rfl) (hy : ev st.slots y = some (.int k i, q') := by exact rfl) (hi : 0 ≤ i := by first | omega | exact Nat.le_of_ble_eq_true rfl | (simp only [List.length_cons, List.length_nil, List.length_map, List.length_set, List.length_append, List.length_replicate, List.length_singleton, List.flatMap_cons, List.flatMap_nil]; omega)) (hc : s.data[i.toNat]? = some c := by assumption) : YE P st o (· = .int .u8 c.toNat) (.val (.int .u8 c.toNat)) :=
 y_index hu ho hx hy hi hc
theorem q_slen {P : Program} {st : St} {o : Oper} {x : Operand} {t : TypeId} {s : ByteArray} {q : PV} (ht : P.underlying t = some .string) (ho : o.op = .call { callee := .builtin .len, args := #[x], argTypes := #[t] } := by exact rfl) (hx : ev st.slots x = some (.string s, q) := by exact rfl) : YE P st o (· = .int .i64 s.size) (.val (.int .i64 s.size)) :=
 y_slen ht ho hx
theorem q_extract {P : Program} {st : St} {o : Oper} {x : Operand} {i : Nat} {vs : List Value} {ps : List PV} {v : Value} {p : PV} (ho : o.op = .extract x i := by exact rfl) (hx : ev st.slots x = some (.tuple vs.toArray, .tup ps) := by exact rfl) (hv : vs[i]? = some v := by exact rfl) (hp : ps[i]? = some p := by exact rfl) : YE P st o (· = v) p :=
 y_extract ho hx hv hp
theorem q_fld {s f fo j : Nat} {x : Operand} {v : Value} {cs : List PV} (hT : FldT P s f fo = true) (ho : o.op = .fieldAddr s x f := by exact rfl) (hx : ev st.slots x = some (v, .sptr j cs) := by exact rfl) : YE P st o (· = padd v fo) (.sptr (j + fo) cs) :=
 y_fld_shr hT ho hx
theorem q_fldo {s f fo j e k n : Nat} {x : Operand} {h : Value} {p : PV} {cs : List PV} (l : Nat) (hT : FldT P s f fo = true) (ho : o.op = .fieldAddr s x f := by exact rfl) (hx : ev st.slots x = some (padd (sbase h) j, p) := by exact rfl) (hl : lk st.heap l = some (h, .own e k n cs) := by exact rfl) (hn : 0 < n := by first | omega | exact Nat.le_of_ble_eq_true rfl | (simp only [List.length_cons, List.length_nil, List.length_map, List.length_set, List.length_append, List.length_replicate, List.length_singleton, List.flatMap_cons, List.flatMap_nil]; omega)) : YE P st o (· = padd (sbase h) (j + fo)) (.val (padd (sbase h) (j + fo))) :=
 y_fld_own l hT ho hx hl hn
theorem q_idxN {t e k n : Nat} {x y : Operand} {v : Value} {cs : List PV} {q : PV} {kd : IntKind} {i : Nat} (hT : SlT P t e k = true) (ho : o.op = .indexAddr t x y := by exact rfl) (hx : ev st.slots x = some (v, .sl n cs) := by exact rfl) (hy : ev st.slots y = some (.int kd (i : Int), q) := by exact rfl) (h1 : i < n := by first | omega | exact Nat.le_of_ble_eq_true rfl | (simp only [List.length_cons, List.length_nil, List.length_map, List.length_set, List.length_append, List.length_replicate, List.length_singleton, List.flatMap_cons, List.flatMap_nil]; omega)) : YE P st o (· = padd (sbase v) (i * k)) (.sptr (i * k) cs) :=
 y_idx_shrN hT ho hx hy h1
theorem q_idxoN {t e k e' k' n : Nat} {x y : Operand} {h : Value} {p q : PV} {cs : List PV} {kd : IntKind} {i : Nat} (l : Nat) (hT : SlT P t e k = true) (ho : o.op = .indexAddr t x y := by exact rfl) (hx : ev st.slots x = some (h, p) := by exact rfl) (hy : ev st.slots y = some (.int kd (i : Int), q) := by exact rfl) (hl : lk st.heap l = some (h, .own e' k' n cs) := by exact rfl) (h1 : i < n := by first | omega | exact Nat.le_of_ble_eq_true rfl | (simp only [List.length_cons, List.length_nil, List.length_map, List.length_set, List.length_append, List.length_replicate, List.length_singleton, List.flatMap_cons, List.flatMap_nil]; omega)) : YE P st o (· = padd (sbase h) (i * k)) (.val (padd (sbase h) (i * k))) :=
 y_idx_ownN l hT ho hx hy hl h1
theorem q_ld {t j : Nat} {x : Operand} {v : Value} {cs : List PV} {p : PV} (hT : NoAgg P t = true) (ho : o.op = .load t x := by exact rfl) (hx : ev st.slots x = some (v, .sptr j cs) := by exact rfl) (hp : cs[j]? = some p := by first | exact rfl | assumption) : YE P st o (vOf p) p :=
 y_ld_shr hT ho hx hp
theorem q_ldo {t j e k n : Nat} {x : Operand} {h : Value} {q : PV} {cs : List PV} {p : PV} (l : Nat) (hT : NoAgg P t = true) (ho : o.op = .load t x := by exact rfl) (hx : ev st.slots x = some (padd (sbase h) j, q) := by exact rfl) (hl : lk st.heap l = some (h, .own e k n cs) := by exact rfl) (hp : cs[j]? = some p := by first | exact rfl | assumption) (hsh : isSh p = true := by exact rfl) : YE P st o (vOf p) p :=
 y_ld_own l hT ho hx hl hp hsh
theorem q_lda {t k j : Nat} {x : Operand} {v : Value} {cs ps : List PV} (hT : AggT P t k = true) (ho : o.op = .load t x := by exact rfl) (hx : ev sL x = some (v, .sptr j cs) := by exact rfl) (hp : j + k ≤ cs.length := by first | omega | exact Nat.le_of_ble_eq_true rfl | (simp only [List.length_cons, List.length_nil, List.length_map, List.length_set, List.length_append, List.length_replicate, List.length_singleton, List.flatMap_cons, List.flatMap_nil]; omega)) (hps : (cs.drop j).take k = ps := by first | assumption | exact rfl) : YE P (⟨sL, hP⟩ : St) o (fun _ => True) (.agg ps) :=
 y_lda_shrE hT ho hx hp hps
theorem q_ldao {t k j e k' n : Nat} {x : Operand} {h : Value} {q : PV} {cs ps : List PV} (l : Nat) (hT : AggT P t k = true) (ho : o.op = .load t x := by exact rfl) (hx : ev sL x = some (padd (sbase h) j, q) := by exact rfl) (hl : lk hP l = some (h, .own e k' n cs) := by exact rfl) (hp : j + k ≤ cs.length := by first | omega | exact Nat.le_of_ble_eq_true rfl | (simp only [List.length_cons, List.length_nil, List.length_map, List.length_set, List.length_append, List.length_replicate, List.length_singleton, List.flatMap_cons, List.flatMap_nil]; omega)) (hk : 0 < k := by decide) (hps : (cs.drop j).take k = ps := by first | assumption | exact rfl) (hsh : ps.all isSh = true := by first | exact rfl | decide) : YE P (⟨sL, hP⟩ : St) o (fun _ => True) (.agg ps) :=
 y_lda_ownE l hT ho hx hl hp hk hps hsh
theorem q_len {t e k n : Nat} {x : Operand} {v : Value} {cs : List PV} (hT : SlT P t e k = true) (ho : o.op = .call { callee := .builtin .len, args := #[x], argTypes := #[t] } := by exact rfl) (hx : ev st.slots x = some (v, .sl n cs) := by exact rfl) : YE P st o (· = .int .i64 n) (.val (.int .i64 n)) :=
 y_len_shr hT ho hx
theorem q_leno {t e k e' k' n : Nat} {x : Operand} {h : Value} {p : PV} {cs : List PV} (l : Nat) (hT : SlT P t e k = true) (ho : o.op = .call { callee := .builtin .len, args := #[x], argTypes := #[t] } := by exact rfl) (hx : ev st.slots x = some (h, p) := by exact rfl) (hl : lk st.heap l = some (h, .own e' k' n cs) := by exact rfl) : YE P st o (· = .int .i64 n) (.val (.int .i64 n)) :=
 y_len_own l hT ho hx hl
theorem q_mleno {t ks e : Nat} {x : Operand} {m : Value} {kv : List (Value × Value)} {p : PV} (l : Nat) (ht : P.underlying t = some (.map ks e)) (ho : o.op = .call { callee := .builtin .len, args := #[x], argTypes := #[t] } := by exact rfl) (hx : ev sL x = some (m, p) := by exact rfl) (hl : lk hP l = some (m, .omap kv) := by exact rfl) : YE P (⟨sL, hP⟩ : St) o (· = .int .i64 kv.length) (.val (.int .i64 kv.length)) :=
 y_mlen_o l ht ho hx hl
theorem q_build {t : Nat} {parts : Array (Nat × Operand)} {z : Value} {offs : List Nat} {zs : List Value} {es : List (Nat × Ent)} (hT : stInfo P t = some (z, offs.map fun o => (o, 1))) (hzs : z.cells = zs.toArray := by exact rfl) (ho : o.op = .build t parts := by exact rfl) (hx : evP sL parts.toList = some es := by exact rfl) (h1 : es.all (fun x => one x.2.2) = true := by first | exact rfl | (simp only [List.all_cons, List.all_nil, Bool.and_true, Bool.and_eq_true]; (repeat (first | refine ⟨?_, ?_⟩ | rfl | assumption)))) (hin : es.all (fun x => decide (x.1 < offs.length) && decide (offs.getD x.1 0 < zs.length)) = true := by exact rfl) : YE P (⟨sL, hP⟩ : St) o (· = .agg (setP offs zs (es.map fun x => (x.1, x.2.1))).toArray) (.agg (setP offs (zs.map .val) (es.map fun x => (x.1, x.2.2)))) :=
 y_build hT hzs ho hx h1 hin
theorem q_mkfn {f : Nat} {caps : Array Operand} {es : List Ent} (ho : o.op = .makeFunc (.func f) #[] caps := by exact rfl) (hx : evL sL caps.toList = some es := by exact rfl) : YE P (⟨sL, hP⟩ : St) o (· = .func (.func f) #[] (es.map (·.1)).toArray) (.fn f (es.map (·.2))) :=
 y_mkfn ho hx
theorem s_boxa {t : TypeId} {x : Operand} {v : Value} {ps : List PV} (d : Nat) (m : Nat) (k : ∀ h : Value, aL P c ops Q rest ⟨put d (padd (sbase h) 0, .val (padd (sbase h) 0)) sL, put d (h, .own t m 1 ps) hP⟩) (hw : wants ops sL o = some true := by exact rfl) (hd : o.dst = some d := by exact rfl) (hn : d < c.nt := by exact Nat.le_of_ble_eq_true rfl) (ho : o.op = .box t x := by exact rfl) (hx : ev sL x = some (v, .agg ps) := by exact rfl) (hm : ps.length = m := by exact rfl) (hl : lk hP d = none := by exact rfl) : aL P c ops Q (o :: rest) (⟨sL, hP⟩ : St) :=
 aL_boxa d m hw hd hn ho hx hm hl k
theorem s_alloc {t : TypeId} {z : Value} (zs : List Value) (m : Nat) (d : Nat) (hz : ZeroT P t z) (k : ∀ h : Value, aL P c ops Q rest ⟨put d (padd (sbase h) 0, .val (padd (sbase h) 0)) sL, put d (h, .own t m 1 (zs.map .val)) hP⟩) (hw : wants ops sL o = some true := by exact rfl) (hd : o.dst = some d := by exact rfl) (hn : d < c.nt := by exact Nat.le_of_ble_eq_true rfl) (ho : o.op = .alloc t := by exact rfl) (hzs : z.cells = zs.toArray := by exact rfl) (hm : zs.length = m := by exact rfl) (hl : lk hP d = none := by exact rfl) : aL P c ops Q (o :: rest) (⟨sL, hP⟩ : St) :=
 aL_alloc zs m d hw hd hn ho hz hzs hm hl k
theorem s_lit1 {t e kk bytes : Nat} {z : Value} {x : Operand} {v : Value} {p : PV} (d : Nat) (hT : ElT P t e 1 bytes z) (k : ∀ h : Value, h.oneCell' = true → aL P c ops Q rest ⟨put d (h, .val h) sL, put d (h, .own e 1 1 [p]) hP⟩) (hw : wants ops sL o = some true := by exact rfl) (hd : o.dst = some d := by exact rfl) (hn : d < c.nt := by exact Nat.le_of_ble_eq_true rfl) (ho : o.op = .buildSlice t 1 #[(0, x)] := by exact rfl) (hx : ev sL x = some (v, p) := by exact rfl) (h10 : one p = true := by first | exact rfl | assumption) (hl : lk hP d = none := by exact rfl) : aL P c ops Q (o :: rest) (⟨sL, hP⟩ : St) :=
 aL_lit1 (kk := 1) d hT hw hd hn ho hx h10 hl k
theorem s_lit1a {t e kk bytes : Nat} {z : Value} {x : Operand} {v : Value} {ps : List PV} (d : Nat) (hT : ElT P t e kk bytes z) (k : ∀ h : Value, h.oneCell' = true → aL P c ops Q rest ⟨put d (h, .val h) sL, put d (h, .own e kk 1 ps) hP⟩) (hw : wants ops sL o = some true := by exact rfl) (hd : o.dst = some d := by exact rfl) (hn : d < c.nt := by exact Nat.le_of_ble_eq_true rfl) (ho : o.op = .buildSlice t 1 #[(0, x)] := by exact rfl) (hx : ev sL x = some (v, .agg ps) := by exact rfl) (hps : ps.length = kk := by exact rfl) (hkb : kk ≤ 1000 := by decide) (hl : lk hP d = none := by exact rfl) : aL P c ops Q (o :: rest) (⟨sL, hP⟩ : St) :=
 aL_lit1a d hT hw hd hn ho hx hps hkb hl k
theorem s_litn {t e bytes m : Nat} {z : Value} {xs : List Operand} {parts : Array (Nat × Operand)} {es : List Ent} (d : Nat) (hT : ElT P t e 1 bytes z) (k : ∀ h : Value, h.oneCell' = true → aL P c ops Q rest ⟨put d (h, .val h) sL, put d (h, .own e 1 m (es.map (·.2))) hP⟩) (hw : wants ops sL o = some true := by exact rfl) (hd : o.dst = some d := by exact rfl) (hn : d < c.nt := by exact Nat.le_of_ble_eq_true rfl) (ho : o.op = .buildSlice t m parts := by exact rfl) (hpt : parts = ((xs.zipIdx).map fun x => (x.2, x.1)).toArray := by exact rfl) (hx : evL sL xs = some es := by exact rfl) (h1 : es.all (fun x => one x.2) = true := by exact rfl) (hm : es.length = m := by exact rfl) (hm0 : 0 < m := by decide) (hm1 : m ≤ 1000 := by decide) (hl : lk hP d = none := by exact rfl) : aL P c ops Q (o :: rest) (⟨sL, hP⟩ : St) :=
 aL_litn d hT hw hd hn ho hpt hx h1 hm hm0 hm1 hl k
theorem s_st {t j e kk n : Nat} {x y : Operand} {h v : Value} {q p : PV} {cs : List PV} (l : Nat) (hT : NoAgg P t = true) (hsz : (P.info? t).map (·.size) = some 1) (k : aL P c ops Q rest ⟨sL, put l (h, .own e kk n (cs.set j p)) hP⟩) (hw : wants ops sL o = some true := by exact rfl) (hd : o.dst = none := by exact rfl) (ho : o.op = .store t x y := by exact rfl) (hx : ev sL x = some (padd (sbase h) j, q) := by exact rfl) (hy : ev sL y = some (v, p) := by exact rfl) (h1 : one p = true := by first | exact rfl | assumption) (hl : lk hP l = some (h, .own e kk n cs) := by exact rfl) (hj : j < cs.length := by first | omega | exact Nat.le_of_ble_eq_true rfl | (simp only [List.length_cons, List.length_nil, List.length_map, List.length_set, List.length_append, List.length_replicate, List.length_singleton, List.flatMap_cons, List.flatMap_nil]; omega)) : aL P c ops Q (o :: rest) (⟨sL, hP⟩ : St) :=
 aL_st1 l hw hd hT hsz ho hx hy h1 hl hj k
theorem s_sta {t j e kk n m : Nat} {x y : Operand} {h V : Value} {q : PV} {ps cs : List PV} (l : Nat) (hT : AggT P t m = true) (k : aL P c ops Q rest ⟨sL, put l (h, .own e kk n (setL cs j ps)) hP⟩) (hw : wants ops sL o = some true := by exact rfl) (hd : o.dst = none := by exact rfl) (ho : o.op = .store t x y := by exact rfl) (hx : ev sL x = some (padd (sbase h) j, q) := by exact rfl) (hy : ev sL y = some (V, .agg ps) := by exact rfl) (hm : ps.length = m := by exact rfl) (h1 : ps.all one = true := by first | exact rfl | (simp only [List.all_cons, List.all_nil, Bool.and_true, Bool.and_eq_true]; (repeat (first | refine ⟨?_, ?_⟩ | rfl | assumption)))) (hl : lk hP l = some (h, .own e kk n cs) := by exact rfl) (hj : j + m ≤ cs.length := by first | omega | exact Nat.le_of_ble_eq_true rfl | (simp only [List.length_cons, List.length_nil, List.length_map, List.length_set, List.length_append, List.length_replicate, List.length_singleton, List.flatMap_cons, List.flatMap_nil]; omega)) (hm0 : 0 < m := by decide) : aL P c ops Q (o :: rest) (⟨sL, hP⟩ : St) :=
 aL_sta l hw hd hT ho hx hy hm h1 hl hj hm0 k
theorem s_mkmap {t : Nat} (d : Nat) (k : ∀ m : Value, m.oneCell' = true → aL P c ops Q rest ⟨put d (m, .val m) sL, put d (m, .omap []) hP⟩) (hw : wants ops sL o = some true := by exact rfl) (hd : o.dst = some d := by exact rfl) (hn : d < c.nt := by exact Nat.le_of_ble_eq_true rfl) (ho : o.op = .makeMap t none := by exact rfl) (hl : lk hP d = none := by exact rfl) : aL P c ops Q (o :: rest) (⟨sL, hP⟩ : St) :=
 aL_mkmap d hw hd hn ho hl k
theorem s_mput {t ks e : Nat} {kd : TypeDesc} {z : Value} {x y u : Operand} {m k v : Value} {kv : List (Value × Value)} {p q r : PV} (l : Nat) (hT : MpT P t ks e kd z) (kk : aL P c ops Q rest ⟨sL, put l (m, .omap (mput kv k v)) hP⟩) (hw : wants ops sL o = some true := by exact rfl) (hd : o.dst = none := by exact rfl) (ho : o.op = .mapUpdate t x y u := by exact rfl) (hx : ev sL x = some (m, p) := by exact rfl) (hl : lk hP l = some (m, .omap kv) := by exact rfl) (hy : ev sL y = some (k, q) := by exact rfl) (hu : ev sL u = some (v, r) := by exact rfl) (hk : kok kd k kv := by first | exact kok_skv _ _ | exact kok_ikv _ _ | exact kok_nil _ _ | assumption) (hbits : bits k = true := by exact rfl) : aL P c ops Q (o :: rest) (⟨sL, hP⟩ : St) :=
 aL_mput l hw hd hT ho hx hl hy hu hk hbits kk
theorem s_app {t ty e kk bytes n m : Nat} {z : Value} {x y : Operand} {h h2 : Value} {q q2 : PV} {cs cs2 : List PV} (l : Nat) (l2 : Nat) (d : Nat) (hT : ElT P t e kk bytes z) (k : ∀ h' : Value, h'.oneCell' = true → aL P c ops Q rest ⟨put d (h', .val h') sL, put d (h', .own e kk (n + m) (cs ++ cs2)) (del l2 (del l hP))⟩) (hw : wants ops sL o = some true := by exact rfl) (hd : o.dst = some d := by exact rfl) (hn : d < c.nt := by exact Nat.le_of_ble_eq_true rfl) (hty : o.type = ty := by exact rfl) (ho : o.op = .call { callee := .builtin .append, args := #[x, y], argTypes := #[t, t] } := by exact rfl) (hx : ev sL x = some (h, q) := by exact rfl) (hy : ev sL y = some (h2, q2) := by exact rfl) (hll : Nat.beq l l2 = false := by exact rfl) (hl : lk hP l = some (h, .own e kk n cs) := by exact rfl) (hl2 : lk hP l2 = some (h2, .own e kk m cs2) := by exact rfl) (hdl : lk (del l2 (del l hP)) d = none := by exact rfl) (hm : 0 < m := by decide) (hok : cs2.all cellOk = true := by first | exact rfl | (simp only [List.all_cons, List.all_nil, Bool.and_true, Bool.and_eq_true]; (repeat (first | refine ⟨?_, ?_⟩ | rfl | assumption)))) (hlen : n + m ≤ 9223372036854775807 := by first | omega | exact Nat.le_of_ble_eq_true rfl | (simp only [List.length_cons, List.length_nil, List.length_map, List.length_set, List.length_append, List.length_replicate, List.length_singleton, List.flatMap_cons, List.flatMap_nil]; omega)) (hb : (n + m) * bytes ≤ 140737488355328 := by first | omega | exact Nat.le_of_ble_eq_true rfl | (simp only [List.length_cons, List.length_nil, List.length_map, List.length_set, List.length_append, List.length_replicate, List.length_singleton, List.flatMap_cons, List.flatMap_nil]; omega)) (hdr : ¬ c.dr := by exact id) : aL P c ops Q (o :: rest) (⟨sL, hP⟩ : St) :=
 aL_append l l2 d hT hw hd hn hty ho hx hy hll hl hl2 hdl hm hok hlen hb hdr k
theorem bLd {l : List Oper} (t : Nat) {p : Prop} {_ : Decidable p} {q : PV} (ht : p → aL P c ops Q l ⟨put t (.bool true, .val (.bool true)) sL, hP⟩) (hf : ¬ p → aL P c ops Q l ⟨put t (.bool false, .val (.bool false)) sL, hP⟩) (hx : lk sL t = some (.bool (decide p), q) := by exact rfl) : aL P c ops Q l (⟨sL, hP⟩ : St) :=
 aL_bcase t hx (fun h => ht (of_decide_eq_true h)) (fun h => hf (of_decide_eq_false h))
theorem bDd (t : Nat) {p : Prop} {_ : Decidable p} {q : PV} (ht : p → aD P c ops Q Z K fuel listed ⟨put t (.bool true, .val (.bool true)) sL, hP⟩) (hf : ¬ p → aD P c ops Q Z K fuel listed ⟨put t (.bool false, .val (.bool false)) sL, hP⟩) (hx : lk sL t = some (.bool (decide p), q) := by exact rfl) : aD P c ops Q Z K fuel listed (⟨sL, hP⟩ : St) :=
 aD_bcase t hx (fun h => ht (of_decide_eq_true h)) (fun h => hf (of_decide_eq_false h))
theorem cC {x : Operand} {t e : Code} {b : Bool} {q : PV} (ht : b = true → aC P c t Q (⟨sL, hP⟩ : St)) (hf : b = false → aC P c e Q (⟨sL, hP⟩ : St)) (hx : ev sL x = some (.bool b, q) := by exact rfl) : aC P c (.cond x t e) Q (⟨sL, hP⟩ : St) := aC_cond hx ht hf
theorem cCd {x : Operand} {t e : Code} {p : Prop} {_ : Decidable p} {q : PV} (ht : p → aC P c t Q (⟨sL, hP⟩ : St)) (hf : ¬ p → aC P c e Q (⟨sL, hP⟩ : St)) (hx : ev sL x = some (.bool (decide p), q) := by exact rfl) : aC P c (.cond x t e) Q (⟨sL, hP⟩ : St) := aC_cond hx (fun h => ht (of_decide_eq_true h)) (fun h => hf (of_decide_eq_false h))
theorem cCt {x : Operand} {t e : Code} {q : PV} (ht : aC P c t Q (⟨sL, hP⟩ : St)) (hx : ev sL x = some (.bool true, q) := by exact rfl) : aC P c (.cond x t e) Q (⟨sL, hP⟩ : St) := aC_cond hx (fun _ => ht) (fun h => Bool.noConfusion h)
theorem cCf {x : Operand} {t e : Code} {q : PV} (hf : aC P c e Q (⟨sL, hP⟩ : St)) (hx : ev sL x = some (.bool false, q) := by exact rfl) : aC P c (.cond x t e) Q (⟨sL, hP⟩ : St) := aC_cond hx (fun h => Bool.noConfusion h) (fun _ => hf)
theorem cA {dd : Prop} {f : Nat} {xs : Array Operand} {ats : Array TypeId} {es : List Ent} {ps : List PV} {R : PV → Prop} (hc : ∀ args w, (callFunc f args).run P w = .ok (.enter f args) w) (hA : AFd dd P f ps R) (ho : o.op = .call { callee := .value (.func f), args := xs, argTypes := ats } := by exact rfl) (hx : evL sL xs.toList = some es := by exact rfl) (hps : es.map (·.2) = ps := by exact rfl) (hdd : c.dr → dd := by first | exact id | exact fun h => h.elim | exact fun _ => trivial) : CallR P c (⟨sL, hP⟩ : St) o R :=
 callA ho hc hx (hps ▸ hA) hdd
theorem cS {p : PV} (d : Nat) (hC : CallR P c (⟨sL, hP⟩ : St) o (· = p)) (k : ∀ v, vOf p v → aL P c ops Q rest ⟨put d (v, p) sL, hP⟩) (hsh : isSh p = true := by exact rfl) (hw : wants ops sL o = some true := by exact rfl) (hd : o.dst = some d := by exact rfl) (hn : d < c.nt := by exact Nat.le_of_ble_eq_true rfl) : aL P c ops Q (o :: rest) (⟨sL, hP⟩ : St) :=
 aL_cs d hw hd hn hC fun p' hp => by subst hp; exact ⟨hsh, k⟩
end
mutual
def shD : PV → Bool
 | .val _ => true
 | .sl _ _ => true
 | .sptr _ _ => true
 | .smap _ => true
 | .own _ _ _ _ => false
 | .omap _ => false
 | .obox _ _ _ => false
 | .agg ps => shDs ps
 | .tup ps => shDs ps
 | .fn _ _ => true
 | .oblk _ _ _ _ => false
def shDs : List PV → Bool
 | [] => true
 | p :: l => shD p && shDs l
end
theorem shDs_all : ∀ l : List PV, shDs l = l.all shD
 | [] => by simp [shDs]
 | p :: l => by simp [shDs, shDs_all l]
theorem Tr.shD {M : BS} {w : World} {v : Value} {p : PV} {F : BS} (h : Tr M w v p F) : En.shD p = true → Shr M w v p := by
 induction h with
 | shr h _ => exact fun _ => h
 | own => intro h; rw [En.shD] at h; cases h
 | omap => intro h; rw [En.shD] at h; cases h
 | oblk => intro h; rw [En.shD] at h; cases h
 | obox => intro h; rw [En.shD] at h; cases h
 | @agg ps F vs Fs hl h hd hF ih =>
   intro hs
   rw [En.shD, shDs_all] at hs
   exact .agg vs ps hl fun i v p hv hp => ih i v p hv hp (List.all_eq_true.1 hs p (List.mem_of_getElem? hp))
 | @tup ps F vs Fs hl h hd hF ih =>
   intro hs
   rw [En.shD, shDs_all] at hs
   exact .tup vs ps hl fun i v p hv hp => ih i v p hv hp (List.all_eq_true.1 hs p (List.mem_of_getElem? hp))
section
variable {P : Program} {c : Ctx} {ops : Array Oper} {Q : Exit → Act → World → Prop} {rest : List Oper} {st : St} {sL hP : List (Nat × Ent)} {o : Oper} {Z : Nat → Bool} {K : List Nat} {fuel : Nat} {listed : Array Bool}
theorem q_nilo {x : Operand} {h : Value} {q : PV} {j e k n : Nat} {cs : List PV} (l : Nat) (ho : o.op = .nilCheck x := by exact rfl) (hx : ev st.slots x = some (padd (sbase h) j, q) := by exact rfl) (hl : lk st.heap l = some (h, .own e k n cs) := by exact rfl) (hn : 0 < n := by first | omega | decide) : YE P st o (· = padd (sbase h) j) (.val (padd (sbase h) j)) :=
 .exact fun M F a w H => by
  have hv := (H.ev hx).1
  obtain ⟨g, cap, rfl, _⟩ := own_hdr (H.tr l _ _ hl) hn
  refine ⟨.val _, ?_⟩
  simp only [sbase, padd] at hv ⊢
  simp [execOp, ho, hv]
theorem aW_call {i d : Nat} {p : PV} (ho : ops[i]? = some o) (hC : CallR P c (⟨sL, hP⟩ : St) o (· = p)) (k : ∀ v, vOf p v → aD P c ops Q Z K fuel (listed.setIfInBounds i true) ⟨put d (v, p) sL, hP⟩) (hsh : shD p = true := by exact rfl) (hw : wants ops sL o = some true := by exact rfl) (hd : o.dst = some d := by exact rfl) (hn : d < c.nt := by exact Nat.le_of_ble_eq_true rfl) : aW P c ops Q Z K fuel listed (⟨sL, hP⟩ : St) i := fun a w F H C hC' => by
 refine wpOp_of_list (Q' := fun _ a' w' => (Z i = true ∨ C w') ∧ wpAnyS P .any ops Q C Z fuel (listed.setIfInBounds i true) a' w') ho (fun a' w' hq => hq) ?_
 have h1 := wanted_of H.rd hw
 unfold wpList
 rw [h1, if_pos rfl]
 refine .inl ?_
 obtain ⟨f, args, hr, hcall⟩ := hC a w F H
 unfold Oper.wp
 rw [hr, Oper.upon_enter]
 refine hcall.mono fun e w' ⟨v, q, Fr, e1, e2, e3, e4, e5, e6⟩ => ?_
 subst e1
 rw [show q = p from e2] at e4
 have hS := e4.shD hsh
 have H2 : HoldsF c ⟨put d (v, p) sL, hP⟩ F (a.put (some d) v) w' := put_up H e3 hn (hS.anti fun b _ h => .inl h)
 simp only [Oper.upon, hd]
 have hch : Chg (nK K hP F) w w' := e3.chg
 exact ⟨.inr (hC' w' hch), k v hS.vOf _ w' F H2 C fun W hW => hC' W (hch.tr hW fun b hb => .inl hb)⟩
theorem cD {p : PV} (d : Nat) (hC : CallR P c (⟨sL, hP⟩ : St) o (· = p)) (k : ∀ v, vOf p v → aL P c ops Q rest ⟨put d (v, p) sL, hP⟩) (hsh : shD p = true := by exact rfl) (hw : wants ops sL o = some true := by exact rfl) (hd : o.dst = some d := by exact rfl) (hn : d < c.nt := by exact Nat.le_of_ble_eq_true rfl) : aL P c ops Q (o :: rest) (⟨sL, hP⟩ : St) :=
 call_run hw hC fun a w F w' v p' Fr H hR hx hT hlo hdw => by
  rw [show p' = p from hR] at hT
  have hS := hT.shD hsh
  rw [hd]
  exact k v hS.vOf _ _ ⟨F, put_up H hx hn (hS.anti fun b _ h => .inl h)⟩
theorem cP {p1 p2 : PV} (d : Nat) (hC : CallR P c (⟨sL, hP⟩ : St) o (· = .tup [p1, p2])) (k : ∀ v1 v2, vOf p1 v1 → vOf p2 v2 → aL P c ops Q rest ⟨put d (.tuple [v1, v2].toArray, .tup [p1, p2]) sL, hP⟩) (hsh : shD (.tup [p1, p2]) = true := by exact rfl) (hw : wants ops sL o = some true := by exact rfl) (hd : o.dst = some d := by exact rfl) (hn : d < c.nt := by exact Nat.le_of_ble_eq_true rfl) : aL P c ops Q (o :: rest) (⟨sL, hP⟩ : St) :=
 call_run hw hC fun a w F w' v p' Fr H hR hx hT hlo hdw => by
  rw [show p' = .tup [p1, p2] from hR] at hT
  have hS := hT.shD hsh
  rw [hd]
  have hS' : Shr (mof c hP F) w' v (.tup [p1, p2]) := hS.anti fun b _ h => .inl h
  cases hS with
  | tup vs ps hl h =>
    match vs, hl, h, hS' with
    | [v1, v2], _, h, hS' => exact k v1 v2 (h 0 v1 p1 rfl rfl).vOf (h 1 v2 p2 rfl rfl).vOf _ _ ⟨F, put_up H hx hn hS'⟩
theorem aN_join {ι : Type} {S : ι → St} (i : ι) (hs : Sub (S i).slots sL) (hh : Sub (S i).heap hP) : aN c (Exit.then (fun a w => ∃ i, Holds c (S i) a w) Q) (⟨sL, hP⟩ : St) := aN_cut i hs hh
end
theorem nbeq (a b : Nat) : Nat.beq a b = (a == b) := by
 cases h : Nat.beq a b
 · exact (beq_eq_false_iff_ne.2 (fun e => by rw [e] at h; simp at h)).symm
 · exact (beq_iff_eq.2 (Nat.eq_of_beq_eq_true h)).symm
theorem nrm {A B : Prop} (h : B) (e : B → A := by intro h; (try simp only [minusK, onlyK, put, del, nbeq, List.elem, List.cons_append, List.nil_append, Nat.reduceBEq, cond_true, cond_false]); exact h) : A := e h
section
variable {P : Program} {c : Ctx} {sL hP : List (Nat × Ent)}
theorem cell_run {F : Nat → BS} {a : Act} {w : World} (H : HoldsF c (⟨sL, hP⟩ : St) F a w) {t ty k l e k' n : Nat} {h : Value} {q : PV} {cs : List PV} (hT : AggT P ty k = true) (ht : lk sL t = some (padd (sbase h) 0, q)) (hl : lk hP l = some (h, .own e k' n cs)) (hp : k ≤ cs.length) (hk : 0 < k) (hsh : (cs.take k).all isSh = true) :
 ∃ V A, (asAddr (a.tmps.getD t undef)).run P w = .ok A w ∧ (loadVar ty A).run P w = .ok V w ∧ Shr (mof c hP F) w V (.agg (cs.take k)) := by
 have hv := (H.sl t _ _ ht).1
 obtain ⟨xs, Fs, hrow, hlen, hTr, hd, hb, hF'⟩ := (H.tr l _ _ hl).row
 rcases row_form hrow with ⟨_, _, rfl⟩ | ⟨g, cap, rfl, h1, h2, h3⟩
 · simp at hlen; rw [hlen] at hp; simp at hp; omega
 refine ⟨.agg (xs.take k).toArray, ⟨g, 0, none⟩, ?_, ?_, .agg _ _ (by simp; omega) (fun i u p hu hp' => ?_)⟩
 · simp only [sbase, padd, Nat.zero_add] at hv
   simp [Array.getD_eq_getD_getElem?, hv, asAddr]
 · have hcl : ∀ i u, (xs.take k)[i]? = some u → w.cell? ((⟨g, 0, none⟩ : Addr).add i) = some u := fun i u hu => by
    have hi : i < k := by have := lt_of_get hu; simp at this; omega
    rw [List.getElem?_take_of_lt hi] at hu
    rw [add_none, Nat.zero_add]
    exact row_cell hrow hu
   have := run_loadCells_list (P := P) (w := w) ⟨g, 0, none⟩ _ hcl
   rw [show (xs.take k).length = k by simp; omega] at this
   simp [loadVar, AggT.run hT, AggT.size hT, this]
 · have hi : i < k := by have := lt_of_get hu; simp at this; omega
   have hps := List.all_eq_true.1 hsh p (List.mem_of_getElem? hp')
   rw [List.getElem?_take_of_lt hi] at hp' hu
   exact (hTr _ u p hu hp').sh hps
theorem ret_cell {fn : Func} {R : PV → Prop} {t ty k e k' n : Nat} {h : Value} {q : PV} {cs : List PV} (l : Nat) (hT : AggT P ty k = true) (hr : fn.results = #[.cell t ty]) (ht : lk sL t = some (padd (sbase h) 0, q)) (hl : lk hP l = some (h, .own e k' n cs)) (hp : k ≤ cs.length) (hk : 0 < k) (hsh : (cs.take k).all isSh = true) (hR : R (.agg (cs.take k))) (hN : ∀ b, ¬ c.N0 b := by intro _ h; exact h) (hdf : c.df = [] := by exact rfl) : aR c (bodyPost P fn (RetAF c R)) (⟨sL, hP⟩ : St) := fun a w ⟨F, H⟩ => by
 obtain ⟨V, A, h0, h1, h2⟩ := cell_run H hT ht hl hp hk hsh
 refine ⟨H.df.trans hdf, V, ?_, V, _, fun _ => False, rfl, hR, H.ext.ext (fun b _ => hN b), .shr (h2.anti fun b _ hb => ?_) (fun _ h => h), fun _ h => h.elim, H.dw⟩
 · simp only [results, hr]
   simp at h0
   simp [h0, h1]
 · rcases hb with hb | hb
   · exact .inl hb
   · exact hb.elim
theorem ret_cs {fn : Func} {R : PV → Prop} {t ty s k e k' n : Nat} {h u : Value} {q p : PV} {cs : List PV} (l : Nat) (hT : AggT P ty k = true) (hr : fn.results = #[.cell t ty, .tmp s]) (ht : lk sL t = some (padd (sbase h) 0, q)) (hl : lk hP l = some (h, .own e k' n cs)) (hs : lk sL s = some (u, p)) (hp : k ≤ cs.length) (hk : 0 < k) (hsh : (cs.take k).all isSh = true) (hR : R (.tup [.agg (cs.take k), p])) (hN : ∀ b, ¬ c.N0 b := by intro _ h; exact h) (hdf : c.df = [] := by exact rfl) : aR c (bodyPost P fn (RetAF c R)) (⟨sL, hP⟩ : St) := fun a w ⟨F, H⟩ => by
 obtain ⟨V, A, h0, h1, h2⟩ := cell_run H hT ht hl hp hk hsh
 obtain ⟨h3, h4⟩ := H.sl s _ _ hs
 have hM : ∀ b, b < w.heap.size → (c.M0 b ∨ False) → mof c hP F b := fun b _ hb => by
  rcases hb with hb | hb
  · exact .inl hb
  · exact hb.elim
 refine ⟨H.df.trans hdf, .tuple #[V, u], ?_, .tuple #[V, u], _, fun _ => False, rfl, hR, H.ext.ext (fun b _ => hN b), .shr (.tup [V, u] _ rfl fun i v q' hv hq' => ?_) (fun _ h => h), fun _ h => h.elim, H.dw⟩
 · simp only [results, hr]
   simp at h0
   simp [h0, h1, Array.getD_eq_getD_getElem?, h3]
 · match i with
   | 0 => simp at hv hq'; subst hv hq'; exact h2.anti hM
   | 1 => simp at hv hq'; subst hv hq'; exact h4.anti hM
   | i + 2 => simp at hv
end
end Go.En
namespace Go.Proofs.YtbfilfhgcihhoaaGreatDoor
open Go.RowKit Go.Cb Go.En
set_option linter.all false
set_option maxRecDepth 100000
abbrev pU8 (n : Int) : PV := .val (.int .u8 n)
theorem bool_val {a b : Bool} (h : a = true ↔ b = true) : pBool a = pBool b := by rw [Bool.eq_iff_iff.2 h]
theorem lt_of_arr {s : ByteArray} {i : Nat} {x : UInt8} (h : s.data[i]? = some x) : i < s.size := by
 rcases Nat.lt_or_ge i s.size with h1 | h1
 · exact h1
 · rw [Array.getElem?_eq_none h1] at h; cases h
theorem byte_at {s : ByteArray} {i : Nat} (h : i < s.size) : ∃ y, s.data[i]? = some y := ⟨s.data[i]'h, Array.getElem?_eq_getElem h⟩
theorem isName_short {s : ByteArray} (h : s.size < 1 ∨ 40 < s.size) : isName s = false := by
 unfold isName
 rcases h with h | h
 · rw [decide_eq_false (show ¬ 1 ≤ s.size by omega)]; simp
 · rw [decide_eq_false (show ¬ s.size ≤ 40 by omega)]; simp
theorem isName_let {s : ByteArray} {y : UInt8} (h0 : s.data[0]? = some y) (h : letterB y.toNat = false) : isName s = false := by
 unfold isName; rw [h0, Option.getD_some, h]; simp
theorem isName_bad {s : ByteArray} {k : Nat} {y : UInt8} (hy : s.data[k]? = some y) (h : partB y.toNat = false) : isName s = false := by
 unfold isName
 rw [Bool.and_eq_false_iff]; right
 rw [List.all_eq_false]
 exact ⟨y, Array.mem_toList_iff.2 (Array.mem_of_getElem? hy), by rw [h]; simp⟩
theorem isName_good {s : ByteArray} {y : UInt8} (h1 : 1 ≤ s.size) (h2 : s.size ≤ 40) (h0 : s.data[0]? = some y) (hl : letterB y.toNat = true) (h : ∀ j z, j < s.size → s.data[j]? = some z → partB z.toNat = true) : isName s = true := by
 unfold isName
 rw [h0, Option.getD_some, hl, decide_eq_true h1, decide_eq_true h2]
 simp only [Bool.and_self, Bool.true_and, List.all_eq_true]
 intro x hx
 obtain ⟨i, hi⟩ := Array.getElem?_of_mem (Array.mem_toList_iff.1 hx)
 exact h i x (lt_of_arr hi) hi
theorem letter_e (c : Int) : AF Tryz.prog 129 [pU8 c] (· = pBool (letterB c)) := by
 refine AF.of_body 17 Tryz.func129 rfl Tryz.ntmps129 (Nat.le_of_ble_eq_true rfl) ?_
 intro w0 M0 vs hl hv
 obtain ⟨v0, rfl⟩ := len1 hl
 obtain rfl := hv 0 _ _ rfl rfl
 clear hl hv
 refine nav ?_
 (refine aC_region ?_ <;> refine xL 2 q_assign ?_ <;> refine aL_end (nav ?_) <;> try dsimp only)
 (refine aC_region ?_ <;> refine xL 3 q_move ?_ <;> refine xL 4 q_geq ?_ <;> refine xL 5 q_move ?_ <;> (refine bLd 5 (fun hb5 => ?_) (fun hb5 => ?_) <;> (first | refine kL 6 ?_ | refine xL 6 q_move ?_)) <;> (first | refine kL 7 ?_ | refine xL 7 q_leq ?_) <;> refine xL 8 q_pick ?_ <;> refine xL 9 q_move ?_ <;> (first | refine xL 10 q_move ?_ | (refine bLd 9 (fun hb9 => ?_) (fun hb9 => ?_) <;> (first | refine kL 10 ?_ | refine xL 10 q_move ?_))) <;> (first | refine kL 11 ?_ | refine xL 11 q_geq ?_) <;> (first | refine kL 12 ?_ | refine xL 12 q_move ?_) <;> (first | refine kL 13 ?_ | (refine bLd 12 (fun hb12 => ?_) (fun hb12 => ?_) <;> (first | refine kL 13 ?_ | refine xL 13 q_move ?_))) <;> (first | refine kL 14 ?_ | refine xL 14 q_leq ?_) <;> (first | refine kL 15 ?_ | refine xL 15 q_pick ?_) <;> refine xL 16 q_pick ?_ <;> refine xL 2 q_assign ?_ <;> refine aL_end (nav ?_) <;> try dsimp only) <;> (
  refine ret_shr (Tryz.results129) rfl (bool_val ?_)
  simp only [letterB, Bool.or_eq_true, Bool.and_eq_true, decide_eq_true_eq, true_iff, false_iff, Bool.false_eq_true] <;> omega)
theorem part_e (c : Int) : AF Tryz.prog 130 [pU8 c] (· = pBool (partB c)) := by
 refine AF.of_body 25 Tryz.func130 rfl Tryz.ntmps130 (Nat.le_of_ble_eq_true rfl) ?_
 intro w0 M0 vs hl hv
 obtain ⟨v0, rfl⟩ := len1 hl
 obtain rfl := hv 0 _ _ rfl rfl
 clear hl hv
 refine nav ?_
 (refine aC_region ?_ <;> refine xL 2 q_assign ?_ <;> refine aL_end (nav ?_) <;> try dsimp only)
 (refine aC_region ?_ <;> refine xL 3 q_move ?_ <;> (refine cS 4 (cA Tryz.call129 (letter_e c)) fun v4 hv4 => ?_; cases hv4) <;> refine xL 5 q_move ?_ <;> (refine bL 5 (fun hb5 => ?_) (fun hb5 => ?_) <;> (first | refine kL 6 ?_ | refine xL 6 q_move ?_)) <;> (first | refine kL 7 ?_ | refine xL 7 q_geq ?_) <;> (first | refine kL 8 ?_ | refine xL 8 q_move ?_) <;> (first | refine kL 9 ?_ | (refine bLd 8 (fun hb8 => ?_) (fun hb8 => ?_) <;> (first | refine kL 9 ?_ | refine xL 9 q_move ?_))) <;> (first | refine kL 10 ?_ | refine xL 10 q_leq ?_) <;> (first | refine kL 11 ?_ | refine xL 11 q_pick ?_) <;> refine xL 12 q_pick ?_ <;> refine xL 13 q_move ?_ <;> (first | refine kL 14 ?_ | refine xL 14 q_move ?_ | (refine bLd 13 (fun hb13 => ?_) (fun hb13 => ?_) <;> (first | refine kL 14 ?_ | refine xL 14 q_move ?_))) <;> (first | refine kL 15 ?_ | refine xL 15 q_eql ?_) <;> refine xL 16 q_pick ?_ <;> refine xL 17 q_move ?_ <;> (first | refine kL 18 ?_ | (refine bLd 17 (fun hb17 => ?_) (fun hb17 => ?_) <;> (first | refine kL 18 ?_ | refine xL 18 q_move ?_))) <;> (first | refine kL 19 ?_ | refine xL 19 q_eql ?_) <;> refine xL 20 q_pick ?_ <;> refine xL 21 q_move ?_ <;> (first | refine kL 22 ?_ | (refine bLd 21 (fun hb21 => ?_) (fun hb21 => ?_) <;> (first | refine kL 22 ?_ | refine xL 22 q_move ?_))) <;> (first | refine kL 23 ?_ | refine xL 23 q_eql ?_) <;> refine xL 24 q_pick ?_ <;> refine xL 2 q_assign ?_ <;> refine aL_end (nav ?_) <;> try dsimp only) <;> (
  refine ret_shr (Tryz.results130) rfl (bool_val ?_)
  simp only [partB, Bool.or_eq_true, Bool.and_eq_true, decide_eq_true_eq, true_iff, false_iff, Bool.false_eq_true, beq_iff_eq] <;> simp_all <;> omega)
theorem isName_e (s : ByteArray) (hs : s.size ≤ 9223372036854775807) : AF Tryz.prog 103 [pStr s] (· = pBool (isName s)) := by
 refine AF.of_body 29 Tryz.func103 rfl Tryz.ntmps103 (Nat.le_of_ble_eq_true rfl) ?_
 intro w0 M0 vs hl hv
 obtain ⟨v0, rfl⟩ := len1 hl
 obtain rfl := hv 0 _ _ rfl rfl
 clear hl hv
 refine nav ?_
 (refine aC_region ?_ <;> refine xL 2 q_assign ?_ <;> refine aL_end (nav ?_) <;> try dsimp only)
 (refine aC_region ?_ <;> refine xL 4 q_move ?_ <;> refine xL 5 (q_slen Tryz.underlying9) ?_ <;> refine xL 6 q_lss ?_ <;> refine xL 7 q_move ?_ <;> (refine bLd 7 (fun hb7 => ?_) (fun hb7 => ?_) <;> (first | refine kL 8 ?_ | refine xL 8 q_move ?_)) <;> (first | refine kL 9 ?_ | refine xL 9 (q_slen Tryz.underlying9) ?_) <;> (first | refine kL 10 ?_ | refine xL 10 q_gtr ?_) <;> refine xL 11 q_pick ?_ <;> refine xL 12 q_move ?_ <;> (first | refine kL 13 ?_ | (refine bLd 12 (fun hb12 => ?_) (fun hb12 => ?_) <;> (first | refine kL 13 ?_ | refine xL 13 q_move ?_))) <;> (first | refine kL 14 ?_ | (refine (byte_at (i := 0) (s := s) (by omega)).elim fun y0 hy0 => ?_; refine xL 14 (q_index Tryz.underlying9) ?_)) <;> (first | refine kL 15 ?_ | (refine cS 15 (cA Tryz.call129 (letter_e y0.toNat)) fun v15 hv15 => ?_; cases hv15)) <;> (first | refine kL 16 ?_ | refine xL 16 q_not ?_) <;> refine xL 17 q_pick ?_ <;> refine aL_end (nav ?_) <;> try dsimp only) <;> (
  (first | refine cCd ?_ ?_ | refine cC ?_ ?_) <;> intro hb17
  · first
    | exact Bool.noConfusion hb17
    | (
     refine nav ?_
     (refine aC_region ?_ <;> refine xL 2 q_assign ?_ <;> refine aL_end (nav ?_) <;> try dsimp only)
     refine ret_shr (Tryz.results103) rfl ?_
     first | rw [isName_short (by omega)] | rw [isName_let hy0 (by simpa using hb17)])
  · first
    | exact Bool.noConfusion hb17
    | (
     refine nav ?_
     (refine aC_region ?_ <;> refine xL 18 q_move ?_ <;> refine xL 19 (q_slen Tryz.underlying9) ?_ <;> refine xL 20 q_move ?_ <;> refine aL_end (nav ?_) <;> try dsimp only)
     refine aC_loop (ι := { k : Nat // k ≤ s.size ∧ ∀ j y, j < k → s.data[j]? = some y → partB y.toNat = true }) (fun k => ⟨[(0, _, _), (19, _, _), (20, .int .i64 k.1, pInt k.1)], []⟩) (fun k => s.size - k.1) ⟨0, by omega, by omega⟩ (fun a w H => H.weaken ⟨rfl, rfl, rfl, trivial⟩ trivial) ?_
     rintro ⟨k, hk, hp⟩
     dsimp only
     refine nav ?_
     (refine aC_region ?_ <;> refine xL 21 q_lss ?_ <;> refine aL_end (nav ?_) <;> try dsimp only)
     (first | refine cCd ?_ ?_ | refine cC ?_ ?_) <;> intro hb21
     · first
       | exact Bool.noConfusion hb21
       | (
        have hlt : k < s.size := by omega
        obtain ⟨y, hy⟩ := byte_at (s := s) (i := k) (by omega)
        refine nav ?_
        (refine aC_region ?_ <;> refine xL 22 q_move ?_ <;> refine xL 3 q_assign ?_ <;> refine aL_end (nav ?_) <;> try dsimp only)
        (refine aC_region ?_ <;> refine xL 23 q_move ?_ <;> refine xL 24 q_move ?_ <;> refine xL 25 (q_index Tryz.underlying9) ?_ <;> (refine cS 26 (cA Tryz.call130 (part_e y.toNat)) fun v26 hv26 => ?_; cases hv26) <;> refine xL 27 q_not ?_ <;> refine aL_end (nav ?_) <;> try dsimp only)
        (first | refine cCd ?_ ?_ | refine cC ?_ ?_) <;> intro hb27
        · first
          | exact Bool.noConfusion hb27
          | (
           refine nav ?_
           (refine aC_region ?_ <;> refine xL 2 q_assign ?_ <;> refine aL_end (nav ?_) <;> try dsimp only)
           refine ret_shr (Tryz.results103) rfl ?_
           rw [isName_bad hy (by simpa using hb27)])
        · first
          | exact Bool.noConfusion hb27
          | (
           refine nav ?_
           (refine aC_region ?_ <;> refine xL 28 q_add ?_ <;> refine xL 20 q_move ?_ <;> refine aL_end (nav ?_) <;> try dsimp only)
           refine aN_again (
            ⟨k + 1, by omega, fun j z hj hz => by
             by_cases e : j = k
             · subst e; rw [hy] at hz; cases hz; simpa using hb27
             · exact hp j z (by omega) hz⟩
            ) (by dsimp only; omega) ⟨rfl, rfl, rfl, trivial⟩ trivial))
     · first
       | exact Bool.noConfusion hb21
       | (
        refine nav ?_
        (refine aC_region ?_ <;> refine xL 2 q_assign ?_ <;> refine aL_end (nav ?_) <;> try dsimp only)
        refine ret_shr (Tryz.results103) rfl ?_
        rw [isName_good (by omega) (by omega) hy0 (by simpa using hb17) (fun j z hj hz => hp j z (by omega) hz)])))
theorem rLetter_e (c : Int) : AF Tryz.prog 127 [pU8 c] (· = pBool (letterB c)) := by
 refine AF.of_body 17 Tryz.func127 rfl Tryz.ntmps127 (Nat.le_of_ble_eq_true rfl) ?_
 intro w0 M0 vs hl hv
 obtain ⟨v0, rfl⟩ := len1 hl
 obtain rfl := hv 0 _ _ rfl rfl
 clear hl hv
 refine nav ?_
 (refine aC_region ?_ <;> refine xL 2 q_assign ?_ <;> refine aL_end (nav ?_) <;> try dsimp only)
 (refine aC_region ?_ <;> refine xL 3 q_move ?_ <;> refine xL 4 q_geq ?_ <;> refine xL 5 q_move ?_ <;> (refine bLd 5 (fun hb5 => ?_) (fun hb5 => ?_) <;> (first | refine kL 6 ?_ | refine xL 6 q_move ?_)) <;> (first | refine kL 7 ?_ | refine xL 7 q_leq ?_) <;> refine xL 8 q_pick ?_ <;> refine xL 9 q_move ?_ <;> (first | refine xL 10 q_move ?_ | (refine bLd 9 (fun hb9 => ?_) (fun hb9 => ?_) <;> (first | refine kL 10 ?_ | refine xL 10 q_move ?_))) <;> (first | refine kL 11 ?_ | refine xL 11 q_geq ?_) <;> (first | refine kL 12 ?_ | refine xL 12 q_move ?_) <;> (first | refine kL 13 ?_ | (refine bLd 12 (fun hb12 => ?_) (fun hb12 => ?_) <;> (first | refine kL 13 ?_ | refine xL 13 q_move ?_))) <;> (first | refine kL 14 ?_ | refine xL 14 q_leq ?_) <;> (first | refine kL 15 ?_ | refine xL 15 q_pick ?_) <;> refine xL 16 q_pick ?_ <;> refine xL 2 q_assign ?_ <;> refine aL_end (nav ?_) <;> try dsimp only) <;> (
  refine ret_shr (Tryz.results127) rfl (bool_val ?_)
  simp only [letterB, Bool.or_eq_true, Bool.and_eq_true, decide_eq_true_eq, true_iff, false_iff, Bool.false_eq_true] <;> omega)
theorem rIsName_e (s : ByteArray) (hs : s.size ≤ 9223372036854775807) : AF Tryz.prog 100 [pStr s] (· = pBool (isName s)) := by
 refine AF.of_body 52 Tryz.func100 rfl Tryz.ntmps100 (Nat.le_of_ble_eq_true rfl) ?_
 intro w0 M0 vs hl hv
 obtain ⟨v0, rfl⟩ := len1 hl
 obtain rfl := hv 0 _ _ rfl rfl
 clear hl hv
 refine nav ?_
 (refine aC_region ?_ <;> refine xL 2 q_assign ?_ <;> refine aL_end (nav ?_) <;> try dsimp only)
 (refine aC_region ?_ <;> refine xL 5 q_move ?_ <;> refine xL 6 (q_slen Tryz.underlying9) ?_ <;> refine xL 7 q_lss ?_ <;> refine xL 8 q_move ?_ <;> (refine bLd 8 (fun hb8 => ?_) (fun hb8 => ?_) <;> (first | refine kL 9 ?_ | refine xL 9 q_move ?_)) <;> (first | refine kL 10 ?_ | refine xL 10 (q_slen Tryz.underlying9) ?_) <;> (first | refine kL 11 ?_ | refine xL 11 q_gtr ?_) <;> refine xL 12 q_pick ?_ <;> refine xL 13 q_move ?_ <;> (first | refine kL 14 ?_ | (refine bLd 13 (fun hb13 => ?_) (fun hb13 => ?_) <;> (first | refine kL 14 ?_ | refine xL 14 q_move ?_))) <;> (first | refine kL 15 ?_ | (refine (byte_at (i := 0) (s := s) (by omega)).elim fun y0 hy0 => ?_; refine xL 15 (q_index Tryz.underlying9) ?_)) <;> (first | refine kL 16 ?_ | (refine cS 16 (cA Tryz.call127 (rLetter_e y0.toNat)) fun v16 hv16 => ?_; cases hv16)) <;> (first | refine kL 17 ?_ | refine xL 17 q_not ?_) <;> refine xL 18 q_pick ?_ <;> refine aL_end (nav ?_) <;> try dsimp only) <;> (
  (first | refine cCd ?_ ?_ | refine cC ?_ ?_) <;> intro hb18
  · first
    | exact Bool.noConfusion hb18
    | (
     refine nav ?_
     (refine aC_region ?_ <;> refine xL 2 q_assign ?_ <;> refine aL_end (nav ?_) <;> try dsimp only)
     refine ret_shr (Tryz.results100) rfl ?_
     first | rw [isName_short (by omega)] | rw [isName_let hy0 (by simpa using hb18)])
  · first
    | exact Bool.noConfusion hb18
    | (
     refine nav ?_
     (refine aC_region ?_ <;> refine xL 3 q_assign ?_ <;> refine aL_end (nav ?_) <;> try dsimp only)
     have h0 : ∀ (j : Nat) z, j < 1 → s.data[j]? = some z → partB z.toNat = true := fun j z hj hz => by
      obtain rfl : j = 0 := by omega
      rw [hy0] at hz; cases hz
      unfold partB; rw [show letterB y0.toNat = true by simpa using hb18]; rfl
     refine aC_loop (ι := { k : Nat // 1 ≤ k ∧ k ≤ s.size ∧ ∀ j y, j < k → s.data[j]? = some y → partB y.toNat = true }) (fun k => ⟨[(0, _, _), (3, .int .i64 k.1, pInt k.1)], []⟩) (fun k => s.size - k.1) ⟨1, by omega, by omega, h0⟩ (fun a w H => H.weaken ⟨rfl, rfl, trivial⟩ trivial) ?_
     rintro ⟨k, hk1, hk, hp⟩
     dsimp only
     refine nav ?_
     (refine aC_region ?_ <;> refine xL 19 q_move ?_ <;> refine xL 20 q_move ?_ <;> refine xL 21 (q_slen Tryz.underlying9) ?_ <;> refine xL 22 q_lss ?_ <;> refine aL_end (nav ?_) <;> try dsimp only)
     (first | refine cCd ?_ ?_ | refine cC ?_ ?_) <;> intro hb22
     · first
       | exact Bool.noConfusion hb22
       | (
        have hlt : k < s.size := by omega
        obtain ⟨y, hy⟩ := byte_at (s := s) (i := k) (by omega)
        refine nav ?_
        (refine aC_region ?_ <;> refine xL 25 q_move ?_ <;> refine xL 26 q_move ?_ <;> refine xL 27 (q_index Tryz.underlying9) ?_ <;> refine xL 4 q_assign ?_ <;> refine aL_end (nav ?_) <;> try dsimp only)
        (refine aC_region ?_ <;> refine xL 28 q_move ?_ <;> (refine cS 29 (cA Tryz.call127 (rLetter_e y.toNat)) fun v29 hv29 => ?_; cases hv29) <;> refine xL 30 q_not ?_ <;> refine xL 31 q_move ?_ <;> (refine bL 31 (fun hb31 => ?_) (fun hb31 => ?_) <;> (first | refine kL 32 ?_ | refine xL 32 q_move ?_)) <;> (first | refine kL 33 ?_ | refine xL 33 q_geq ?_) <;> (first | refine kL 34 ?_ | refine xL 34 q_move ?_) <;> (first | refine kL 35 ?_ | (refine bLd 34 (fun hb34 => ?_) (fun hb34 => ?_) <;> (first | refine kL 35 ?_ | refine xL 35 q_move ?_))) <;> (first | refine kL 36 ?_ | refine xL 36 q_leq ?_) <;> (first | refine kL 37 ?_ | refine xL 37 q_pick ?_) <;> (first | refine kL 38 ?_ | refine xL 38 q_not ?_) <;> refine xL 39 q_pick ?_ <;> refine xL 40 q_move ?_ <;> (first | refine kL 41 ?_ | refine xL 41 q_move ?_ | (refine bL 40 (fun hb40 => ?_) (fun hb40 => ?_) <;> (first | refine kL 41 ?_ | refine xL 41 q_move ?_))) <;> (first | refine kL 42 ?_ | refine xL 42 q_neq ?_) <;> refine xL 43 q_pick ?_ <;> refine xL 44 q_move ?_ <;> (first | refine kL 45 ?_ | (refine bLd 44 (fun hb44 => ?_) (fun hb44 => ?_) <;> (first | refine kL 45 ?_ | refine xL 45 q_move ?_))) <;> (first | refine kL 46 ?_ | refine xL 46 q_neq ?_) <;> refine xL 47 q_pick ?_ <;> refine xL 48 q_move ?_ <;> (first | refine kL 49 ?_ | (refine bLd 48 (fun hb48 => ?_) (fun hb48 => ?_) <;> (first | refine kL 49 ?_ | refine xL 49 q_move ?_))) <;> (first | refine kL 50 ?_ | refine xL 50 q_neq ?_) <;> refine xL 51 q_pick ?_ <;> refine aL_end (nav ?_) <;> try dsimp only) <;> (
         (first | refine cCd ?_ ?_ | refine cC ?_ ?_) <;> intro hb51
         · first
           | exact Bool.noConfusion hb51
           | (
            refine nav ?_
            (refine aC_region ?_ <;> refine xL 2 q_assign ?_ <;> refine aL_end (nav ?_) <;> try dsimp only)
            refine ret_shr (Tryz.results100) rfl ?_
            rw [isName_bad hy]
            rw [Bool.eq_false_iff]; intro hpb
            simp only [partB, Bool.or_eq_true, Bool.and_eq_true, decide_eq_true_eq, beq_iff_eq] at hpb
            simp_all
            try omega)
         · first
           | exact Bool.noConfusion hb51
           | (
            refine nav ?_
            (refine aC_region ?_ <;> refine xL 23 q_move ?_ <;> refine xL 24 q_add ?_ <;> refine xL 3 q_assign ?_ <;> refine aL_end (nav ?_) <;> try dsimp only)
            refine aN_again (
             ⟨k + 1, by omega, by omega, fun j z hj hz => by
              by_cases e : j = k
              · subst e; rw [hy] at hz; cases hz
                simp only [partB, Bool.or_eq_true, Bool.and_eq_true, decide_eq_true_eq, beq_iff_eq]
                simp_all
                try omega
              · exact hp j z (by omega) hz⟩
             ) (by dsimp only; omega) ⟨rfl, rfl, trivial⟩ trivial)))
     · first
       | exact Bool.noConfusion hb22
       | (
        refine nav ?_
        (refine aC_region ?_ <;> refine xL 2 q_assign ?_ <;> refine aL_end (nav ?_) <;> try dsimp only)
        refine ret_shr (Tryz.results100) rfl ?_
        rw [isName_good (by omega) (by omega) hy0 (by simpa using hb18) (fun j z hj hz => hp j z (by omega) hz)])))
end Go.Proofs.YtbfilfhgcihhoaaGreatDoor
namespace Go.Cb
open Go.RowKit
set_option linter.all false
open Go.RowKit Go.WideMaps
structure MapT (P : Program) (t ks e : Nat) : Prop where
 ht : P.underlying t = some (.map ks e)
 hk : P.underlying ks = some .string
 he : P.underlying e = some (.int .i64)
 hz : ∀ w, (zeroValue e).run P w = .ok (.int .i64 0) w
def MapR (P : Program) (ks e : Nat) (w : World) (b n : Nat) (f : ByteArray → Option Int) : Prop :=
 ∃ D : DataW Unit, w.ownsMap P ks (plainElem P e) b n D ∧ ∀ s : ByteArray, Maps.has D (.string s.data.toList) = (f s).isSome ∧ D.atKey (.string s.data.toList) (.lit (.int .i64 0)) = .lit (.int .i64 ((f s).getD 0))
theorem MapR.lt {P : Program} {ks e : Nat} {w : World} {b n : Nat} {f : ByteArray → Option Int} (h : MapR P ks e w b n f) : b < w.heap.size := let ⟨_, h1, _⟩ := h; h1.lt
theorem MapR.mono {P : Program} {ks e : Nat} {w : World} {b n m : Nat} {f : ByteArray → Option Int} (h : MapR P ks e w b n f) (hm : n ≤ m) : MapR P ks e w b m f := let ⟨D, h1, h2⟩ := h; ⟨D, h1.mono hm, h2⟩
theorem MapR.mv {P : Program} {ks e : Nat} {w w' : World} {b n : Nat} {f : ByteArray → Option Int} {N : Mut} (h : MapR P ks e w b n f) (hc : Chg N w w') (hN : ¬ N b) : MapR P ks e w' b n f := by
 have hl := h.lt
 obtain ⟨D, ⟨es, clock, hb, h1⟩, h2⟩ := h
 exact ⟨D, ⟨es, clock, (hc.block b hl hN).trans hb, h1⟩, h2⟩
theorem MapR.up {P : Program} {ks e : Nat} {w w' : World} {b n : Nat} {f : ByteArray → Option Int} (h : MapR P ks e w b n f) (hc : Ext w w') : MapR P ks e w' b n f := h.mv (hc.chg (M := fun _ => False)) (fun h => h)
theorem strEq_iff {a b : ByteArray} : strEq a b = true ↔ a = b := by
 unfold strEq
 rw [beq_iff_eq, ByteArray.toList_eq, ByteArray.toList_eq]
 exact ⟨fun h => WideShapes.bytes_inj h, fun h => by rw [h]⟩
theorem bl_irrefl : ∀ l : List UInt8, Op.bytesLess l l = false
 | [] => rfl
 | a :: l => by simp [Op.bytesLess, bl_irrefl l, UInt8.lt_irrefl]
theorem bl_trans : ∀ a b c : List UInt8, Op.bytesLess a b = true → Op.bytesLess b c = true → Op.bytesLess a c = true
 | _, _, [], _, h => by cases h' : (‹List UInt8› : List UInt8) <;> simp_all [Op.bytesLess]
 | _, [], _ :: _, h, _ => by simp [Op.bytesLess] at h
 | [], _ :: _, _ :: _, _, _ => rfl
 | x :: a, y :: b, z :: c, h1, h2 => by
   simp only [Op.bytesLess, Bool.or_eq_true, Bool.and_eq_true, decide_eq_true_eq, beq_iff_eq] at h1 h2 ⊢
   rcases h1 with h1 | ⟨rfl, h1⟩
   · rcases h2 with h2 | ⟨rfl, h2⟩
     · exact .inl (UInt8.lt_trans h1 h2)
     · exact .inl h1
   · rcases h2 with h2 | ⟨rfl, h2⟩
     · exact .inl h2
     · exact .inr ⟨rfl, bl_trans a b c h1 h2⟩
theorem bl_total : ∀ a b : List UInt8, Op.bytesLess a b = false → Op.bytesLess b a = false → a = b
 | [], [], _, _ => rfl
 | [], _ :: _, h, _ => by simp [Op.bytesLess] at h
 | _ :: _, [], _, h => by simp [Op.bytesLess] at h
 | x :: a, y :: b, h1, h2 => by
   simp only [Op.bytesLess, Bool.or_eq_false_iff, decide_eq_false_iff_not] at h1 h2
   have hxy : x = y := UInt8.le_antisymm (UInt8.not_lt.1 h2.1) (UInt8.not_lt.1 h1.1)
   subst hxy
   simp only [beq_self_eq_true, Bool.true_and] at h1 h2
   rw [bl_total a b h1.2 h2.2]
theorem strLt_irrefl (a : ByteArray) : strLt a a = false := bl_irrefl _
theorem strLt_trans {a b c : ByteArray} (h : strLt a b = true) (k : strLt b c = true) : strLt a c = true := bl_trans _ _ _ h k
theorem strLt_total {a b : ByteArray} (h : strLt a b = false) (k : strLt b a = false) : a = b := by
 have := bl_total _ _ h k
 rw [ByteArray.toList_eq, ByteArray.toList_eq] at this
 exact WideShapes.bytes_inj this
theorem cmpStr_zero {a b : ByteArray} : cmpStr a b = 0 ↔ a = b := by
 unfold cmpStr
 constructor
 · intro h
   split at h
   · omega
   · split at h
     · rename_i h2; exact strEq_iff.1 h2
     · omega
 · rintro rfl
   rw [strLt_irrefl, strEq_iff.2 rfl]; rfl
def Nodup (r : List Var) : Prop := r.Pairwise fun x y => x.acts ≠ y.acts
theorem Nodup.perm {r s : List Var} (h : Nodup r) (p : r.Perm s) : Nodup s := (p.pairwise_iff (fun {x y} h => Ne.symm h)).1 h
end Go.Cb
namespace Go.Proofs.YtbfilfhgcihhoaaGreatDoor
open Go.RowKit Go.Cb Go.En
set_option linter.all false
theorem cmpStr_tri (x y : ByteArray) : cmpStr x y = -1 ∨ cmpStr x y = 0 ∨ cmpStr x y = 1 := by
 have := cmpStr_bd x y; omega
theorem cmpStr_cases (x y : ByteArray) : (strLt x y = true ∧ strLt y x = false ∧ x ≠ y ∧ cmpStr x y = -1 ∧ cmpStr y x = 1) ∨ (x = y ∧ cmpStr x y = 0 ∧ cmpStr y x = 0) ∨ (strLt y x = true ∧ strLt x y = false ∧ x ≠ y ∧ cmpStr x y = 1 ∧ cmpStr y x = -1) := by
 have hno : ∀ {a b : ByteArray}, strLt a b = true → strLt b a = false ∧ a ≠ b := fun {a b} h => by
  have h1 := strLt_irrefl a
  have h2 := strLt_irrefl b
  refine ⟨?_, fun e => by subst e; rw [h] at h1; cases h1⟩
  cases h3 : strLt b a with
  | false => rfl
  | true => rw [strLt_trans h h3] at h1; cases h1
 have heq : ∀ a : ByteArray, strEq a a = true := fun a => strEq_iff.2 rfl
 have hne : ∀ {a b : ByteArray}, a ≠ b → strEq a b = false := fun {a b} h => by
  cases h1 : strEq a b with
  | false => rfl
  | true => exact absurd (strEq_iff.1 h1) h
 unfold cmpStr
 cases h : strLt x y with
 | true =>
   obtain ⟨h1, h2⟩ := hno h
   refine .inl ⟨rfl, h1, h2, by simp, ?_⟩
   rw [h1, hne (Ne.symm h2)]; rfl
 | false =>
   cases h' : strLt y x with
   | true =>
     obtain ⟨h1, h2⟩ := hno h'
     refine .inr (.inr ⟨rfl, rfl, Ne.symm h2, ?_, by simp⟩)
     rw [hne (Ne.symm h2)]; rfl
   | false =>
     have e := strLt_total h h'
     subst e
     refine .inr (.inl ⟨rfl, ?_, ?_⟩) <;> simp [heq]
theorem cmpStr_anti (x y : ByteArray) : cmpStr y x = - cmpStr x y := by
 rcases cmpStr_cases x y with ⟨_, _, _, h1, h2⟩ | ⟨_, h1, h2⟩ | ⟨_, _, _, h1, h2⟩ <;> omega
theorem cmpStr_zero (x y : ByteArray) : cmpStr x y = 0 ↔ x = y := by
 rcases cmpStr_cases x y with ⟨_, _, h0, h1, h2⟩ | ⟨h0, h1, h2⟩ | ⟨_, _, h0, h1, h2⟩
 · exact ⟨fun h => by omega, fun h => absurd h h0⟩
 · exact ⟨fun _ => h0, fun _ => h1⟩
 · exact ⟨fun h => by omega, fun h => absurd h h0⟩
theorem cmpStr_m1 {x y : ByteArray} : cmpStr x y = -1 ↔ strLt x y = true := by
 rcases cmpStr_cases x y with ⟨h0, _, _, h1, h2⟩ | ⟨h0, h1, h2⟩ | ⟨_, h0, _, h1, h2⟩
 · exact ⟨fun _ => h0, fun _ => h1⟩
 · subst h0; rw [strLt_irrefl]; exact ⟨fun h => by omega, fun h => by cases h⟩
 · rw [h0]; exact ⟨fun h => by omega, fun h => by cases h⟩
theorem cmpStr_tr (x y z : ByteArray) (h : cmpStr x y = -1) (h' : cmpStr y z = -1) : cmpStr x z = -1 := cmpStr_m1.2 (strLt_trans (cmpStr_m1.1 h) (cmpStr_m1.1 h'))
inductive Nd where
 | mk (op : Int) (act : ByteArray) (l : List Nd)
section
def Nd.op : Nd → Int
 | .mk o _ _ => o
def Nd.act : Nd → ByteArray
 | .mk _ a _ => a
def Nd.l : Nd → List Nd
 | .mk _ _ l => l
theorem Nd.ind {P : Nd → Prop} (h : ∀ o a l, (∀ x ∈ l, P x) → P (.mk o a l)) : ∀ t, P t := fun t =>
 Nd.rec (motive_1 := P) (motive_2 := fun l => ∀ x ∈ l, P x) (fun o a l ih => h o a l ih) (fun _ hx => by cases hx) (fun x l hx hl y hy => by
  rcases List.mem_cons.1 hy with rfl | hy
  · exact hx
  · exact hl y hy) t
def cmpI3 (a b : Int) : Int := if a < b then -1 else if b < a then 1 else 0
def or3 (a b c : Int) : Int := if a ≠ 0 then a else if b ≠ 0 then b else c
mutual
def cmpT : Nd → Nd → Int
 | .mk o a l, .mk o' a' l' => or3 (cmpI3 o o') (cmpStr a a') (cmpL l l')
def cmpL : List Nd → List Nd → Int
 | [], [] => 0
 | [], _ :: _ => -1
 | _ :: _, [] => 1
 | x :: l, y :: m => if cmpT x y ≠ 0 then cmpT x y else cmpL l m
end
theorem cmpI3_tri (a b : Int) : cmpI3 a b = -1 ∨ cmpI3 a b = 0 ∨ cmpI3 a b = 1 := by unfold cmpI3; split <;> (try split) <;> omega
theorem cmpI3_anti (a b : Int) : cmpI3 b a = - cmpI3 a b := by unfold cmpI3; split <;> (try split) <;> (try split) <;> omega
theorem cmpI3_zero (a b : Int) : cmpI3 a b = 0 ↔ a = b := by unfold cmpI3; split <;> (try split) <;> omega
theorem cmpI3_lt (a b c : Int) (h : cmpI3 a b = -1) (h' : cmpI3 b c = -1) : cmpI3 a c = -1 := by
 unfold cmpI3 at *
 split at h
 · split at h'
   · rw [if_pos (by omega)]
   · split at h' <;> omega
 · split at h <;> omega
theorem or3_tri {a b c : Int} (ha : a = -1 ∨ a = 0 ∨ a = 1) (hb : b = -1 ∨ b = 0 ∨ b = 1) (hc : c = -1 ∨ c = 0 ∨ c = 1) : or3 a b c = -1 ∨ or3 a b c = 0 ∨ or3 a b c = 1 := by unfold or3; split <;> (try split) <;> omega
theorem or3_neg (a b c : Int) : or3 (-a) (-b) (-c) = - or3 a b c := by unfold or3; split <;> split <;> (try split) <;> (try split) <;> omega
theorem or3_zero {a b c : Int} : or3 a b c = 0 ↔ a = 0 ∧ b = 0 ∧ c = 0 := by unfold or3; split <;> (try split) <;> omega
theorem or3_m1 {a b c : Int} : or3 a b c = -1 ↔ a = -1 ∨ (a = 0 ∧ (b = -1 ∨ (b = 0 ∧ c = -1))) := by unfold or3; split <;> (try split) <;> omega
theorem cmpL_tri : ∀ (l : List Nd), (∀ x ∈ l, ∀ y, cmpT x y = -1 ∨ cmpT x y = 0 ∨ cmpT x y = 1) → ∀ m, cmpL l m = -1 ∨ cmpL l m = 0 ∨ cmpL l m = 1
 | [], _, m => by cases m <;> simp [cmpL]
 | x :: l, h, m => by
   cases m with
   | nil => simp [cmpL]
   | cons y m =>
     rw [cmpL]
     split
     · exact h x (List.mem_cons_self ..) y
     · exact cmpL_tri l (fun y hy => h y (List.mem_cons_of_mem _ hy)) m
theorem cmpL_anti : ∀ (l : List Nd), (∀ x ∈ l, ∀ y, cmpT y x = - cmpT x y) → ∀ m, cmpL m l = - cmpL l m
 | [], _, m => by cases m <;> simp [cmpL]
 | x :: l, h, m => by
   cases m with
   | nil => simp [cmpL]
   | cons y m =>
     rw [cmpL, cmpL, h x (List.mem_cons_self ..) y]
     have ih := cmpL_anti l (fun y hy => h y (List.mem_cons_of_mem _ hy)) m
     by_cases h0 : cmpT x y = 0
     · rw [if_neg (by omega), if_neg (by omega)]; exact ih
     · rw [if_pos (by omega), if_pos h0]
theorem cmpL_zero : ∀ (l : List Nd), (∀ x ∈ l, ∀ y, cmpT x y = 0 ↔ x = y) → ∀ m, cmpL l m = 0 ↔ l = m
 | [], _, m => by cases m <;> simp [cmpL]
 | x :: l, h, m => by
   cases m with
   | nil => simp [cmpL]
   | cons y m =>
     rw [cmpL]
     have h1 := h x (List.mem_cons_self ..) y
     have ih := cmpL_zero l (fun y hy => h y (List.mem_cons_of_mem _ hy)) m
     by_cases h0 : cmpT x y = 0
     · rw [if_neg (by omega), ih, h1.1 h0]; simp
     · rw [if_pos h0]
       exact ⟨fun h => absurd h h0, fun h => absurd (h1.2 (List.cons.inj h).1) h0⟩
theorem cmpT_tri : ∀ (x y : Nd), cmpT x y = -1 ∨ cmpT x y = 0 ∨ cmpT x y = 1 := Nd.ind fun o a l ih y => by
 obtain ⟨o', a', l'⟩ := y
 rw [cmpT]
 exact or3_tri (cmpI3_tri _ _) (cmpStr_tri _ _) (cmpL_tri l ih _)
theorem cmpT_anti : ∀ (x y : Nd), cmpT y x = - cmpT x y := Nd.ind fun o a l ih y => by
 obtain ⟨o', a', l'⟩ := y
 rw [cmpT, cmpT, cmpI3_anti, cmpStr_anti, cmpL_anti l ih, or3_neg]
theorem cmpT_zero : ∀ (x y : Nd), cmpT x y = 0 ↔ x = y := Nd.ind fun o a l ih y => by
 obtain ⟨o', a', l'⟩ := y
 rw [cmpT, or3_zero, cmpI3_zero, cmpStr_zero, cmpL_zero l ih]
 exact ⟨fun ⟨h1, h2, h3⟩ => by rw [h1, h2, h3], fun h => by injection h with h1 h2 h3; exact ⟨h1, h2, h3⟩⟩
theorem cmpL_lt : ∀ (l : List Nd), (∀ x ∈ l, ∀ y z, cmpT x y = -1 → cmpT y z = -1 → cmpT x z = -1) → ∀ m n, cmpL l m = -1 → cmpL m n = -1 → cmpL l n = -1
 | [], _, m, n, h1, h2 => by
   cases m with
   | nil => rw [cmpL] at h1; omega
   | cons y m =>
     cases n with
     | nil => rw [cmpL] at h2; omega
     | cons z n => rw [cmpL]
 | x :: l, h, m, n, h1, h2 => by
   cases m with
   | nil => rw [cmpL] at h1; omega
   | cons y m =>
     cases n with
     | nil => rw [cmpL] at h2; omega
     | cons z n =>
       rw [cmpL] at h1 h2 ⊢
       have ih := cmpL_lt l (fun y hy => h y (List.mem_cons_of_mem _ hy)) m n
       by_cases h0 : cmpT x y = 0
       · have e := (cmpT_zero x y).1 h0
         subst e
         rw [if_neg (by omega)] at h1
         by_cases h3 : cmpT x z = 0
         · rw [if_neg (by omega)] at h2 ⊢
           exact ih h1 h2
         · rw [if_pos h3] at h2 ⊢
           exact h2
       · rw [if_pos h0] at h1
         by_cases h3 : cmpT y z = 0
         · have e := (cmpT_zero y z).1 h3
           subst e
           rw [if_pos (by omega)]; exact h1
         · rw [if_pos h3] at h2
           have := h x (List.mem_cons_self ..) y z h1 h2
           rw [if_pos (by omega)]; exact this
theorem cmpT_lt : ∀ (x y z : Nd), cmpT x y = -1 → cmpT y z = -1 → cmpT x z = -1 := Nd.ind fun o a l ih y z h1 h2 => by
 obtain ⟨o', a', l'⟩ := y
 obtain ⟨o2, a2, l2⟩ := z
 rw [cmpT, or3_m1] at h1 h2 ⊢
 rcases h1 with h1 | ⟨e1, h1⟩
 · rcases h2 with h2 | ⟨e2, _⟩
   · exact .inl (cmpI3_lt _ _ _ h1 h2)
   · rw [← (cmpI3_zero _ _).1 e2]; exact .inl h1
 · rw [(cmpI3_zero _ _).1 e1]
   rcases h2 with h2 | ⟨e2, h2⟩
   · exact .inl h2
   · refine .inr ⟨e2, ?_⟩
     rcases h1 with h1 | ⟨e1, h1⟩
     · rcases h2 with h2 | ⟨e2, _⟩
       · exact .inl (cmpStr_tr _ _ _ h1 h2)
       · rw [← (cmpStr_zero _ _).1 e2]; exact .inl h1
     · rw [(cmpStr_zero _ _).1 e1]
       rcases h2 with h2 | ⟨e2, h2⟩
       · exact .inl h2
       · exact .inr ⟨e2, cmpL_lt l ih _ _ h1 h2⟩
def leT (x y : Nd) : Prop := cmpT x y ≠ 1
theorem leT_refl (x : Nd) : leT x x := by
 have := (cmpT_zero x x).2 rfl
 unfold leT; omega
theorem leT_anti {x y : Nd} (h : leT x y) (h' : leT y x) : x = y := by
 unfold leT at *
 have := cmpT_anti x y
 have := cmpT_tri x y
 exact (cmpT_zero x y).1 (by omega)
theorem leT_iff {x y : Nd} : leT x y ↔ cmpT x y = -1 ∨ x = y := by
 unfold leT
 have := cmpT_tri x y
 rw [← cmpT_zero x y]; omega
theorem leT_trans {x y z : Nd} (h : leT x y) (h' : leT y z) : leT x z := by
 rw [leT_iff] at *
 rcases h with h | rfl
 · rcases h' with h' | rfl
   · exact .inl (cmpT_lt x y z h h')
   · exact .inl h
 · exact h'
theorem leT_not {x y : Nd} : ¬ cmpT x y < 0 ↔ leT y x := by
 unfold leT
 have := cmpT_anti x y
 have := cmpT_tri x y
 omega
end
section
mutual
def szT : Nd → Nat
 | .mk _ _ l => 1 + szL l
def szL : List Nd → Nat
 | [] => 0
 | x :: l => szT x + szL l
end
mutual
def dpT : Nd → Nat
 | .mk _ _ l => 1 + dpL l
def dpL : List Nd → Nat
 | [] => 0
 | x :: l => max (dpT x) (dpL l)
end
theorem szL_append (l m : List Nd) : szL (l ++ m) = szL l + szL m := by
 induction l with
 | nil => simp [szL]
 | cons x l ih => rw [List.cons_append, szL, szL, ih, Nat.add_assoc]
theorem szL_snoc {l : List Nd} {k : Nat} {x : Nd} (h : l[k]? = some x) : szL (l.take (k + 1)) = szL (l.take k) + szT x := by
 rw [List.take_add_one, h, szL_append]; simp [szL]
theorem szT_pos (t : Nd) : 1 ≤ szT t := by cases t; rw [szT]; omega
theorem szL_mem {l : List Nd} {x : Nd} (h : x ∈ l) : szT x ≤ szL l := by
 induction l with
 | nil => cases h
 | cons y l ih =>
   rw [szL]
   rcases List.mem_cons.1 h with rfl | h
   · omega
   · have := ih h; omega
theorem dpL_mem {l : List Nd} {x : Nd} (h : x ∈ l) : dpT x ≤ dpL l := by
 induction l with
 | nil => cases h
 | cons y l ih =>
   rw [dpL]
   rcases List.mem_cons.1 h with rfl | h
   · omega
   · have := ih h; omega
theorem dpL_le {l : List Nd} {n : Nat} : dpL l ≤ n ↔ ∀ x ∈ l, dpT x ≤ n := by
 induction l with
 | nil => simp [dpL]
 | cons y l ih => rw [dpL, Nat.max_le, ih]; simp
def rightT (t : Nd) : Bool :=
 if t.op = 1 then t.l.isEmpty && isName t.act else if t.op = 2 then t.l.isEmpty && decide (t.act = ByteArray.empty) else if t.op = 3 ∨ t.op = 4 ∨ t.op = 5 then !t.l.isEmpty && decide (t.act = ByteArray.empty)
 else if t.op = 6 then decide (t.l.length = 2) && decide (t.act = ByteArray.empty) else false
mutual
def okT : Nd → Bool
 | .mk o a l => rightT (.mk o a l) && okL l
def okL : List Nd → Bool
 | [] => true
 | x :: l => okT x && okL l
end
theorem okL_iff {l : List Nd} : okL l = true ↔ ∀ x ∈ l, okT x = true := by
 induction l with
 | nil => simp [okL]
 | cons x l ih => rw [okL, Bool.and_eq_true, ih]; simp
theorem okT_iff {t : Nd} : okT t = true ↔ rightT t = true ∧ ∀ x ∈ t.l, okT x = true := by
 obtain ⟨o, a, l⟩ := t
 rw [okT, Bool.and_eq_true, okL_iff]; rfl
def meaT (t : Nd) (most : Int) (d : Int) : Bool := okT t && decide ((szT t : Int) ≤ most) && decide (d + dpT t ≤ 61)
theorem mea_no {t : Nd} {most d : Int} (h : most < 1 ∨ 60 < d ∨ rightT t = false) : meaT t most d = false := by
 cases hm : meaT t most d with
 | false => rfl
 | true =>
   exfalso
   unfold meaT at hm
   simp only [Bool.and_eq_true, decide_eq_true_eq] at hm
   obtain ⟨⟨h1, h2⟩, h3⟩ := hm
   have h4 := szT_pos t
   have h5 : 1 ≤ dpT t := by cases t; rw [dpT]; omega
   rcases h with h | h | h
   · omega
   · omega
   · rw [(okT_iff.1 h1).1] at h; cases h
theorem mea_part {t : Nd} {most d : Int} {k : Nat} {x : Nd} (hx : t.l[k]? = some x) (h : meaT x (most - (1 + szL (t.l.take k))) (d + 1) = false) : meaT t most d = false := by
 cases hm : meaT t most d with
 | false => rfl
 | true =>
   exfalso
   unfold meaT at hm h
   simp only [Bool.and_eq_true, decide_eq_true_eq] at hm
   obtain ⟨⟨h1, h2⟩, h3⟩ := hm
   have hmem := List.mem_of_getElem? hx
   have e1 := (okT_iff.1 h1).2 x hmem
   have e2 : szL t.l = szL (t.l.take k) + szL (t.l.drop k) := by rw [← szL_append, List.take_append_drop]
   have e3 : szT x ≤ szL (t.l.drop k) := szL_mem (List.mem_of_getElem? (show (t.l.drop k)[0]? = some x by rw [List.getElem?_drop]; exact hx))
   have e4 : szT t = 1 + szL t.l := by cases t; rw [szT]; rfl
   have e5 : dpT t = 1 + dpL t.l := by cases t; rw [dpT]; rfl
   have e6 := dpL_mem hmem
   rw [e1, decide_eq_true (by omega), decide_eq_true (by omega)] at h
   cases h
theorem mea_all {t : Nd} {most d : Int} (hr : rightT t = true) (h1 : 1 ≤ most) (h2 : d ≤ 60) (h : ∀ k x, t.l[k]? = some x → meaT x (most - (1 + szL (t.l.take k))) (d + 1) = true) : meaT t most d = true := by
 have e4 : szT t = 1 + szL t.l := by cases t; rw [szT]; rfl
 have e5 : dpT t = 1 + dpL t.l := by cases t; rw [dpT]; rfl
 unfold meaT at h ⊢
 have key : ∀ k x, t.l[k]? = some x → okT x = true ∧ (szT x : Int) ≤ most - (1 + szL (t.l.take k)) ∧ d + 1 + dpT x ≤ 61 := fun k x hx => by
  have := h k x hx
  simp only [Bool.and_eq_true, decide_eq_true_eq] at this
  exact ⟨this.1.1, this.1.2, this.2⟩
 simp only [Bool.and_eq_true, decide_eq_true_eq]
 refine ⟨⟨okT_iff.2 ⟨hr, fun x hx => ?_⟩, ?_⟩, ?_⟩
 · obtain ⟨k, hk⟩ := List.getElem?_of_mem hx
   exact (key k x hk).1
 · rw [e4]
   rcases hn : t.l.length with _ | n
   · have : t.l = [] := List.eq_nil_of_length_eq_zero hn
     rw [this]; simp [szL]; omega
   · obtain ⟨x, hx⟩ : ∃ x, t.l[n]? = some x := ⟨_, List.getElem?_eq_getElem (by omega)⟩
     have e1 := (key n x hx).2.1
     have e2 := szL_snoc hx
     rw [List.take_of_length_le (show t.l.length ≤ n + 1 by omega)] at e2
     omega
 · rw [e5]
   have : dpL t.l ≤ (60 - d).toNat := dpL_le.2 fun x hx => by
    obtain ⟨k, hk⟩ := List.getElem?_of_mem hx
    have := (key k x hk).2.2; omega
   omega
def valT (t : Nd) : Bool := meaT t 400 1
theorem val_ok {t : Nd} (h : valT t = true) : okT t = true := by unfold valT meaT at h; simp only [Bool.and_eq_true] at h; exact h.1.1
theorem val_sz {t : Nd} (h : valT t = true) : szT t ≤ 400 := by unfold valT meaT at h; simp only [Bool.and_eq_true, decide_eq_true_eq] at h; omega
def insT (x : Nd) : List Nd → List Nd
 | [] => [x]
 | y :: l => if cmpT y x < 0 then y :: insT x l else x :: y :: l
def srtT (l : List Nd) : List Nd := l.foldl (fun m x => insT x m) []
def cptT : List Nd → List Nd
 | [] => []
 | x :: l => match l with
   | [] => [x]
   | y :: m => if cmpT x y = 0 then cptT (y :: m) else x :: cptT (y :: m)
abbrev AscT (l : List Nd) : Prop := l.Pairwise fun x y => leT x y
abbrev StrT' (l : List Nd) : Prop := l.Pairwise fun x y => cmpT x y < 0
theorem lt_le {x y : Nd} (h : cmpT x y < 0) : leT x y := by unfold leT; omega
theorem lt_ne {x y : Nd} (h : cmpT x y < 0) : x ≠ y := fun e => by have := (cmpT_zero x y).2 e; omega
theorem le_ne_lt {x y : Nd} (h : leT x y) (h' : x ≠ y) : cmpT x y < 0 := by
 rcases leT_iff.1 h with h | h
 · omega
 · exact absurd h h'
theorem insT_perm (x : Nd) : ∀ l, (insT x l).Perm (x :: l)
 | [] => List.Perm.refl _
 | y :: l => by
   rw [insT]
   split
   · exact ((insT_perm x l).cons y).trans (List.Perm.swap ..)
   · exact List.Perm.refl _
theorem insT_asc (x : Nd) : ∀ l, AscT l → AscT (insT x l)
 | [], _ => List.pairwise_singleton ..
 | y :: l, h => by
   rw [insT]
   obtain ⟨h1, h2⟩ := List.pairwise_cons.1 h
   split
   · rename_i hl
     refine List.pairwise_cons.2 ⟨fun z hz => ?_, insT_asc x l h2⟩
     rcases List.mem_cons.1 ((insT_perm x l).mem_iff.1 hz) with rfl | hz
     · exact lt_le hl
     · exact h1 z hz
   · rename_i hl
     have hxy : leT x y := leT_not.1 hl
     refine List.pairwise_cons.2 ⟨fun z hz => ?_, h⟩
     rcases List.mem_cons.1 hz with rfl | hz
     · exact hxy
     · exact leT_trans hxy (h1 z hz)
theorem fold_ins (l : List Nd) : ∀ m, AscT m → AscT (l.foldl (fun m x => insT x m) m) ∧ (l.foldl (fun m x => insT x m) m).Perm (m ++ l) := by
 induction l with
 | nil => intro m h; exact ⟨h, by simp⟩
 | cons x l ih =>
   intro m h
   rw [List.foldl_cons]
   obtain ⟨h1, h2⟩ := ih _ (insT_asc x m h)
   refine ⟨h1, h2.trans ?_⟩
   exact ((insT_perm x m).append_right l).trans (by
    rw [List.cons_append]
    exact (List.perm_middle (l₁ := m) (a := x) (l₂ := l)).symm)
theorem srtT_asc (l : List Nd) : AscT (srtT l) := (fold_ins l [] List.Pairwise.nil).1
theorem srtT_perm (l : List Nd) : (srtT l).Perm l := by
 have := (fold_ins l [] List.Pairwise.nil).2
 rwa [List.nil_append] at this
theorem asc_uniq {l m : List Nd} (hl : AscT l) (hm : AscT m) (h : l.Perm m) : l = m := by
 exact List.Perm.eq_of_pairwise (fun a b _ _ h1 h2 => leT_anti h1 h2) hl hm h
theorem srtT_eq {l m : List Nd} (hm : AscT m) (h : m.Perm l) : m = srtT l := asc_uniq hm (srtT_asc l) (h.trans (srtT_perm l).symm)
theorem str_asc {l : List Nd} (h : StrT' l) : AscT l := h.imp fun h => lt_le h
theorem str_nodup {l : List Nd} (h : StrT' l) : l.Nodup := h.imp fun h => lt_ne h
theorem str_uniq {l m : List Nd} (hl : StrT' l) (hm : StrT' m) (h : ∀ z, z ∈ l ↔ z ∈ m) : l = m :=
 asc_uniq (str_asc hl) (str_asc hm) ((List.perm_ext_iff_of_nodup (str_nodup hl) (str_nodup hm)).2 h)
theorem cptT_mem : ∀ (l : List Nd) z, z ∈ cptT l ↔ z ∈ l
 | [], z => by simp [cptT]
 | [x], z => by simp [cptT]
 | x :: y :: m, z => by
   rw [cptT]
   split
   · rename_i h
     rw [cptT_mem (y :: m), (cmpT_zero x y).1 h]; simp
   · rw [List.mem_cons, cptT_mem (y :: m)]; simp
theorem cptT_str : ∀ (l : List Nd), AscT l → StrT' (cptT l)
 | [], _ => List.Pairwise.nil
 | [x], _ => List.pairwise_singleton ..
 | x :: y :: m, h => by
   rw [cptT]
   obtain ⟨h1, h2⟩ := List.pairwise_cons.1 h
   split
   · exact cptT_str (y :: m) h2
   · rename_i hn
     refine List.pairwise_cons.2 ⟨fun z hz => ?_, cptT_str (y :: m) h2⟩
     have hz' := (cptT_mem (y :: m) z).1 hz
     have hxz := h1 z hz'
     refine le_ne_lt hxz fun e => hn ?_
     subst e
     have hyx : leT y x := by
      rcases List.mem_cons.1 hz' with h | h
      · rw [h]; exact leT_refl y
      · exact (List.pairwise_cons.1 h2).1 _ h
     exact (cmpT_zero x y).2 (leT_anti (h1 y (List.mem_cons_self ..)) hyx)
end
section
def silT : Nd := .mk 2 ByteArray.empty []
def prtT (op : Int) (l : List Nd) : List Nd := l.flatMap fun x => if x.op = op then x.l else if x.op ≠ 2 ∨ op = 4 then [x] else []
def endT (op : Int) : List Nd → Nd
 | [] => silT
 | [x] => x
 | x :: y :: l => .mk op ByteArray.empty (x :: y :: l)
def ordT (op : Int) (p : List Nd) : List Nd := if op = 3 then p else if op = 4 then cptT (srtT p) else srtT p
def joinT (op : Int) (l : List Nd) : Nd := endT op (ordT op (prtT op l))
def lop2 (f s : Nd) : Nd × Nd := if f.op = 6 then match f.l with
 | a :: b :: _ => (a, joinT 4 [b, s])
 | _ => (f, s) else (f, s)
def lopE (p : Nd × Nd) : Nd := if p.1.op = 2 ∧ p.2.op = 2 then silT else .mk 6 ByteArray.empty [p.1, p.2]
def lopT : List Nd → Nd
 | f :: s :: _ => lopE (lop2 f s)
 | _ => silT
def nodT (o : Int) (a : ByteArray) (l : List Nd) : Nd := if o = 1 ∨ o = 2 then .mk o a [] else if o = 6 then lopT l else joinT o l
mutual
def norT : Nd → Nd
 | .mk o a l => nodT o a (norL l)
def norL : List Nd → List Nd
 | [] => []
 | x :: l => norT x :: norL l
end
theorem norL_eq (l : List Nd) : norL l = l.map norT := by
 induction l with
 | nil => rfl
 | cons x l ih => rw [norL, ih]; rfl
structure NfN (t : Nd) : Prop where
 rt : rightT t = true
 two : t.op ≠ 6 → ∀ x ∈ t.l, 2 ≤ t.l.length ∧ x.op ≠ t.op
 ns : t.op = 3 ∨ t.op = 5 → ∀ x ∈ t.l, x.op ≠ 2
 xo : t.op = 4 → StrT' t.l
 an : t.op = 5 → AscT t.l
 lp : t.op = 6 → ∃ a b, t.l = [a, b] ∧ a.op ≠ 6 ∧ ¬ (a.op = 2 ∧ b.op = 2)
inductive NF : Nd → Prop
 | mk (t : Nd) (h : NfN t) (hp : ∀ x ∈ t.l, NF x) : NF t
theorem NF.n {t : Nd} : NF t → NfN t
 | .mk _ h _ => h
theorem NF.p {t : Nd} : NF t → ∀ x ∈ t.l, NF x
 | .mk _ _ h => h
theorem NF.ok {t : Nd} : NF t → okT t = true
 | .mk _ h hp => okT_iff.2 ⟨h.rt, fun x hx => NF.ok (hp x hx)⟩
theorem right_ops {t : Nd} (h : rightT t = true) : t.op = 1 ∨ t.op = 2 ∨ t.op = 3 ∨ t.op = 4 ∨ t.op = 5 ∨ t.op = 6 := by
 unfold rightT at h
 by_cases h1 : t.op = 1
 · exact .inl h1
 · by_cases h2 : t.op = 2
   · exact .inr (.inl h2)
   · by_cases h3 : t.op = 3 ∨ t.op = 4 ∨ t.op = 5
     · omega
     · by_cases h4 : t.op = 6
       · omega
       · rw [if_neg h1, if_neg h2, if_neg h3, if_neg h4] at h; cases h
theorem sil_right : rightT silT = true := by unfold rightT silT; simp [Nd.op, Nd.l, Nd.act]
theorem leaf_nf {t : Nd} (hr : rightT t = true) (hl : t.l = []) (ho : t.op = 1 ∨ t.op = 2) : NF t :=
 .mk t ⟨hr, fun _ x hx => by (rw [hl] at hx; cases hx), fun h => by omega, fun h => by omega, fun h => by omega, fun h => by omega⟩ fun x hx => by rw [hl] at hx; cases hx
theorem sil_nf : NF silT := leaf_nf sil_right rfl (.inr rfl)
theorem prt_mem {op : Int} {l : List Nd} (hl : ∀ x ∈ l, NF x) (ho : op = 3 ∨ op = 4 ∨ op = 5) {y : Nd} (hy : y ∈ prtT op l) : NF y ∧ y.op ≠ op ∧ (op ≠ 4 → y.op ≠ 2) := by
 unfold prtT at hy
 obtain ⟨x, hx, hy⟩ := List.mem_flatMap.1 hy
 by_cases h1 : x.op = op
 · rw [if_pos h1] at hy
   have hn := (hl x hx).n
   refine ⟨(hl x hx).p y hy, ?_, fun h4 => hn.ns (by omega) y hy⟩
   rw [← h1]
   exact (hn.two (by omega) y hy).2
 · rw [if_neg h1] at hy
   split at hy
   · rename_i h2
     rw [List.mem_singleton] at hy
     subst hy
     exact ⟨hl _ hx, h1, fun h4 => by omega⟩
   · cases hy
theorem ord_mem {op : Int} {p : List Nd} {y : Nd} : y ∈ ordT op p ↔ y ∈ p := by
 unfold ordT
 split
 · exact Iff.rfl
 · split
   · rw [cptT_mem, (srtT_perm p).mem_iff]
   · rw [(srtT_perm p).mem_iff]
theorem end_nf {op : Int} (ho : op = 3 ∨ op = 4 ∨ op = 5) {p : List Nd} (hp : ∀ y ∈ p, NF y ∧ y.op ≠ op ∧ (op ≠ 4 → y.op ≠ 2)) (h4 : op = 4 → StrT' p) (h5 : op = 5 → AscT p) : NF (endT op p) := by
 match p, hp, h4, h5 with
 | [], _, _, _ => exact sil_nf
 | [x], hp, _, _ => exact (hp x (List.mem_cons_self ..)).1
 | x :: y :: l, hp, h4, h5 =>
   refine .mk _ ⟨?_, fun _ z hz => ⟨by simp [endT, Nd.l], (hp z hz).2.1⟩, fun h z hz => (hp z hz).2.2 (by simp only [endT, Nd.op] at h; omega), fun h => h4 h, fun h => h5 h, fun h => ?_⟩ fun z hz => (hp z hz).1
   · rcases ho with rfl | rfl | rfl <;> simp [rightT, endT, Nd.op, Nd.l, Nd.act]
   · simp only [endT, Nd.op] at h; omega
theorem join_nf {op : Int} (ho : op = 3 ∨ op = 4 ∨ op = 5) {l : List Nd} (hl : ∀ x ∈ l, NF x) : NF (joinT op l) := by
 refine end_nf ho (fun y hy => prt_mem hl ho (ord_mem.1 hy)) (fun h => ?_) (fun h => ?_)
 · subst h; unfold ordT; rw [if_neg (by decide), if_pos rfl]; exact cptT_str _ (srtT_asc _)
 · subst h; unfold ordT; rw [if_neg (by decide), if_neg (by decide)]; exact srtT_asc _
theorem lopE_nf {p : Nd × Nd} (h1 : NF p.1) (h2 : NF p.2) (h6 : p.1.op ≠ 6) : NF (lopE p) := by
 unfold lopE
 split
 · exact sil_nf
 · rename_i h
   refine .mk _ ⟨by simp [rightT, Nd.op, Nd.l, Nd.act], fun h => absurd rfl h, fun h => ?_, fun h => ?_, fun h => ?_, fun _ => ⟨_, _, rfl, h6, h⟩⟩ fun x hx => ?_
   · simp [Nd.op] at h
   · simp [Nd.op] at h
   · simp [Nd.op] at h
   · rcases List.mem_cons.1 hx with rfl | hx
     · exact h1
     · rcases List.mem_cons.1 hx with rfl | hx
       · exact h2
       · cases hx
theorem lop2_nf {f s : Nd} (hf : NF f) (hs : NF s) : NF (lop2 f s).1 ∧ NF (lop2 f s).2 ∧ (lop2 f s).1.op ≠ 6 := by
 unfold lop2
 by_cases h : f.op = 6
 · rw [if_pos h]
   obtain ⟨a, b, hl, ha, _⟩ := hf.n.lp h
   rw [hl]
   have hp := hf.p
   rw [hl] at hp
   have hb := hp b (by simp)
   refine ⟨hp a (by simp), join_nf (by omega) fun x hx => ?_, ha⟩
   rcases List.mem_cons.1 hx with rfl | hx
   · exact hb
   · rw [List.mem_singleton] at hx; subst hx; exact hs
 · rw [if_neg h]; exact ⟨hf, hs, h⟩
theorem nor_nf : ∀ (t : Nd), okT t = true → NF (norT t) := Nd.ind fun o a l ih hok => by
 obtain ⟨hr, hp⟩ := okT_iff.1 hok
 simp only [Nd.l] at hp
 have hl : ∀ x ∈ norL l, NF x := fun x hx => by
  rw [norL_eq] at hx
  obtain ⟨y, hy, rfl⟩ := List.mem_map.1 hx
  exact ih y hy (hp y hy)
 rw [norT]
 unfold nodT
 split
 · rename_i h
   refine leaf_nf ?_ rfl h
   unfold rightT at hr ⊢
   rcases h with rfl | rfl
   · simp [Nd.op, Nd.l, Nd.act] at hr ⊢; exact hr.2
   · simp [Nd.op, Nd.l, Nd.act] at hr ⊢; exact hr.2
 · split
   · rename_i h1 h
     subst h
     have hlen : l.length = 2 := by
      unfold rightT at hr
      simp [Nd.op, Nd.l, Nd.act] at hr
      exact of_decide_eq_true hr.1
     obtain ⟨x, y, rfl⟩ : ∃ x y, l = [x, y] := by
      match l, hlen with
      | [x, y], _ => exact ⟨x, y, rfl⟩
     rw [norL, norL, norL] at hl ⊢
     obtain ⟨g1, g2, g3⟩ := lop2_nf (hl (norT x) (by simp)) (hl (norT y) (by simp))
     exact lopE_nf g1 g2 g3
   · rename_i h1 h2
     exact join_nf (by have := right_ops hr; simp only [Nd.op] at this; omega) hl
end
set_option maxRecDepth 100000
structure Cnt where
 name : ByteArray
 n : Int
structure Flw where
 src : ByteArray
 dst : ByteArray
 n : Int
structure Dfg where
 acts : List Cnt
 starts : List Cnt
 ends : List Cnt
 follows : List Flw
def pInts (l : List Int) : PV := .sl l.length (l.map pInt)
theorem tAgg24_PtC : AggT Tryz.prog 24 3 = true := by kernel_rfl
theorem tFl24_0_PtC : FldT Tryz.prog 24 0 0 = true := by kernel_rfl
theorem tFl24_1_PtC : FldT Tryz.prog 24 1 1 = true := by kernel_rfl
theorem tFl24_2_PtC : FldT Tryz.prog 24 2 2 = true := by kernel_rfl
theorem tNa22_PtC : NoAgg Tryz.prog 22 = true := by kernel_rfl
theorem tNa3_PtC : NoAgg Tryz.prog 3 = true := by kernel_rfl
theorem tNa9_PtC : NoAgg Tryz.prog 9 = true := by kernel_rfl
theorem tSl22_PtC : SlT Tryz.prog 22 24 3 = true := by kernel_rfl
theorem tZr24_PtC : ZeroT Tryz.prog 24 (.agg #[(.int .i64 0), (.string ByteArray.empty), (.slice none 0 0)]) := by unfold ZeroT; kernel_rfl
mutual
def cTr : Nd → List PV
 | .mk o a l => [pInt o, pStr a, .sl l.length (cTrs l)]
def cTrs : List Nd → List PV
 | [] => []
 | x :: l => cTr x ++ cTrs l
end
def pTrs (l : List Nd) : PV := .sl l.length (cTrs l)
def cN (t : Nd) : List PV := [pInt t.op, pStr t.act, pTrs t.l]
def pTr (t : Nd) : PV := .agg (cN t)
theorem cN_len (t : Nd) : (cN t).length = 3 := rfl
theorem cTrs_eq (l : List Nd) : cTrs l = l.flatMap cN := by
 induction l with
 | nil => rfl
 | cons x l ih =>
   rw [cTrs, ih, List.flatMap_cons]
   congr 1
   cases x; rfl
theorem tr_drop {l : List Nd} {k : Nat} {x : Nd} (h : l[k]? = some x) : ((cTrs l).drop (k * 3)).take 3 = cN x := by rw [cTrs_eq]; exact flat_drop cN_len l k x h
theorem tr_fit {l : List Nd} {k : Nat} {x : Nd} (h : l[k]? = some x) : k * 3 + 3 ≤ (cTrs l).length := by rw [cTrs_eq]; exact flat_fit cN_len h
inductive FitT : Nd → Prop
 | mk (t : Nd) (h1 : t.l.length ≤ 140737488355328) (h2 : t.act.size ≤ 140737488355328) (h3 : -9223372036854775808 ≤ t.op) (h4 : t.op ≤ 9223372036854775807) (h : ∀ x ∈ t.l, FitT x) : FitT t
theorem FitT.len {t : Nd} : FitT t → t.l.length ≤ 140737488355328
 | .mk _ h _ _ _ _ => h
theorem FitT.sz {t : Nd} : FitT t → t.act.size ≤ 140737488355328
 | .mk _ _ h _ _ _ => h
theorem FitT.lo {t : Nd} : FitT t → -9223372036854775808 ≤ t.op
 | .mk _ _ _ h _ _ => h
theorem FitT.hi {t : Nd} : FitT t → t.op ≤ 9223372036854775807
 | .mk _ _ _ _ h _ => h
theorem FitT.p {t : Nd} : FitT t → ∀ x ∈ t.l, FitT x
 | .mk _ _ _ _ _ h => h
theorem str_nil (a : ByteArray) : (a.toList == ByteArray.toList { data := #[] }) = decide (a = ByteArray.empty) := by
 rw [Bool.eq_iff_iff, decide_eq_true_eq]
 exact strEq_iff (a := a) (b := ByteArray.empty)
section
variable {o : Int} {a : ByteArray} {l : List Nd}
theorem rightT_eq : rightT (.mk o a l) = if o = 1 then l.isEmpty && isName a else if o = 2 then l.isEmpty && decide (a = ByteArray.empty) else if o = 3 ∨ o = 4 ∨ o = 5 then !l.isEmpty && decide (a = ByteArray.empty)
 else if o = 6 then decide (l.length = 2) && decide (a = ByteArray.empty) else false := rfl
theorem right1 (h : o = 1) : rightT (.mk o a l) = (decide ((l.length : Int) = 0) && isName a) := by
 rw [rightT_eq, if_pos h]
 congr 1
 cases l <;> simp <;> omega
theorem right2 (h : o = 2) : rightT (.mk o a l) = (decide ((l.length : Int) = 0) && (a.toList == ByteArray.toList { data := #[] })) := by
 rw [rightT_eq, str_nil, if_neg (by omega), if_pos h]
 congr 1
 cases l <;> simp <;> omega
theorem right3 (h : o = 3 ∨ o = 4 ∨ o = 5) : rightT (.mk o a l) = (decide (1 ≤ (l.length : Int)) && (a.toList == ByteArray.toList { data := #[] })) := by
 rw [rightT_eq, str_nil, if_neg (by omega), if_neg (by omega), if_pos h]
 congr 1
 cases l <;> simp <;> omega
theorem right6 (h : o = 6) : rightT (.mk o a l) = (decide ((l.length : Int) = 2) && (a.toList == ByteArray.toList { data := #[] })) := by
 rw [rightT_eq, str_nil, if_neg (by omega), if_neg (by omega), if_neg (by omega), if_pos h]
 congr 1
 rw [Bool.eq_iff_iff, decide_eq_true_eq, decide_eq_true_eq]; omega
theorem right0 (h1 : o ≠ 1) (h2 : o ≠ 2) (h3 : o ≠ 3) (h4 : o ≠ 4) (h5 : o ≠ 5) (h6 : o ≠ 6) : rightT (.mk o a l) = false := by
 rw [rightT_eq, if_neg h1, if_neg h2, if_neg (by omega), if_neg h6]
end
theorem bool_and {a b : Bool} (h : a = true) : pBool b = pBool (a && b) := by rw [h]; rfl
theorem bool_no {a b : Bool} (h : a = false) : pBool false = pBool (a && b) := by rw [h]; rfl
theorem bool_and' {a b : Bool} (h : a = true) : pBool b = pBool (b && a) := by rw [h, Bool.and_true]
theorem bool_no' {a b : Bool} (h : a = false) : pBool false = pBool (b && a) := by rw [h, Bool.and_false]
theorem tRight_e (t : Nd) (hf : FitT t) : AF Tryz.prog 73 [pTr t] (· = pBool (rightT t)) := by
 obtain ⟨o, a, l⟩ := t
 have hl := hf.len
 have ha := hf.sz
 simp only [Nd.l, Nd.act] at hl ha
 refine AF.of_body 47 Tryz.func73 rfl Tryz.ntmps73 (Nat.le_of_ble_eq_true rfl) ?_
 intro w0 M0 vs hl hv
 obtain ⟨v0, rfl⟩ := len1 hl
 clear hl hv
 have e0 : pTr (.mk o a l) = .agg [pInt o, pStr a, .sl l.length (cTrs l)] := rfl
 rw [e0]
 refine nav ?_
 (refine aC_region ?_ <;> refine s_boxa 1 3 fun h1 => ?_ <;> refine xL 2 q_assign ?_ <;> refine aL_end (nav ?_) <;> try dsimp only)
 (refine aC_region ?_ <;> refine xL 4 (q_fldo 1 tFl24_2_PtC) ?_ <;> (refine yL 5 (q_ldo 1 tNa22_PtC) fun v5 hv5 => ?_; cases hv5) <;> refine xL 6 (q_len tSl22_PtC) ?_ <;> refine xL 3 q_assign ?_ <;> refine aL_end (nav ?_) <;> try dsimp only)
 (refine aC_region ?_ <;> refine xL 7 (q_fldo 1 tFl24_0_PtC) ?_ <;> (refine yL 8 (q_ldo 1 tNa3_PtC) fun v8 hv8 => ?_; cases hv8) <;> refine aL_end (nav ?_) <;> try dsimp only)
 (refine aC_region ?_ <;> refine xL 10 q_eql ?_ <;> refine xL 9 q_assign ?_ <;> refine aL_end (nav ?_) <;> try dsimp only)
 (first | refine cCd ?_ ?_ | refine cC ?_ ?_) <;> intro hb9
 · first
   | exact Bool.noConfusion hb9
   | (
    refine nav ?_
    (refine aC_region ?_ <;> refine xL 11 q_move ?_ <;> refine xL 12 q_eql ?_ <;> refine xL 13 q_move ?_ <;> (refine bLd 13 (fun hb13 => ?_) (fun hb13 => ?_) <;> (first | refine kL 14 ?_ | refine xL 14 (q_fldo 1 tFl24_1_PtC) ?_)) <;> (first | refine kL 15 ?_ | (refine yL 15 (q_ldo 1 tNa9_PtC) fun v15 hv15 => ?_; cases hv15)) <;> (first | refine kL 16 ?_ | (refine cS 16 (cA Tryz.call103 (isName_e a (by omega))) fun v16 hv16 => ?_; cases hv16)) <;> refine xL 17 q_pick ?_ <;> refine xL 2 q_assign ?_ <;> refine aL_end (nav ?_) <;> try dsimp only) <;> (
     refine ret_shr (Tryz.results73) rfl ?_
     rw [right1 hb9]
     first
      | exact bool_and (decide_eq_true hb13)
      | exact bool_no (decide_eq_false hb13)))
 · first
   | exact Bool.noConfusion hb9
   | (
    refine nav ?_
    (refine aC_region ?_ <;> refine xL 19 q_eql ?_ <;> refine xL 18 q_assign ?_ <;> refine aL_end (nav ?_) <;> try dsimp only)
    (first | refine cCd ?_ ?_ | refine cC ?_ ?_) <;> intro hb18
    · first
      | exact Bool.noConfusion hb18
      | (
       refine nav ?_
       (refine aC_region ?_ <;> refine xL 20 q_move ?_ <;> refine xL 21 q_eql ?_ <;> refine xL 22 q_move ?_ <;> (refine bLd 22 (fun hb22 => ?_) (fun hb22 => ?_) <;> (first | refine kL 23 ?_ | refine xL 23 (q_fldo 1 tFl24_1_PtC) ?_)) <;> (first | refine kL 24 ?_ | (refine yL 24 (q_ldo 1 tNa9_PtC) fun v24 hv24 => ?_; cases hv24)) <;> (first | refine kL 25 ?_ | refine xL 25 q_seql ?_) <;> refine xL 26 q_pick ?_ <;> refine xL 2 q_assign ?_ <;> refine aL_end (nav ?_) <;> try dsimp only) <;> (
        refine ret_shr (Tryz.results73) rfl ?_
        rw [right2 hb18]
        first
         | exact bool_and (decide_eq_true hb22)
         | exact bool_no (decide_eq_false hb22)))
    · first
      | exact Bool.noConfusion hb18
      | (
       refine nav ?_
       (refine aC_region ?_ <;> refine xL 28 q_eql ?_ <;> refine xL 27 q_assign ?_ <;> refine aL_end (nav ?_) <;> try dsimp only)
       (first | refine cCd ?_ ?_ | refine cC ?_ ?_) <;> intro hb27
       · first
         | exact Bool.noConfusion hb27
         | (
          refine nav ?_
          (first | refine cCd ?_ ?_ | refine cC ?_ ?_) <;> intro hb27
          · first
            | exact Bool.noConfusion hb27
            | (
             refine nav ?_
             (refine aC_region ?_ <;> refine xL 31 q_move ?_ <;> refine xL 32 q_geq ?_ <;> refine xL 33 q_move ?_ <;> (refine bLd 33 (fun hb33 => ?_) (fun hb33 => ?_) <;> (first | refine kL 34 ?_ | refine xL 34 (q_fldo 1 tFl24_1_PtC) ?_)) <;> (first | refine kL 35 ?_ | (refine yL 35 (q_ldo 1 tNa9_PtC) fun v35 hv35 => ?_; cases hv35)) <;> (first | refine kL 36 ?_ | refine xL 36 q_seql ?_) <;> refine xL 37 q_pick ?_ <;> refine xL 2 q_assign ?_ <;> refine aL_end (nav ?_) <;> try dsimp only) <;> (
              refine ret_shr (Tryz.results73) rfl ?_
              rw [right3 (by omega)]
              first
               | exact bool_and (decide_eq_true hb33)
               | exact bool_no (decide_eq_false hb33)))
          · first
            | exact Bool.noConfusion hb27
            | (
             refine nav ?_
             (refine aC_region ?_ <;> refine xL 39 q_eql ?_ <;> refine xL 38 q_assign ?_ <;> refine aL_end (nav ?_) <;> try dsimp only)
             (first | refine cCd ?_ ?_ | refine cC ?_ ?_) <;> intro hb38
             · first
               | exact Bool.noConfusion hb38
               | (
                refine nav ?_
                (refine aC_region ?_ <;> refine xL 40 q_move ?_ <;> refine xL 41 q_eql ?_ <;> refine xL 42 q_move ?_ <;> (refine bLd 42 (fun hb42 => ?_) (fun hb42 => ?_) <;> (first | refine kL 43 ?_ | refine xL 43 (q_fldo 1 tFl24_1_PtC) ?_)) <;> (first | refine kL 44 ?_ | (refine yL 44 (q_ldo 1 tNa9_PtC) fun v44 hv44 => ?_; cases hv44)) <;> (first | refine kL 45 ?_ | refine xL 45 q_seql ?_) <;> refine xL 46 q_pick ?_ <;> refine xL 2 q_assign ?_ <;> refine aL_end (nav ?_) <;> try dsimp only) <;> (
                 refine ret_shr (Tryz.results73) rfl ?_
                 rw [right6 hb38]
                 first
                  | exact bool_and (decide_eq_true hb42)
                  | exact bool_no (decide_eq_false hb42)))
             · first
               | exact Bool.noConfusion hb38
               | (
                refine nav ?_
                (refine aC_region ?_ <;> refine xL 2 q_assign ?_ <;> refine aL_end (nav ?_) <;> try dsimp only)
                refine ret_shr (Tryz.results73) rfl ?_
                rw [right0 (by omega) (by omega) (by omega) (by omega) (by omega) (by omega)])))
       · first
         | exact Bool.noConfusion hb27
         | (
          refine nav ?_
          (refine aC_region ?_ <;> refine xL 29 q_eql ?_ <;> refine xL 27 q_assign ?_ <;> refine aL_end (nav ?_) <;> try dsimp only)
          (first | refine cCd ?_ ?_ | refine cC ?_ ?_) <;> intro hb27
          · first
            | exact Bool.noConfusion hb27
            | (
             refine nav ?_
             (first | refine cCd ?_ ?_ | refine cC ?_ ?_) <;> intro hb27
             · first
               | exact Bool.noConfusion hb27
               | (
                refine nav ?_
                (refine aC_region ?_ <;> refine xL 31 q_move ?_ <;> refine xL 32 q_geq ?_ <;> refine xL 33 q_move ?_ <;> (refine bLd 33 (fun hb33 => ?_) (fun hb33 => ?_) <;> (first | refine kL 34 ?_ | refine xL 34 (q_fldo 1 tFl24_1_PtC) ?_)) <;> (first | refine kL 35 ?_ | (refine yL 35 (q_ldo 1 tNa9_PtC) fun v35 hv35 => ?_; cases hv35)) <;> (first | refine kL 36 ?_ | refine xL 36 q_seql ?_) <;> refine xL 37 q_pick ?_ <;> refine xL 2 q_assign ?_ <;> refine aL_end (nav ?_) <;> try dsimp only) <;> (
                 refine ret_shr (Tryz.results73) rfl ?_
                 rw [right3 (by omega)]
                 first
                  | exact bool_and (decide_eq_true hb33)
                  | exact bool_no (decide_eq_false hb33)))
             · first
               | exact Bool.noConfusion hb27
               | (
                refine nav ?_
                (refine aC_region ?_ <;> refine xL 39 q_eql ?_ <;> refine xL 38 q_assign ?_ <;> refine aL_end (nav ?_) <;> try dsimp only)
                (first | refine cCd ?_ ?_ | refine cC ?_ ?_) <;> intro hb38
                · first
                  | exact Bool.noConfusion hb38
                  | (
                   refine nav ?_
                   (refine aC_region ?_ <;> refine xL 40 q_move ?_ <;> refine xL 41 q_eql ?_ <;> refine xL 42 q_move ?_ <;> (refine bLd 42 (fun hb42 => ?_) (fun hb42 => ?_) <;> (first | refine kL 43 ?_ | refine xL 43 (q_fldo 1 tFl24_1_PtC) ?_)) <;> (first | refine kL 44 ?_ | (refine yL 44 (q_ldo 1 tNa9_PtC) fun v44 hv44 => ?_; cases hv44)) <;> (first | refine kL 45 ?_ | refine xL 45 q_seql ?_) <;> refine xL 46 q_pick ?_ <;> refine xL 2 q_assign ?_ <;> refine aL_end (nav ?_) <;> try dsimp only) <;> (
                    refine ret_shr (Tryz.results73) rfl ?_
                    rw [right6 hb38]
                    first
                     | exact bool_and (decide_eq_true hb42)
                     | exact bool_no (decide_eq_false hb42)))
                · first
                  | exact Bool.noConfusion hb38
                  | (
                   refine nav ?_
                   (refine aC_region ?_ <;> refine xL 2 q_assign ?_ <;> refine aL_end (nav ?_) <;> try dsimp only)
                   refine ret_shr (Tryz.results73) rfl ?_
                   rw [right0 (by omega) (by omega) (by omega) (by omega) (by omega) (by omega)])))
          · first
            | exact Bool.noConfusion hb27
            | (
             refine nav ?_
             (refine aC_region ?_ <;> refine xL 30 q_eql ?_ <;> refine xL 27 q_assign ?_ <;> refine aL_end (nav ?_) <;> try dsimp only)
             (first | refine cCd ?_ ?_ | refine cC ?_ ?_) <;> intro hb27
             · first
               | exact Bool.noConfusion hb27
               | (
                refine nav ?_
                (refine aC_region ?_ <;> refine xL 31 q_move ?_ <;> refine xL 32 q_geq ?_ <;> refine xL 33 q_move ?_ <;> (refine bLd 33 (fun hb33 => ?_) (fun hb33 => ?_) <;> (first | refine kL 34 ?_ | refine xL 34 (q_fldo 1 tFl24_1_PtC) ?_)) <;> (first | refine kL 35 ?_ | (refine yL 35 (q_ldo 1 tNa9_PtC) fun v35 hv35 => ?_; cases hv35)) <;> (first | refine kL 36 ?_ | refine xL 36 q_seql ?_) <;> refine xL 37 q_pick ?_ <;> refine xL 2 q_assign ?_ <;> refine aL_end (nav ?_) <;> try dsimp only) <;> (
                 refine ret_shr (Tryz.results73) rfl ?_
                 rw [right3 (by omega)]
                 first
                  | exact bool_and (decide_eq_true hb33)
                  | exact bool_no (decide_eq_false hb33)))
             · first
               | exact Bool.noConfusion hb27
               | (
                refine nav ?_
                (refine aC_region ?_ <;> refine xL 39 q_eql ?_ <;> refine xL 38 q_assign ?_ <;> refine aL_end (nav ?_) <;> try dsimp only)
                (first | refine cCd ?_ ?_ | refine cC ?_ ?_) <;> intro hb38
                · first
                  | exact Bool.noConfusion hb38
                  | (
                   refine nav ?_
                   (refine aC_region ?_ <;> refine xL 40 q_move ?_ <;> refine xL 41 q_eql ?_ <;> refine xL 42 q_move ?_ <;> (refine bLd 42 (fun hb42 => ?_) (fun hb42 => ?_) <;> (first | refine kL 43 ?_ | refine xL 43 (q_fldo 1 tFl24_1_PtC) ?_)) <;> (first | refine kL 44 ?_ | (refine yL 44 (q_ldo 1 tNa9_PtC) fun v44 hv44 => ?_; cases hv44)) <;> (first | refine kL 45 ?_ | refine xL 45 q_seql ?_) <;> refine xL 46 q_pick ?_ <;> refine xL 2 q_assign ?_ <;> refine aL_end (nav ?_) <;> try dsimp only) <;> (
                    refine ret_shr (Tryz.results73) rfl ?_
                    rw [right6 hb38]
                    first
                     | exact bool_and (decide_eq_true hb42)
                     | exact bool_no (decide_eq_false hb42)))
                · first
                  | exact Bool.noConfusion hb38
                  | (
                   refine nav ?_
                   (refine aC_region ?_ <;> refine xL 2 q_assign ?_ <;> refine aL_end (nav ?_) <;> try dsimp only)
                   refine ret_shr (Tryz.results73) rfl ?_
                   rw [right0 (by omega) (by omega) (by omega) (by omega) (by omega) (by omega)]))))))
theorem rtRight_e (t : Nd) (hf : FitT t) : AF Tryz.prog 68 [pTr t] (· = pBool (rightT t)) := by
 obtain ⟨o, a, l⟩ := t
 have hl := hf.len
 have ha := hf.sz
 simp only [Nd.l, Nd.act] at hl ha
 refine AF.of_body 51 Tryz.func68 rfl Tryz.ntmps68 (Nat.le_of_ble_eq_true rfl) ?_
 intro w0 M0 vs hl hv
 obtain ⟨v0, rfl⟩ := len1 hl
 clear hl hv
 have e0 : pTr (.mk o a l) = .agg [pInt o, pStr a, .sl l.length (cTrs l)] := rfl
 rw [e0]
 refine nav ?_
 (refine aC_region ?_ <;> refine s_boxa 1 3 fun h1 => ?_ <;> refine xL 2 q_assign ?_ <;> refine aL_end (nav ?_) <;> try dsimp only)
 (refine aC_region ?_ <;> refine xL 3 (q_fldo 1 tFl24_0_PtC) ?_ <;> (refine yL 4 (q_ldo 1 tNa3_PtC) fun v4 hv4 => ?_; cases hv4) <;> refine aL_end (nav ?_) <;> try dsimp only)
 (refine aC_region ?_ <;> refine xL 6 q_eql ?_ <;> refine xL 5 q_assign ?_ <;> refine aL_end (nav ?_) <;> try dsimp only)
 (first | refine cCd ?_ ?_ | refine cC ?_ ?_) <;> intro hb5
 · first
   | exact Bool.noConfusion hb5
   | (
    refine nav ?_
    (refine aC_region ?_ <;> refine xL 7 (q_fldo 1 tFl24_1_PtC) ?_ <;> (refine yL 8 (q_ldo 1 tNa9_PtC) fun v8 hv8 => ?_; cases hv8) <;> (refine cS 9 (cA Tryz.call100 (rIsName_e a (by omega))) fun v9 hv9 => ?_; cases hv9) <;> refine xL 10 q_move ?_ <;> (refine bL 10 (fun hb10 => ?_) (fun hb10 => ?_) <;> (first | refine kL 11 ?_ | refine xL 11 (q_fldo 1 tFl24_2_PtC) ?_)) <;> (first | refine kL 12 ?_ | (refine yL 12 (q_ldo 1 tNa22_PtC) fun v12 hv12 => ?_; cases hv12)) <;> (first | refine kL 13 ?_ | refine xL 13 (q_len tSl22_PtC) ?_) <;> (first | refine kL 14 ?_ | refine xL 14 q_eql ?_) <;> refine xL 15 q_pick ?_ <;> refine xL 2 q_assign ?_ <;> refine aL_end (nav ?_) <;> try dsimp only) <;> (
     refine ret_shr (Tryz.results68) rfl ?_
     rw [right1 hb5]
     first
      | exact bool_and' hb10
      | exact bool_no' hb10))
 · first
   | exact Bool.noConfusion hb5
   | (
    refine nav ?_
    (refine aC_region ?_ <;> refine xL 17 q_eql ?_ <;> refine xL 16 q_assign ?_ <;> refine aL_end (nav ?_) <;> try dsimp only)
    (first | refine cCd ?_ ?_ | refine cC ?_ ?_) <;> intro hb16
    · first
      | exact Bool.noConfusion hb16
      | (
       refine nav ?_
       (refine aC_region ?_ <;> refine xL 18 (q_fldo 1 tFl24_1_PtC) ?_ <;> (refine yL 19 (q_ldo 1 tNa9_PtC) fun v19 hv19 => ?_; cases hv19) <;> refine xL 20 q_seql ?_ <;> refine xL 21 q_move ?_ <;> (refine bL 21 (fun hb21 => ?_) (fun hb21 => ?_) <;> (first | refine kL 22 ?_ | refine xL 22 (q_fldo 1 tFl24_2_PtC) ?_)) <;> (first | refine kL 23 ?_ | (refine yL 23 (q_ldo 1 tNa22_PtC) fun v23 hv23 => ?_; cases hv23)) <;> (first | refine kL 24 ?_ | refine xL 24 (q_len tSl22_PtC) ?_) <;> (first | refine kL 25 ?_ | refine xL 25 q_eql ?_) <;> refine xL 26 q_pick ?_ <;> refine xL 2 q_assign ?_ <;> refine aL_end (nav ?_) <;> try dsimp only) <;> (
        refine ret_shr (Tryz.results68) rfl ?_
        rw [right2 hb16]
        first
         | exact bool_and' hb21
         | exact bool_no' hb21))
    · first
      | exact Bool.noConfusion hb16
      | (
       refine nav ?_
       (refine aC_region ?_ <;> refine xL 28 q_eql ?_ <;> refine xL 27 q_assign ?_ <;> refine aL_end (nav ?_) <;> try dsimp only)
       (first | refine cCd ?_ ?_ | refine cC ?_ ?_) <;> intro hb27
       · first
         | exact Bool.noConfusion hb27
         | (
          refine nav ?_
          (first | refine cCd ?_ ?_ | refine cC ?_ ?_) <;> intro hb27
          · first
            | exact Bool.noConfusion hb27
            | (
             refine nav ?_
             (refine aC_region ?_ <;> refine xL 31 (q_fldo 1 tFl24_1_PtC) ?_ <;> (refine yL 32 (q_ldo 1 tNa9_PtC) fun v32 hv32 => ?_; cases hv32) <;> refine xL 33 q_seql ?_ <;> refine xL 34 q_move ?_ <;> (refine bL 34 (fun hb34 => ?_) (fun hb34 => ?_) <;> (first | refine kL 35 ?_ | refine xL 35 (q_fldo 1 tFl24_2_PtC) ?_)) <;> (first | refine kL 36 ?_ | (refine yL 36 (q_ldo 1 tNa22_PtC) fun v36 hv36 => ?_; cases hv36)) <;> (first | refine kL 37 ?_ | refine xL 37 (q_len tSl22_PtC) ?_) <;> (first | refine kL 38 ?_ | refine xL 38 q_geq ?_) <;> refine xL 39 q_pick ?_ <;> refine xL 2 q_assign ?_ <;> refine aL_end (nav ?_) <;> try dsimp only) <;> (
              refine ret_shr (Tryz.results68) rfl ?_
              rw [right3 (by omega)]
              first
               | exact bool_and' hb34
               | exact bool_no' hb34))
          · first
            | exact Bool.noConfusion hb27
            | (
             refine nav ?_
             (refine aC_region ?_ <;> refine xL 41 q_eql ?_ <;> refine xL 40 q_assign ?_ <;> refine aL_end (nav ?_) <;> try dsimp only)
             (first | refine cCd ?_ ?_ | refine cC ?_ ?_) <;> intro hb40
             · first
               | exact Bool.noConfusion hb40
               | (
                refine nav ?_
                (refine aC_region ?_ <;> refine xL 42 (q_fldo 1 tFl24_1_PtC) ?_ <;> (refine yL 43 (q_ldo 1 tNa9_PtC) fun v43 hv43 => ?_; cases hv43) <;> refine xL 44 q_seql ?_ <;> refine xL 45 q_move ?_ <;> (refine bL 45 (fun hb45 => ?_) (fun hb45 => ?_) <;> (first | refine kL 46 ?_ | refine xL 46 (q_fldo 1 tFl24_2_PtC) ?_)) <;> (first | refine kL 47 ?_ | (refine yL 47 (q_ldo 1 tNa22_PtC) fun v47 hv47 => ?_; cases hv47)) <;> (first | refine kL 48 ?_ | refine xL 48 (q_len tSl22_PtC) ?_) <;> (first | refine kL 49 ?_ | refine xL 49 q_eql ?_) <;> refine xL 50 q_pick ?_ <;> refine xL 2 q_assign ?_ <;> refine aL_end (nav ?_) <;> try dsimp only) <;> (
                 refine ret_shr (Tryz.results68) rfl ?_
                 rw [right6 hb40]
                 first
                  | exact bool_and' hb45
                  | exact bool_no' hb45))
             · first
               | exact Bool.noConfusion hb40
               | (
                refine nav ?_
                (refine aC_region ?_ <;> refine xL 2 q_assign ?_ <;> refine aL_end (nav ?_) <;> try dsimp only)
                refine ret_shr (Tryz.results68) rfl ?_
                rw [right0 (by omega) (by omega) (by omega) (by omega) (by omega) (by omega)])))
       · first
         | exact Bool.noConfusion hb27
         | (
          refine nav ?_
          (refine aC_region ?_ <;> refine xL 29 q_eql ?_ <;> refine xL 27 q_assign ?_ <;> refine aL_end (nav ?_) <;> try dsimp only)
          (first | refine cCd ?_ ?_ | refine cC ?_ ?_) <;> intro hb27
          · first
            | exact Bool.noConfusion hb27
            | (
             refine nav ?_
             (first | refine cCd ?_ ?_ | refine cC ?_ ?_) <;> intro hb27
             · first
               | exact Bool.noConfusion hb27
               | (
                refine nav ?_
                (refine aC_region ?_ <;> refine xL 31 (q_fldo 1 tFl24_1_PtC) ?_ <;> (refine yL 32 (q_ldo 1 tNa9_PtC) fun v32 hv32 => ?_; cases hv32) <;> refine xL 33 q_seql ?_ <;> refine xL 34 q_move ?_ <;> (refine bL 34 (fun hb34 => ?_) (fun hb34 => ?_) <;> (first | refine kL 35 ?_ | refine xL 35 (q_fldo 1 tFl24_2_PtC) ?_)) <;> (first | refine kL 36 ?_ | (refine yL 36 (q_ldo 1 tNa22_PtC) fun v36 hv36 => ?_; cases hv36)) <;> (first | refine kL 37 ?_ | refine xL 37 (q_len tSl22_PtC) ?_) <;> (first | refine kL 38 ?_ | refine xL 38 q_geq ?_) <;> refine xL 39 q_pick ?_ <;> refine xL 2 q_assign ?_ <;> refine aL_end (nav ?_) <;> try dsimp only) <;> (
                 refine ret_shr (Tryz.results68) rfl ?_
                 rw [right3 (by omega)]
                 first
                  | exact bool_and' hb34
                  | exact bool_no' hb34))
             · first
               | exact Bool.noConfusion hb27
               | (
                refine nav ?_
                (refine aC_region ?_ <;> refine xL 41 q_eql ?_ <;> refine xL 40 q_assign ?_ <;> refine aL_end (nav ?_) <;> try dsimp only)
                (first | refine cCd ?_ ?_ | refine cC ?_ ?_) <;> intro hb40
                · first
                  | exact Bool.noConfusion hb40
                  | (
                   refine nav ?_
                   (refine aC_region ?_ <;> refine xL 42 (q_fldo 1 tFl24_1_PtC) ?_ <;> (refine yL 43 (q_ldo 1 tNa9_PtC) fun v43 hv43 => ?_; cases hv43) <;> refine xL 44 q_seql ?_ <;> refine xL 45 q_move ?_ <;> (refine bL 45 (fun hb45 => ?_) (fun hb45 => ?_) <;> (first | refine kL 46 ?_ | refine xL 46 (q_fldo 1 tFl24_2_PtC) ?_)) <;> (first | refine kL 47 ?_ | (refine yL 47 (q_ldo 1 tNa22_PtC) fun v47 hv47 => ?_; cases hv47)) <;> (first | refine kL 48 ?_ | refine xL 48 (q_len tSl22_PtC) ?_) <;> (first | refine kL 49 ?_ | refine xL 49 q_eql ?_) <;> refine xL 50 q_pick ?_ <;> refine xL 2 q_assign ?_ <;> refine aL_end (nav ?_) <;> try dsimp only) <;> (
                    refine ret_shr (Tryz.results68) rfl ?_
                    rw [right6 hb40]
                    first
                     | exact bool_and' hb45
                     | exact bool_no' hb45))
                · first
                  | exact Bool.noConfusion hb40
                  | (
                   refine nav ?_
                   (refine aC_region ?_ <;> refine xL 2 q_assign ?_ <;> refine aL_end (nav ?_) <;> try dsimp only)
                   refine ret_shr (Tryz.results68) rfl ?_
                   rw [right0 (by omega) (by omega) (by omega) (by omega) (by omega) (by omega)])))
          · first
            | exact Bool.noConfusion hb27
            | (
             refine nav ?_
             (refine aC_region ?_ <;> refine xL 30 q_eql ?_ <;> refine xL 27 q_assign ?_ <;> refine aL_end (nav ?_) <;> try dsimp only)
             (first | refine cCd ?_ ?_ | refine cC ?_ ?_) <;> intro hb27
             · first
               | exact Bool.noConfusion hb27
               | (
                refine nav ?_
                (refine aC_region ?_ <;> refine xL 31 (q_fldo 1 tFl24_1_PtC) ?_ <;> (refine yL 32 (q_ldo 1 tNa9_PtC) fun v32 hv32 => ?_; cases hv32) <;> refine xL 33 q_seql ?_ <;> refine xL 34 q_move ?_ <;> (refine bL 34 (fun hb34 => ?_) (fun hb34 => ?_) <;> (first | refine kL 35 ?_ | refine xL 35 (q_fldo 1 tFl24_2_PtC) ?_)) <;> (first | refine kL 36 ?_ | (refine yL 36 (q_ldo 1 tNa22_PtC) fun v36 hv36 => ?_; cases hv36)) <;> (first | refine kL 37 ?_ | refine xL 37 (q_len tSl22_PtC) ?_) <;> (first | refine kL 38 ?_ | refine xL 38 q_geq ?_) <;> refine xL 39 q_pick ?_ <;> refine xL 2 q_assign ?_ <;> refine aL_end (nav ?_) <;> try dsimp only) <;> (
                 refine ret_shr (Tryz.results68) rfl ?_
                 rw [right3 (by omega)]
                 first
                  | exact bool_and' hb34
                  | exact bool_no' hb34))
             · first
               | exact Bool.noConfusion hb27
               | (
                refine nav ?_
                (refine aC_region ?_ <;> refine xL 41 q_eql ?_ <;> refine xL 40 q_assign ?_ <;> refine aL_end (nav ?_) <;> try dsimp only)
                (first | refine cCd ?_ ?_ | refine cC ?_ ?_) <;> intro hb40
                · first
                  | exact Bool.noConfusion hb40
                  | (
                   refine nav ?_
                   (refine aC_region ?_ <;> refine xL 42 (q_fldo 1 tFl24_1_PtC) ?_ <;> (refine yL 43 (q_ldo 1 tNa9_PtC) fun v43 hv43 => ?_; cases hv43) <;> refine xL 44 q_seql ?_ <;> refine xL 45 q_move ?_ <;> (refine bL 45 (fun hb45 => ?_) (fun hb45 => ?_) <;> (first | refine kL 46 ?_ | refine xL 46 (q_fldo 1 tFl24_2_PtC) ?_)) <;> (first | refine kL 47 ?_ | (refine yL 47 (q_ldo 1 tNa22_PtC) fun v47 hv47 => ?_; cases hv47)) <;> (first | refine kL 48 ?_ | refine xL 48 (q_len tSl22_PtC) ?_) <;> (first | refine kL 49 ?_ | refine xL 49 q_eql ?_) <;> refine xL 50 q_pick ?_ <;> refine xL 2 q_assign ?_ <;> refine aL_end (nav ?_) <;> try dsimp only) <;> (
                    refine ret_shr (Tryz.results68) rfl ?_
                    rw [right6 hb40]
                    first
                     | exact bool_and' hb45
                     | exact bool_no' hb45))
                · first
                  | exact Bool.noConfusion hb40
                  | (
                   refine nav ?_
                   (refine aC_region ?_ <;> refine xL 2 q_assign ?_ <;> refine aL_end (nav ?_) <;> try dsimp only)
                   refine ret_shr (Tryz.results68) rfl ?_
                   rw [right0 (by omega) (by omega) (by omega) (by omega) (by omega) (by omega)]))))))
theorem tMeasure_e : ∀ (t : Nd), FitT t → ∀ (most d : Int), -4611686018427387904 ≤ most → most ≤ 4611686018427387904 → -4611686018427387904 ≤ d → d ≤ 4611686018427387904 → AF Tryz.prog 50 [pTr t, pInt most, pInt d] (· = .tup [pInt (if meaT t most d = true then (szT t : Int) else 0), pBool (meaT t most d)]) := Nd.ind fun o a l ih hf most d hm1 hm2 hd1 hd2 => by
 have hl := hf.len
 have hp := hf.p
 simp only [Nd.l] at hl hp
 refine AF.of_body 48 Tryz.func50 rfl Tryz.ntmps50 (Nat.le_of_ble_eq_true rfl) ?_
 intro w0 M0 vs hl hv
 obtain ⟨v0, v1, v2, rfl⟩ := len3 hl
 obtain rfl := hv 1 _ _ rfl rfl
 obtain rfl := hv 2 _ _ rfl rfl
 clear hl hv
 have e0 : pTr (.mk o a l) = .agg [pInt o, pStr a, .sl l.length (cTrs l)] := rfl
 rw [e0]
 refine nav ?_
 (refine aC_region ?_ <;> refine s_boxa 3 3 fun h3 => ?_ <;> refine xL 6 q_assign ?_ <;> refine xL 7 q_assign ?_ <;> refine aL_end (nav ?_) <;> try dsimp only)
 (refine aC_region ?_ <;> refine xL 13 q_move ?_ <;> refine xL 14 q_lss ?_ <;> refine xL 15 q_move ?_ <;> (refine bLd 15 (fun hb15 => ?_) (fun hb15 => ?_) <;> (first | refine kL 16 ?_ | refine xL 16 q_move ?_)) <;> (first | refine kL 17 ?_ | refine xL 17 q_gtr ?_) <;> refine xL 18 q_pick ?_ <;> refine xL 19 q_move ?_ <;> (first | refine kL 20 ?_ | (refine bLd 19 (fun hb19 => ?_) (fun hb19 => ?_) <;> (first | refine kL 20 ?_ | (refine yL 20 (q_ldao 3 tAgg24_PtC) fun v20 hv20 => ?_; cases hv20)))) <;> (first | refine kL 21 ?_ | (refine cS 21 (cA Tryz.call73 (tRight_e (.mk o a l) hf)) fun v21 hv21 => ?_; cases hv21)) <;> (first | refine kL 22 ?_ | refine xL 22 q_not ?_) <;> refine xL 23 q_pick ?_ <;> refine aL_end (nav ?_) <;> try dsimp only) <;> (
  (first | refine cCd ?_ ?_ | refine cC ?_ ?_) <;> intro hb23
  · first
    | exact Bool.noConfusion hb23
    | (
     refine nav ?_
     (refine aC_region ?_ <;> refine xL 6 q_assign ?_ <;> refine xL 7 q_assign ?_ <;> refine aL_end (nav ?_) <;> try dsimp only)
     refine ret_ss (Tryz.results50) rfl rfl ?_
     rw [mea_no (by first | exact .inl (by omega) | exact .inr (.inl (by omega)) | exact .inr (.inr (by simpa using hb23)))]; rfl)
  · first
    | exact Bool.noConfusion hb23
    | (
     have hrt : rightT (.mk o a l) = true := by simpa using hb23
     refine nav ?_
     (refine aC_region ?_ <;> refine xL 8 q_assign ?_ <;> refine aL_end (nav ?_) <;> try dsimp only)
     (refine aC_region ?_ <;> refine xL 24 (q_fldo 3 tFl24_2_PtC) ?_ <;> (refine yL 25 (q_ldo 3 tNa22_PtC) fun v25 hv25 => ?_; cases hv25) <;> refine xL 26 (q_len tSl22_PtC) ?_ <;> refine xL 27 q_move ?_ <;> refine aL_end (nav ?_) <;> try dsimp only)
     refine aC_loop (ι := { k : Nat // k ≤ l.length ∧ ((1 + szL (l.take k) : Nat) : Int) ≤ most ∧ ∀ j x, j < k → l[j]? = some x → meaT x (most - ((1 + szL (l.take j) : Nat) : Int)) (d + 1) = true }) (fun k => ⟨[(1, _, _), (2, _, _), (25, _, _), (26, _, _), (27, .int .i64 k.1, pInt k.1), (8, .int .i64 ((1 + szL (l.take k.1) : Nat) : Int), pInt ((1 + szL (l.take k.1) : Nat) : Int))], [(3, _, _)]⟩) (fun k => l.length - k.1) ⟨0, by omega, by simp [szL]; omega, by omega⟩ (fun a w H => H.weaken ⟨rfl, rfl, rfl, rfl, rfl, rfl, trivial⟩ ⟨rfl, trivial⟩) ?_
     rintro ⟨k, hk, hsz, hp2⟩
     dsimp only
     refine nav ?_
     (refine aC_region ?_ <;> refine xL 28 q_lss ?_ <;> refine aL_end (nav ?_) <;> try dsimp only)
     (first | refine cCd ?_ ?_ | refine cC ?_ ?_) <;> intro hb28
     · first
       | exact Bool.noConfusion hb28
       | (
        obtain ⟨x, hx⟩ := get_some (show k < l.length by omega)
        have hxm := List.mem_of_getElem? hx
        have e1 := tr_drop hx
        have e2 := tr_fit hx
        refine nav ?_
        (refine aC_region ?_ <;> refine xL 29 (q_idxN tSl22_PtC) ?_ <;> (refine yL 30 (q_lda tAgg24_PtC) fun v30 hv30 => ?_; cases hv30) <;> refine s_alloc [(.int .i64 0), (.string ByteArray.empty), (.slice none 0 0)] 3 10 tZr24_PtC fun h10 => ?_ <;> refine s_sta 10 tAgg24_PtC ?_ <;> refine aL_end (nav ?_) <;> try dsimp only)
        (refine aC_region ?_ <;> (refine yL 32 (q_ldao 10 tAgg24_PtC) fun v32 hv32 => ?_; cases hv32) <;> refine xL 33 q_move ?_ <;> refine xL 34 q_move ?_ <;> refine xL 35 q_sub ?_ <;> refine xL 36 q_move ?_ <;> refine xL 37 q_add ?_ <;> (refine cP 38 (cA Tryz.call50 (ih x hxm (hp x hxm) (most - ((1 + szL (l.take k) : Nat) : Int)) (d + 1) (by omega) (by omega) (by omega) (by omega))) fun va38 vb38 hva38 hvb38 => ?_; cases hva38; cases hvb38) <;> refine xL 31 q_move ?_ <;> refine xL 39 q_extract ?_ <;> refine xL 40 q_extract ?_ <;> refine xL 11 q_assign ?_ <;> refine xL 12 q_assign ?_ <;> refine aL_end (nav ?_) <;> try dsimp only)
        (refine aC_region ?_ <;> refine xL 41 q_move ?_ <;> refine xL 42 q_not ?_ <;> refine aL_end (nav ?_) <;> try dsimp only)
        (first | refine cCd ?_ ?_ | refine cC ?_ ?_) <;> intro hb42
        · first
          | exact Bool.noConfusion hb42
          | (
           refine nav ?_
           (refine aC_region ?_ <;> refine xL 6 q_assign ?_ <;> refine xL 7 q_assign ?_ <;> refine aL_end (nav ?_) <;> try dsimp only)
           refine ret_ss (Tryz.results50) rfl rfl ?_
           rw [mea_part (t := .mk o a l) hx (by simpa [Nd.l] using hb42)]; rfl)
        · first
          | exact Bool.noConfusion hb42
          | (
           have hmx : meaT x (most - ((1 + szL (l.take k) : Nat) : Int)) (d + 1) = true := by simpa using hb42
           have hsn := szL_snoc hx
           have hbd : (szT x : Int) ≤ most - ((1 + szL (l.take k) : Nat) : Int) := by
            have := hmx
            unfold meaT at this
            simp only [Bool.and_eq_true, decide_eq_true_eq] at this
            exact this.1.2
           have hn2 : ((1 + szL (l.take k) : Nat) : Int) + (szT x : Int) = ((1 + szL (l.take (k + 1)) : Nat) : Int) := by omega
           rw [if_pos hmx]
           refine nav ?_
           (refine aC_region ?_ <;> refine xL 43 q_move ?_ <;> refine xL 44 q_move ?_ <;> (refine xL 45 q_add ?_; rw [hn2]) <;> refine xL 8 q_assign ?_ <;> refine aL_end (nav ?_) <;> try dsimp only)
           (refine aC_region ?_ <;> refine xL 46 q_add ?_ <;> refine xL 27 q_move ?_ <;> refine aL_end (nav ?_) <;> try dsimp only)
           refine aN_again (
            ⟨k + 1, by omega, by omega, fun j y hj hy => by
             by_cases e : j = k
             · subst e; rw [hx] at hy; cases hy; exact hmx
             · exact hp2 j y (by omega) hy⟩
            ) (by dsimp only; omega) ⟨rfl, rfl, rfl, rfl, rfl, rfl, trivial⟩ ⟨rfl, trivial⟩))
     · first
       | exact Bool.noConfusion hb28
       | (
        refine nav ?_
        (refine aC_region ?_ <;> refine xL 47 q_move ?_ <;> refine xL 6 q_assign ?_ <;> refine xL 7 q_assign ?_ <;> refine aL_end (nav ?_) <;> try dsimp only)
        refine ret_ss (Tryz.results50) rfl rfl ?_
        have hkl : k = l.length := by omega
        subst hkl
        rw [mea_all (t := .mk o a l) hrt (by omega) (by omega) fun j x hx => hp2 j x (lt_of_get hx) hx]
        rw [List.take_of_length_le (Nat.le_refl _), if_pos rfl, szT])))
theorem tValid_e (t : Nd) (hf : FitT t) : AF Tryz.prog 26 [pTr t] (· = pBool (valT t)) := by
 refine AF.of_body 11 Tryz.func26 rfl Tryz.ntmps26 (Nat.le_of_ble_eq_true rfl) ?_
 intro w0 M0 vs hl hv
 obtain ⟨v0, rfl⟩ := len1 hl
 clear hl hv
 have e0 : pTr t = .agg [pInt t.op, pStr t.act, pTrs t.l] := rfl
 rw [e0]
 refine nav ?_
 (refine aC_region ?_ <;> refine s_boxa 1 3 fun h1 => ?_ <;> refine xL 2 q_assign ?_ <;> refine aL_end (nav ?_) <;> try dsimp only)
 (refine aC_region ?_ <;> (refine yL 6 (q_ldao 1 tAgg24_PtC) fun v6 hv6 => ?_; cases hv6) <;> (refine cP 7 (cA Tryz.call50 (tMeasure_e t hf 400 1 (by omega) (by omega) (by omega) (by omega))) fun va7 vb7 hva7 hvb7 => ?_; cases hva7; cases hvb7) <;> refine xL 5 q_move ?_ <;> refine xL 8 q_extract ?_ <;> refine xL 9 q_extract ?_ <;> refine xL 3 q_assign ?_ <;> refine xL 4 q_assign ?_ <;> refine aL_end (nav ?_) <;> try dsimp only)
 (refine aC_region ?_ <;> refine xL 10 q_move ?_ <;> refine xL 2 q_assign ?_ <;> refine aL_end (nav ?_) <;> try dsimp only)
 exact ret_shr Tryz.results26 rfl rfl
theorem tSize_e (t : Nd) (hf : FitT t) : AF Tryz.prog 27 [pTr t] (· = pInt (if valT t = true then (szT t : Int) else 0)) := by
 refine AF.of_body 11 Tryz.func27 rfl Tryz.ntmps27 (Nat.le_of_ble_eq_true rfl) ?_
 intro w0 M0 vs hl hv
 obtain ⟨v0, rfl⟩ := len1 hl
 clear hl hv
 have e0 : pTr t = .agg [pInt t.op, pStr t.act, pTrs t.l] := rfl
 rw [e0]
 refine nav ?_
 (refine aC_region ?_ <;> refine s_boxa 1 3 fun h1 => ?_ <;> refine xL 2 q_assign ?_ <;> refine aL_end (nav ?_) <;> try dsimp only)
 (refine aC_region ?_ <;> (refine yL 6 (q_ldao 1 tAgg24_PtC) fun v6 hv6 => ?_; cases hv6) <;> (refine cP 7 (cA Tryz.call50 (tMeasure_e t hf 400 1 (by omega) (by omega) (by omega) (by omega))) fun va7 vb7 hva7 hvb7 => ?_; cases hva7; cases hvb7) <;> refine xL 5 q_move ?_ <;> refine xL 8 q_extract ?_ <;> refine xL 9 q_extract ?_ <;> refine xL 3 q_assign ?_ <;> refine xL 4 q_assign ?_ <;> refine aL_end (nav ?_) <;> try dsimp only)
 (refine aC_region ?_ <;> refine xL 10 q_move ?_ <;> refine xL 2 q_assign ?_ <;> refine aL_end (nav ?_) <;> try dsimp only)
 exact ret_shr Tryz.results27 rfl rfl
theorem mea_bd {t : Nd} {most d : Int} (h : meaT t most d = true) : (szT t : Int) ≤ most := by
 unfold meaT at h
 simp only [Bool.and_eq_true, decide_eq_true_eq] at h
 exact h.1.2
def cntT (t : Nd) (d left : Int) : Int := if meaT t left d = true then left - (szT t : Int) else -1
theorem rtCount_e : ∀ (t : Nd), FitT t → ∀ (d left : Int), -4611686018427387904 ≤ left → left ≤ 4611686018427387904 → -4611686018427387904 ≤ d → d ≤ 4611686018427387904 → AF Tryz.prog 44 [pTr t, pInt d, pInt left] (· = pInt (cntT t d left)) := Nd.ind fun o a l ih hf d left hm1 hm2 hd1 hd2 => by
 have hl := hf.len
 have hp := hf.p
 simp only [Nd.l] at hl hp
 refine AF.of_body 41 Tryz.func44 rfl Tryz.ntmps44 (Nat.le_of_ble_eq_true rfl) ?_
 intro w0 M0 vs hl hv
 obtain ⟨v0, v1, v2, rfl⟩ := len3 hl
 obtain rfl := hv 1 _ _ rfl rfl
 obtain rfl := hv 2 _ _ rfl rfl
 clear hl hv
 have e0 : pTr (.mk o a l) = .agg [pInt o, pStr a, .sl l.length (cTrs l)] := rfl
 rw [e0]
 refine nav ?_
 (refine aC_region ?_ <;> refine s_boxa 3 3 fun h3 => ?_ <;> refine xL 6 q_assign ?_ <;> refine aL_end (nav ?_) <;> try dsimp only)
 (refine aC_region ?_ <;> refine xL 8 q_move ?_ <;> refine xL 9 q_leq ?_ <;> refine xL 10 q_move ?_ <;> (refine bLd 10 (fun hb10 => ?_) (fun hb10 => ?_) <;> (first | refine kL 11 ?_ | refine xL 11 q_move ?_)) <;> (first | refine kL 12 ?_ | refine xL 12 q_gtr ?_) <;> refine xL 13 q_pick ?_ <;> refine xL 14 q_move ?_ <;> (first | refine kL 15 ?_ | (refine bLd 14 (fun hb14 => ?_) (fun hb14 => ?_) <;> (first | refine kL 15 ?_ | (refine yL 15 (q_ldao 3 tAgg24_PtC) fun v15 hv15 => ?_; cases hv15)))) <;> (first | refine kL 16 ?_ | (refine cS 16 (cA Tryz.call68 (rtRight_e (.mk o a l) hf)) fun v16 hv16 => ?_; cases hv16)) <;> (first | refine kL 17 ?_ | refine xL 17 q_not ?_) <;> refine xL 18 q_pick ?_ <;> refine aL_end (nav ?_) <;> try dsimp only) <;> (
  (first | refine cCd ?_ ?_ | refine cC ?_ ?_) <;> intro hb18
  · first
    | exact Bool.noConfusion hb18
    | (
     refine nav ?_
     (refine aC_region ?_ <;> refine xL 6 q_assign ?_ <;> refine aL_end (nav ?_) <;> try dsimp only)
     refine ret_shr (Tryz.results44) rfl ?_
     unfold cntT
     rw [mea_no (by first | exact .inl (by omega) | exact .inr (.inl (by omega)) | exact .inr (.inr (by simpa using hb18)))]; rfl)
  · first
    | exact Bool.noConfusion hb18
    | (
     have hrt : rightT (.mk o a l) = true := by simpa using hb18
     have hc0 : left - 1 = left - ((1 + szL (l.take 0) : Nat) : Int) := by simp [szL]
     refine nav ?_
     (refine aC_region ?_ <;> refine xL 19 q_move ?_ <;> (refine xL 20 q_sub ?_; rw [hc0]) <;> refine xL 2 q_assign ?_ <;> refine aL_end (nav ?_) <;> try dsimp only)
     (refine aC_region ?_ <;> refine xL 7 q_assign ?_ <;> refine aL_end (nav ?_) <;> try dsimp only)
     refine aC_loop (ι := { k : Nat // k ≤ l.length ∧ ((1 + szL (l.take k) : Nat) : Int) ≤ left ∧ ∀ j x, j < k → l[j]? = some x → meaT x (left - ((1 + szL (l.take j) : Nat) : Int)) (d + 1) = true }) (fun k => ⟨[(1, _, _), (3, _, _), (7, .int .i64 k.1, pInt k.1), (2, .int .i64 (left - ((1 + szL (l.take k.1) : Nat) : Int)), pInt (left - ((1 + szL (l.take k.1) : Nat) : Int)))], [(3, _, _)]⟩) (fun k => l.length - k.1) ⟨0, by omega, by simp [szL]; omega, by omega⟩ (fun a w H => H.weaken ⟨rfl, rfl, rfl, rfl, trivial⟩ ⟨rfl, trivial⟩) ?_
     rintro ⟨k, hk, hsz, hp2⟩
     dsimp only
     refine nav ?_
     (refine aC_region ?_ <;> refine xL 21 q_move ?_ <;> refine xL 22 (q_fldo 3 tFl24_2_PtC) ?_ <;> (refine yL 23 (q_ldo 3 tNa22_PtC) fun v23 hv23 => ?_; cases hv23) <;> refine xL 24 (q_len tSl22_PtC) ?_ <;> refine xL 25 q_lss ?_ <;> refine aL_end (nav ?_) <;> try dsimp only)
     (first | refine cCd ?_ ?_ | refine cC ?_ ?_) <;> intro hb25
     · first
       | exact Bool.noConfusion hb25
       | (
        obtain ⟨x, hx⟩ := get_some (show k < l.length by omega)
        have hxm := List.mem_of_getElem? hx
        have e1 := tr_drop hx
        have e2 := tr_fit hx
        refine nav ?_
        (refine aC_region ?_ <;> refine xL 28 (q_fldo 3 tFl24_2_PtC) ?_ <;> (refine yL 29 (q_ldo 3 tNa22_PtC) fun v29 hv29 => ?_; cases hv29) <;> refine xL 30 q_move ?_ <;> refine xL 31 (q_idxN tSl22_PtC) ?_ <;> (refine yL 32 (q_lda tAgg24_PtC) fun v32 hv32 => ?_; cases hv32) <;> refine xL 33 q_move ?_ <;> refine xL 34 q_add ?_ <;> refine xL 35 q_move ?_ <;> (refine cS 36 (cA Tryz.call44 (ih x hxm (hp x hxm) (d + 1) (left - ((1 + szL (l.take k) : Nat) : Int)) (by omega) (by omega) (by omega) (by omega))) fun v36 hv36 => ?_; cases hv36) <;> refine xL 2 q_assign ?_ <;> refine aL_end (nav ?_) <;> try dsimp only)
        have hcx : cntT x (d + 1) (left - ((1 + szL (l.take k) : Nat) : Int)) < 0 ↔ meaT x (left - ((1 + szL (l.take k) : Nat) : Int)) (d + 1) = false := by
         unfold cntT
         cases hmx : meaT x (left - ((1 + szL (l.take k) : Nat) : Int)) (d + 1) with
         | true => have := mea_bd hmx; simp; omega
         | false => simp
        (refine aC_region ?_ <;> refine xL 37 q_move ?_ <;> refine xL 38 q_lss ?_ <;> refine aL_end (nav ?_) <;> try dsimp only)
        (first | refine cCd ?_ ?_ | refine cC ?_ ?_) <;> intro hb38
        · first
          | exact Bool.noConfusion hb38
          | (
           refine nav ?_
           (refine aC_region ?_ <;> refine xL 39 q_move ?_ <;> refine xL 6 q_assign ?_ <;> refine aL_end (nav ?_) <;> try dsimp only)
           refine ret_shr (Tryz.results44) rfl ?_
           have hmx := hcx.1 hb38
           unfold cntT
           rw [mea_part (t := .mk o a l) hx hmx, hmx]; rfl)
        · first
          | exact Bool.noConfusion hb38
          | (
           have hmx : meaT x (left - ((1 + szL (l.take k) : Nat) : Int)) (d + 1) = true := by
            cases h : meaT x (left - ((1 + szL (l.take k) : Nat) : Int)) (d + 1) with
            | true => rfl
            | false => exact absurd (hcx.2 h) hb38
           have hsn := szL_snoc hx
           have hbd := mea_bd hmx
           have hn2 : cntT x (d + 1) (left - ((1 + szL (l.take k) : Nat) : Int)) = left - ((1 + szL (l.take (k + 1)) : Nat) : Int) := by
            unfold cntT; rw [if_pos hmx]; omega
           rw [hn2]
           refine nav ?_
           (refine aC_region ?_ <;> refine xL 26 q_move ?_ <;> refine xL 27 q_add ?_ <;> refine xL 7 q_assign ?_ <;> refine aL_end (nav ?_) <;> try dsimp only)
           refine aN_again (
            ⟨k + 1, by omega, by omega, fun j y hj hy => by
             by_cases e : j = k
             · subst e; rw [hx] at hy; cases hy; exact hmx
             · exact hp2 j y (by omega) hy⟩
            ) (by dsimp only; omega) ⟨rfl, rfl, rfl, rfl, trivial⟩ ⟨rfl, trivial⟩))
     · first
       | exact Bool.noConfusion hb25
       | (
        refine nav ?_
        (refine aC_region ?_ <;> refine xL 40 q_move ?_ <;> refine xL 6 q_assign ?_ <;> refine aL_end (nav ?_) <;> try dsimp only)
        refine ret_shr (Tryz.results44) rfl ?_
        have hkl : k = l.length := by omega
        subst hkl
        unfold cntT
        rw [mea_all (t := .mk o a l) hrt (by omega) (by omega) fun j x hx => hp2 j x (lt_of_get hx) hx]
        rw [List.take_of_length_le (Nat.le_refl _), if_pos rfl, szT])))
theorem rtValid_e (t : Nd) (hf : FitT t) : AF Tryz.prog 19 [pTr t] (· = pBool (valT t)) := by
 refine AF.of_body 6 Tryz.func19 rfl Tryz.ntmps19 (Nat.le_of_ble_eq_true rfl) ?_
 intro w0 M0 vs hl hv
 obtain ⟨v0, rfl⟩ := len1 hl
 clear hl hv
 have e0 : pTr t = .agg [pInt t.op, pStr t.act, pTrs t.l] := rfl
 rw [e0]
 refine nav ?_
 (refine aC_region ?_ <;> refine s_boxa 1 3 fun h1 => ?_ <;> refine xL 2 q_assign ?_ <;> refine aL_end (nav ?_) <;> try dsimp only)
 (refine aC_region ?_ <;> (refine yL 3 (q_ldao 1 tAgg24_PtC) fun v3 hv3 => ?_; cases hv3) <;> (refine cS 4 (cA Tryz.call44 (rtCount_e t hf 1 400 (by omega) (by omega) (by omega) (by omega))) fun v4 hv4 => ?_; cases hv4) <;> refine xL 5 q_geq ?_ <;> refine xL 2 q_assign ?_ <;> refine aL_end (nav ?_) <;> try dsimp only)
 refine ret_shr (Tryz.results19) rfl (bool_val ?_)
 rw [decide_eq_true_eq]
 unfold cntT valT
 cases h : meaT t 400 1 with
 | true => have := mea_bd h; simp; omega
 | false => simp
end Go.Proofs.YtbfilfhgcihhoaaGreatDoor
namespace Go.En
open Go.RowKit Go.Cb Go.Proofs Go.Sort
set_option linter.all false
section
variable {P : Program} {c : Ctx} {ops : Array Oper} {Q : Exit → Act → World → Prop} {rest : List Oper} {sL hP : List (Nat × Ent)} {o : Oper}
end
open Go.RowKit Go.Cb
section
variable {P : Program} {c : Ctx} {ops : Array Oper} {Q : Exit → Act → World → Prop} {rest : List Oper} {st : St} {sL hP : List (Nat × Ent)} {o : Oper}
theorem slc_own {w : World} {e k n m : Nat} {h : Value} {xs : List Value} (hrow : w.ownsRow 0 e k h n xs) (hm : m ≤ n) : w.ownsRow 0 e k (slc h 0 m k) m (xs.take (m * k)) ∧ (slc h 0 m k).ownBlock = h.ownBlock := by
 rcases hrow.2 with ⟨rfl, rfl⟩ | ⟨g, cap, cur, rfl, hg, hh, h1, h2, h3, h4⟩
 · obtain rfl : m = 0 := by omega
   refine ⟨⟨by simp, .inl ⟨by simp [slc], rfl⟩⟩, by simp [slc]⟩
 · have hs : slc (.slice (some ⟨g, 0, none⟩) n cap) 0 m k = .slice (some ⟨g, 0, none⟩) m cap := by
    simp only [slc, Nat.zero_mul, Option.map_some, add_none, Nat.add_zero, Nat.sub_zero, ite_self]
   rw [hs]
   refine ⟨⟨?_, .inr ⟨g, cap, cur, rfl, hg, hh, by omega, h2, h3, ?_⟩⟩, rfl⟩
   · rw [List.length_take, hrow.1]; exact Nat.min_eq_left (Nat.mul_le_mul_right k hm)
   · rw [← h4, List.take_take, Nat.min_eq_left (Nat.mul_le_mul_right k hm)]
theorem trim {l e k n : Nat} {h : Value} {cs : List PV} (m : Nat) (hl : lk hP l = some (h, .own e k n cs)) (hm : m ≤ n) : EntE (⟨sL, hP⟩ : St) (fun _ : Unit => ⟨sL, put l (slc h 0 m k, .own e k m (cs.take (m * k))) hP⟩) := fun c a w ⟨F, H⟩ => by
 have hTr := H.tr l _ _ hl
 obtain ⟨xs, Fs, hrow, hlen, hT, hd, hb, hF⟩ := hTr.row
 obtain ⟨hrow', hown⟩ := slc_own hrow hm
 refine ⟨(), fun x => if x = l then (fun b => h.ownBlock = some b ∨ ∃ i, i < (cs.take (m * k)).length ∧ Fs i b) else F x, ?_⟩
 have hle : (cs.take (m * k)).length ≤ cs.length := by rw [List.length_take]; exact Nat.min_le_right _ _
 refine H.retell (fun x => x = l) (fun x y hnT hx => ?_) (fun x y b hTx hx hb' => ?_) (fun hmm x u q hTx hx => ?_) (fun x1 x2 y1 y2 b h1 h2 hne' => absurd (h1.trans h2.symm) hne')
 · have n1 : x ≠ l := hnT
   rw [lk_put_ne (Ne.symm n1)] at hx
   exact ⟨hx, by simp [n1]⟩
 · subst hTx
   simp only [if_true] at hb'
   refine ⟨x, _, rfl, hl, (hF b).2 ?_⟩
   rcases hb' with h1 | ⟨i, hi, h1⟩
   · exact .inl h1
   · exact .inr ⟨i, by omega, h1⟩
 · subst hTx
   rw [lk_put_self] at hx
   cases hx
   simp only [if_true]
   refine .own _ Fs hrow' (by rw [List.length_take, List.length_take, hlen]) (fun i x p hx9 hp => ?_) (fun i j b hi hj => hd i j b (by omega) (by omega)) (fun i b hi h1 h2 => hb i b (by omega) h1 (by rw [← hown]; exact h2)) (fun b => by rw [hown])
   have hi : i < m * k := by have := lt_of_get hx9; rw [List.length_take] at this; omega
   rw [List.getElem?_take_of_lt hi] at hx9 hp
   exact (hT i x p hx9 hp).anti hmm
theorem q_lennil {t e k : Nat} {x : Operand} {q : PV} (hT : SlT P t e k = true) (ho : o.op = .call { callee := .builtin .len, args := #[x], argTypes := #[t] } := by exact rfl) (hx : ev st.slots x = some (.slice none 0 0, q) := by exact rfl) : YE P st o (· = .int .i64 0) (.val (.int .i64 0)) :=
 y1 hx (fun _ _ _ => .val _) fun ρ w h => by
  simp [execOp, ho, h, resolve, invoke, builtin, Builtin.len_, run_underlying (SlT.und hT), goInt]
theorem s_apps {t e kk bytes n m : Nat} {z : Value} {x y : Operand} {h v2 : Value} {q : PV} {cs cs2 : List PV} (l d : Nat) (hT : ElT P t e kk bytes z) (k : ∀ h' : Value, h'.oneCell' = true → aL P c ops Q rest ⟨put d (h', .val h') sL, put d (h', .own e kk (n + m) (cs ++ cs2)) (del l hP)⟩)
 (hlen2 : cs2.length = m * kk := by first | assumption | exact rfl) (hok : cs2.all one = true := by first | assumption | exact rfl) (hw : wants ops sL o = some true := by exact rfl) (hd : o.dst = some d := by exact rfl) (hn : d < c.nt := by exact Nat.le_of_ble_eq_true rfl) (ho : o.op = .call { callee := .builtin .append, args := #[x, y], argTypes := #[t, t] } := by exact rfl)
 (hx : ev sL x = some (h, q) := by exact rfl) (hy : ev sL y = some (v2, .sl m cs2) := by exact rfl) (hl : lk hP l = some (h, .own e kk n cs) := by exact rfl) (hdl : lk (del l hP) d = none := by exact rfl) (hlen : n + m ≤ 9223372036854775807 := by first | omega | exact Nat.le_of_ble_eq_true rfl | (simp only [List.length_cons, List.length_nil, List.length_map, List.length_set, List.length_append, List.length_replicate, List.length_singleton, List.flatMap_cons, List.flatMap_nil]; omega)) (hb : (n + m) * bytes ≤ 140737488355328 := by first | omega | exact Nat.le_of_ble_eq_true rfl | (simp only [List.length_cons, List.length_nil, List.length_map, List.length_set, List.length_append, List.length_replicate, List.length_singleton, List.flatMap_cons, List.flatMap_nil]; omega)) (hdr : ¬ c.dr := by exact id) : aL P c ops Q (o :: rest) (⟨sL, hP⟩ : St) := fun a w ⟨F, H⟩ => by
 have h1 : h.oneCell' = true := (H.tr l _ _ hl).cellOne rfl
 rcases Nat.eq_zero_or_pos m with h0 | h0
 · subst h0
   have : cs2 = [] := List.eq_nil_of_length_eq_zero (by rw [hlen2, Nat.zero_mul])
   subst this
   refine aL_app0 l d hT hw hd hn ho hx hy hl (aL_ent (relabel d hl hdl) fun _ => ?_) a w ⟨F, H⟩
   have := k h h1
   rw [List.append_nil] at this
   exact this
 · exact aL_app_src l d hT hw hd hn ho hx hy hl (src_shr hy h0) hlen2 hdl hok hlen hb hdr k a w ⟨F, H⟩
end
section
variable {P : Program} {c : Ctx} {ops : Array Oper} {Q : Exit → Act → World → Prop} {rest : List Oper} {sL hP : List (Nat × Ent)} {o : Oper}
theorem put_takeI {α : Type} [Inhabited α] (enc : α → Value) (f : Array α) (cur : Array Value) (h : f.size ≤ cur.size) : (putCells enc 0 f cur).toList.take f.size = f.toList.map enc := by
 apply List.ext_getElem?
 intro j
 by_cases hj : j < f.size
 · rw [List.getElem?_take_of_lt hj]
   have hjc : j < cur.size := by omega
   simp [putCells, hj, hjc]
 · rw [List.getElem?_eq_none (by simp; omega), List.getElem?_eq_none (by simp; omega)]
end
theorem ext_grow {w w' : World} (h : Ext w w') (hd : w.drawn ≤ w'.drawn) : ∃ q os', w' = Go.Sort.grow (w.drewN q) os' := by
 refine ⟨w'.drawn - w.drawn, w'.heap.extract w.heap.size w'.heap.size, ?_⟩
 have hh : w'.heap = w.heap ++ w'.heap.extract w.heap.size w'.heap.size := by
  apply Array.ext_getElem?
  intro i
  rcases Nat.lt_or_ge i w.heap.size with hi | hi
  · rw [Array.getElem?_append_left hi]; exact Below.block h i hi
  · rw [Array.getElem?_append_right hi, Array.getElem?_extract]
    have hs := h.size
    rcases Nat.lt_or_ge i w'.heap.size with hi2 | hi2
    · rw [if_pos (by simp; omega), show w.heap.size + (i - w.heap.size) = i by omega]
    · rw [Array.getElem?_eq_none hi2, if_neg (by simp; omega)]
 have h1 := h.os
 have h2 := h.tape
 have h3 := h.output
 cases w' with
 | mk heap' tape' drawn' os' output' =>
   simp only at h1 h2 h3 hh hd
   simp only [Go.Sort.grow, World.drewN]
   rw [← hh, h1, h2, h3, show w.drawn + (drawn' - w.drawn) = drawn' by omega]
theorem AFg.exact {P : Program} {g : Nat} {ps : List PV} {x : Value} (h : AFg P g ps (· = .val x)) {M : BS} {W : World} {vs : List Value} (hl : vs.length = ps.length) (hv : ∀ (i : Nat) (v : Value) (p : PV), vs[i]? = some v → ps[i]? = some p → Shr M W v p) :
 Calls P g vs.toArray W fun e w' => e = .returned x ∧ ∃ q os', w' = Go.Sort.grow (W.drewN q) os' :=
 (h (fun _ => False) W vs (M0k.true W) hl (fun i v p h1 h2 => (hv i v p h1 h2).anti fun _ _ h => h.elim)).mono fun e w' ⟨v, p, F, h1, h2, h3, h4, _, h6⟩ => by
   subst h2
   have := (h4.sh rfl).vOf
   subst this
   exact ⟨h1, ext_grow h3 (h6 trivial)⟩
section
variable {P : Program} {c : Ctx} {ops : Array Oper} {Q : Exit → Act → World → Prop} {rest : List Oper} {sL hP : List (Nat × Ent)} {o : Oper}
end
open Go.ChangeMaps (setBlock)
def itv (r : Nat) : Value := .pointer (some ⟨r, 0, none⟩)
def itP (b r clock : Nat) (es : Array MapEntry) (seen : Array Nat) : PV := .oblk (itv r) r (.mapIter (some b) clock seen clock) [(b, .map es clock)]
def itE (b r clock : Nat) (es : Array MapEntry) (seen : Array Nat) : Ent := (itv r, itP b r clock es seen)
theorem Tr.blk {M : BS} {w : World} {v u : Value} {r : Nat} {ob : Obj} {sh : List (Nat × Obj)} {F : BS} (H : Tr M w v (.oblk u r ob sh) F) : w.heap[r]? = some ob ∧ (∀ p ∈ sh, w.heap[p.1]? = some p.2 ∧ ¬ M p.1) ∧ ∀ x, F x ↔ x = r := by
 cases H with
 | shr h _ => cases h
 | oblk _ h1 h hs hF => exact ⟨h, hs, hF⟩
section
variable {P : Program} {c : Ctx} {ops : Array Oper} {Q : Exit → Act → World → Prop} {rest : List Oper} {sL hP : List (Nat × Ent)} {o : Oper}
theorem aL_range {t ks e : Nat} {x : Operand} {m : Value} {kv : List (Value × Value)} (d : Nat) (ht : P.underlying t = some (.map ks e)) (k : ∀ (b r clock : Nat) (es : Array MapEntry), kv = kvOf es → WfM es clock → aL P c ops Q rest ⟨put d (itv r, .val (itv r)) sL, put d (itE b r clock es #[]) hP⟩)
 (hw : wants ops sL o = some true := by exact rfl) (hd : o.dst = some d := by exact rfl) (hn : d < c.nt := by exact Nat.le_of_ble_eq_true rfl) (ho : o.op = .range t x := by exact rfl) (hx : ev sL x = some (m, .smap kv) := by exact rfl) (hl : lk hP d = none := by exact rfl) : aL P c ops Q (o :: rest) (⟨sL, hP⟩ : St) :=
 aL_run hw fun a w F H => by
  obtain ⟨hv, hS⟩ := H.rd.ev hx
  cases hS with
  | smap b es clock hM h hW =>
    have key : HoldsF c ⟨put d (itv w.heap.size, .val (itv w.heap.size)) sL, put d (itE b w.heap.size clock es #[]) hP⟩ (fun l' => if l' = d then (fun x => x = w.heap.size) else F l') (a.put (some d) (itv w.heap.size)) (w.alloc (.mapIter (some b) clock #[] clock)) := by
     refine H.change (fun l' => l' = d) hn ((Ext.alloc _ _).chg) (fun l' x hne hx' => ?_) (fun l' x b' hT hx' hb => ?_) (fun hm l' u q hT hx' => ?_) (fun l1 l2 _ _ _ h1 h2 hne => absurd (h1.trans h2.symm) hne) (fun hm => .val _)
     · rcases lk_put hx' with ⟨e1, _⟩ | ⟨_, e1⟩
       · exact absurd e1.symm hne
       · exact ⟨e1, by simp [hne]⟩
     · subst hT
       simp only [if_true] at hb
       exact .inr (by rw [hb]; exact Nat.le_refl _)
     · subst hT
       rw [lk_put_self] at hx'
       unfold itE itP at hx'
       cases hx'
       simp only [if_true]
       refine .oblk w.heap.size rfl ?_ (fun p hp => ?_) (fun x => Iff.rfl)
       · show (w.heap.push _)[w.heap.size]? = _
         simp
       · rw [List.mem_singleton] at hp
         subst hp
         exact ⟨(Ext.alloc w _).block h, fun hb => hM (hm b (blk_lt h) hb)⟩
    have hrun : (execOp a.eval o).run P w = .ok (.value (itv w.heap.size)) (w.alloc (.mapIter (some b) clock #[] clock)) := by
     simp [execOp, ho, hv, Instr.range, run_underlying ht, getObj, newObj, Sem.run, h, itv]
    unfold Oper.wp
    rw [hrun, Oper.upon_value, hd]
    exact k _ _ _ _ rfl hW _ _ ⟨_, key⟩
theorem aL_next {x : Operand} {q : PV} {b r clock : Nat} {es : Array MapEntry} {seen : Array Nat} (l d : Nat) (hW : WfM es clock)
 (k0 : leftOf es seen = #[] → aL P c ops Q rest ⟨put d (.tuple [.bool false].toArray, .tup [.val (.bool false)]) sL, hP⟩)
 (k1 : ∀ e ∈ (leftOf es seen).toList, aL P c ops Q rest ⟨put d (.tuple [.bool true, e.key, e.val].toArray, .tup [.val (.bool true), .val e.key, .val e.val]) sL, put l (itE b r clock es (seen.push e.born)) hP⟩)
 (hw : wants ops sL o = some true := by exact rfl) (hd : o.dst = some d := by exact rfl) (hn : d < c.nt := by exact Nat.le_of_ble_eq_true rfl) (ho : o.op = .next x false := by exact rfl) (hx : ev sL x = some (itv r, q) := by exact rfl) (hl : lk hP l = some (itE b r clock es seen) := by exact rfl) : aL P c ops Q (o :: rest) (⟨sL, hP⟩ : St) :=
 aL_run hw fun a w F H => by
  have hv := (H.rd.ev hx).1
  obtain ⟨h, hs, hF⟩ := (H.tr l _ _ hl).blk
  obtain ⟨hb, hMb⟩ := hs (b, .map es clock) (by simp)
  dsimp only at hb hMb
  rcases run_next_at (P := P) w o.type r b clock clock seen es clock h hb (fun x hx => hW.1 x hx) (Nat.le_refl _) with ⟨h0, hr⟩ | ⟨e, he, w1, hw1, hr⟩
  · have hrun : (execOp a.eval o).run P w = .ok (.value (.tuple [.bool false].toArray)) w := by
     simp [execOp, ho, hv, itv, hr]
    unfold Oper.wp
    rw [hrun, Oper.upon_value, hd]
    refine k0 (Array.eq_empty_of_size_eq_zero h0) _ _ ⟨F, H.put hn (.tup _ _ rfl fun i x p hx hp => ?_)⟩
    match i with
    | 0 => simp at hx hp; subst hx hp; exact .val _
    | i + 1 => simp at hx
  · have hrun : (execOp a.eval o).run P w = .ok (.value (.tuple [.bool true, e.key, e.val].toArray)) (setBlock w1 r (.mapIter (some b) clock (seen.push e.born) clock)) := by
     simp [execOp, ho, hv, itv, hr]
    unfold Oper.wp
    rw [hrun, Oper.upon_value, hd]
    have hlt := blk_lt h
    have hh : w1.heap = w.heap := by rcases hw1 with rfl | rfl <;> rfl
    have hbr : b ≠ r := fun e => by subst e; exact hMb (.inr ⟨l, _, hl, (hF b).2 rfl⟩)
    have hch : Chg (fun x => x = r) w (setBlock w1 r (.mapIter (some b) clock (seen.push e.born) clock)) := by
     refine ⟨by rcases hw1 with rfl | rfl <;> rfl, by rcases hw1 with rfl | rfl <;> rfl, by rcases hw1 with rfl | rfl <;> rfl, ?_, fun i hi hne => ?_⟩
     · show _ ≤ (w1.heap.setIfInBounds r _).size
       rw [hh]; simp
     · show (w1.heap.setIfInBounds r _)[i]? = _
       rw [hh, Array.getElem?_setIfInBounds_ne (fun e => hne e.symm)]
    refine k1 e he _ _ ⟨F, H.change (fun l' => l' = l) hn (hch.wid fun x hx => .inl ⟨l, _, rfl, hl, (hF x).2 hx⟩) (fun l' x hne hx' => ?_) (fun l' x b' hT' hx' hb' => ?_) (fun hmm l' u q hT' hx' => ?_) (fun l1 l2 _ _ _ h1 h2 hne => absurd (h1.trans h2.symm) hne) (fun _ => .tup _ _ rfl fun i x p hx hp => ?_) (fun _ => ?_)⟩
    · rcases lk_put hx' with ⟨e1, _⟩ | ⟨_, e1⟩
      · exact absurd e1.symm hne
      · exact ⟨e1, rfl⟩
    · subst hT'; exact .inl ⟨l', _, rfl, hl, hb'⟩
    · subst hT'
      rw [lk_put_self] at hx'
      unfold itE itP at hx'
      cases hx'
      refine .oblk r rfl ?_ (fun p hp => ?_) hF
      · show (w1.heap.setIfInBounds r _)[r]? = _
        rw [hh]; simp [hlt]
      · rw [List.mem_singleton] at hp
        subst hp
        exact ⟨(hch.block b (blk_lt hb) hbr).trans hb, fun hm => hMb (hmm b (blk_lt hb) hm)⟩
    · match i with
      | 0 => simp at hx hp; subst hx hp; exact .val _
      | 1 => simp at hx hp; subst hx hp; exact .val _
      | 2 => simp at hx hp; subst hx hp; exact .val _
      | i + 3 => simp at hx
    · rcases hw1 with rfl | rfl
      · exact Nat.le_refl _
      · exact Nat.le_succ _
theorem q_entry {st : St} {x : Operand} {q : PV} {b r clock : Nat} {es : Array MapEntry} {seen : Array Nat} {e : MapEntry} (l : Nat) (hW : WfM es clock) (he : e ∈ es.toList) (ho : o.op = .entry x := by exact rfl) (hx : ev st.slots x = some (itv r, q) := by exact rfl) (hl : lk st.heap l = some (itE b r clock es (seen.push e.born)) := by exact rfl) : YE P st o (· = .tuple [e.key, e.val].toArray) (.tup [.val e.key, .val e.val]) := .exact fun M F a w H => by
 have hv := (H.ev hx).1
 obtain ⟨h, hs, hF⟩ := (H.tr l _ _ hl).blk
 obtain ⟨hb, hMb⟩ := hs (b, .map es clock) (by simp)
 have hr := run_entry_at (P := P) w r b clock seen es clock e h hb he hW.2
 refine ⟨.tup _ _ rfl fun i x p hx hp => ?_, by simp [execOp, ho, hv, itv, hr]⟩
 match i with
 | 0 => simp at hx hp; subst hx hp; exact .val _
 | 1 => simp at hx hp; subst hx hp; exact .val _
 | i + 2 => simp at hx
end
theorem left_all (es : Array MapEntry) : leftOf es #[] = es := by
 unfold leftOf
 exact Array.filter_eq_self.2 fun x _ => by simp
theorem left_mem {es : Array MapEntry} {seen : Array Nat} {e : MapEntry} (h : e ∈ (leftOf es seen).toList) : e ∈ es.toList := by
 unfold leftOf at h
 rw [Array.toList_filter] at h
 exact (List.mem_filter.1 h).1
theorem split_one {e : MapEntry} : ∀ {L : List MapEntry}, (L.map (·.born)).Nodup → e ∈ L → L.Perm (e :: L.filter fun x => !(x.born == e.born))
 | a :: L, hn, he => by
   rw [List.map_cons, List.nodup_cons] at hn
   rcases List.mem_cons.1 he with rfl | he
   · rw [List.filter_cons_of_neg (by simp)]
     rw [List.filter_eq_self.2 fun x hx => ?_]
     have : x.born ≠ e.born := fun h => hn.1 (List.mem_map.2 ⟨x, hx, h⟩)
     simpa using this
   · have : a.born ≠ e.born := fun h => hn.1 (List.mem_map.2 ⟨e, he, h.symm⟩)
     rw [List.filter_cons_of_pos (by simpa using this)]
     exact ((split_one hn.2 he).cons a).trans (List.Perm.swap _ _ _)
theorem left_next {es : Array MapEntry} {seen : Array Nat} {e : MapEntry} {clock : Nat} (hW : WfM es clock) (he : e ∈ (leftOf es seen).toList) : (kvOf (leftOf es seen)).Perm ((e.key, e.val) :: kvOf (leftOf es (seen.push e.born))) := by
 have h1 : ((leftOf es seen).toList.map (·.born)).Nodup := by
  unfold leftOf
  rw [Array.toList_filter]
  exact hW.2.sublist (List.filter_sublist.map _)
 have h2 := (split_one h1 he).map fun x => (x.key, x.val)
 unfold kvOf
 refine h2.trans ?_
 rw [List.map_cons]
 refine List.Perm.cons _ (List.Perm.of_eq ?_)
 congr 1
 unfold leftOf
 rw [Array.toList_filter, Array.toList_filter, List.filter_filter]
 refine List.filter_congr fun x _ => ?_
 rw [Array.contains_push]
 cases seen.contains x.born <;> simp [Bool.beq_comm]
def ArrT (P : Program) (t len : Nat) : Bool := match P.underlying t with
 | some (.array n e) => Nat.beq n len && (match P.info? e with | some i => Nat.beq i.size 1 | none => false)
 | _ => false
theorem ArrT.run {P : Program} {t len : Nat} (h : ArrT P t len = true) : ∃ e i, P.underlying t = some (.array len e) ∧ P.info? e = some i ∧ i.size = 1 := by
 unfold ArrT at h
 split at h
 · rename_i n e hu
   rw [Bool.and_eq_true] at h
   obtain ⟨h1, h2⟩ := h
   split at h2
   · rename_i i hi
     have e1 := Nat.eq_of_beq_eq_true h1
     subst e1
     exact ⟨e, i, hu, hi, Nat.eq_of_beq_eq_true h2⟩
   · cases h2
 · cases h
section
variable {P : Program} {st : St} {o : Oper}
end
abbrev Pr := ByteArray × ByteArray
def pkey (k : Pr) : Value := .agg #[.string k.1, .string k.2]
def prOk (k : Pr) : Prop := k.1.size ≤ 140737488355328 ∧ k.2.size ≤ 140737488355328
structure PkT (P : Program) (t ks s e : Nat) (z : Value) : Prop where
 ht : P.underlying t = some (.map ks e)
 hu : P.underlying ks = some (.array 2 s)
 hs : P.underlying s = some .string
 hk : P.keyType ks = true
 hk2 : P.keyTypeAt 2 ks = true
 hti : P.tiled 2 ks = true
 hc2 : P.cellsOf ks = 2
 hc1 : P.cellsOf s = 1
 hf : ∀ a b : ByteArray, (Value.agg #[.string a, .string b]).formed P ks = true
 hsz : ∃ n, P.types.size = n + 1
 hz : ZeroT P e z
theorem PkT.law {P : Program} {t ks s e : Nat} {z : Value} (h : PkT P t ks s e z) : WideMaps.KeyLaw P ks := deep_law (m := 2) (by decide) h.hk2 h.hti (by rw [h.hu])
theorem PkT.key {P : Program} {t ks s e : Nat} {z : Value} (h : PkT P t ks s e z) {k : Pr} (hk : prOk k) : ∃ l, keyOf P ks (pkey k) = some l := by
 obtain ⟨n, hn⟩ := h.hsz
 have hl : ∀ c : ByteArray, c.size ≤ 140737488355328 → P.keyLits (n + 1) s [.string c] = some [.string c.data.toList] := fun c hc => by
  unfold Program.keyLits
  rw [h.hs]
  dsimp only
  rw [if_pos (Nat.le_trans hc (by decide))]
 unfold keyOf
 rw [h.hu]
 dsimp only
 rw [h.hk, show (pkey k).formed P ks = true from h.hf _ _, hn]
 refine ⟨.string (keyBytes [.string k.1.data.toList, .string k.2.data.toList]), ?_⟩
 rw [if_pos (show (true && true) = true from rfl)]
 unfold Program.keyLits
 rw [h.hu]
 dsimp only [pkey, Value.cells]
 rw [h.hc2, h.hc1]
 rw [if_pos (by rfl)]
 rw [show List.range 2 = [0, 1] from rfl]
 simp only [List.mapM_cons, List.mapM_nil, Nat.zero_mul, Nat.one_mul, List.drop_zero, List.drop_succ_cons, List.take_succ_cons, List.take_zero, hl _ hk.1, hl _ hk.2]
 rfl
section
variable {P : Program} {c : Ctx} {ops : Array Oper} {Q : Exit → Act → World → Prop} {rest : List Oper} {sL hP : List (Nat × Ent)} {o : Oper}
end
section
variable {P : Program} {c : Ctx} {ops : Array Oper} {Q : Exit → Act → World → Prop} {rest : List Oper} {sL hP : List (Nat × Ent)} {o : Oper}
end
def RetH (c : Ctx) (R : Value → PV → List (Nat × Ent) → Prop) (e : Ending) (w' : World) : Prop := ∃ v p h F, e = .returned v ∧ R v p h ∧ HeapF c h F w' ∧ Shr (mof c h F) w' v p
def AFh (dd : Prop) (P : Program) (f : FuncId) (ar h : List (Nat × Ent)) (R : Value → PV → List (Nat × Ent) → Prop) : Prop :=
 ∀ (M N : BS) (w : World) (F : Nat → BS), HeapF ⟨w, M, N, 0, dd, []⟩ h F w → (∀ i x, lk ar i = some x → Shr (mof ⟨w, M, N, 0, dd, []⟩ h F) w x.1 x.2) → Calls P f (ar.map (·.2.1)).toArray w (RetH ⟨w, M, N, 0, dd, []⟩ R)
theorem HeapF.nt {c c' : Ctx} {h : List (Nat × Ent)} {F : Nat → BS} {w : World} (H : HeapF c h F w) (h0 : c'.w0 = c.w0) (h1 : c'.M0 = c.M0) (h2 : c'.N0 = c.N0) (h3 : c'.dr → c.dr) (hm : M0k c'.w0 c'.M0 c'.N0 c'.dr) : HeapF c' h F w := by
 obtain ⟨w0, M0, N0, nt, dr, df⟩ := c
 obtain ⟨w0', M0', N0', nt', dr'⟩ := c'
 simp only at h0 h1 h2 h3
 subst h0 h1 h2
 exact ⟨H.tr, H.lo, H.dj, hm, H.ext, fun h => H.dw (h3 h)⟩
def inOrder : Nat → List (Nat × Ent) → Bool
 | _, [] => true
 | i, (j, _) :: l => Nat.beq i j && inOrder (i + 1) l
theorem inOrder_lk : ∀ (l : List (Nat × Ent)) (i t : Nat) (x : Ent), inOrder i l = true → lk l t = some x → i ≤ t ∧ (l.map (·.2.1))[t - i]? = some x.1
 | [], _, _, _, _, h => by simp [lk] at h
 | (j, y) :: l, i, t, x, ho, h => by
   simp only [inOrder, Bool.and_eq_true] at ho
   obtain ⟨h1, h2⟩ := ho
   have h1 := Nat.eq_of_beq_eq_true h1
   subst h1
   simp only [lk] at h
   cases hb : Nat.beq i t
   · rw [hb] at h
     obtain ⟨h3, h4⟩ := inOrder_lk l (i + 1) t x h2 h
     have : t - i = (t - (i + 1)) + 1 := by omega
     exact ⟨by omega, by rw [this]; simpa using h4⟩
   · rw [hb] at h
     have : i = t := Nat.eq_of_beq_eq_true hb
     subst this
     cases h
     simp
theorem inOrder_lk' : ∀ (l : List (Nat × Ent)) (i t : Nat) (x : Ent), inOrder i l = true → lk l t = some x → i ≤ t ∧ (l[t - i]?).map (·.2) = some x
 | [], _, _, _, _, h => by simp [lk] at h
 | (j, y) :: l, i, t, x, ho, h => by
   simp only [inOrder, Bool.and_eq_true] at ho
   obtain ⟨h1, h2⟩ := ho
   have h1 := Nat.eq_of_beq_eq_true h1
   subst h1
   simp only [lk] at h
   cases hb : Nat.beq i t
   · rw [hb] at h
     obtain ⟨h3, h4⟩ := inOrder_lk' l (i + 1) t x h2 h
     have : t - i = (t - (i + 1)) + 1 := by omega
     exact ⟨by omega, by rw [this]; simpa using h4⟩
   · rw [hb] at h
     have : i = t := Nat.eq_of_beq_eq_true hb
     subst this
     cases h
     simp
section
variable {P : Program}
theorem AFh.of_body {dd : Prop} {f : FuncId} {fn : Func} {code : Code} {ar h : List (Nat × Ent)} {R : Value → PV → List (Nat × Ent) → Prop} (nt : Nat) (hf : P.funcs[f]? = some fn) (hb : fn.body = some code) (hnt : fn.ntmps = nt) (hn : ar.length ≤ nt) (ho : inOrder 0 ar = true)
 (H : ∀ (w0 : World) (M0 N0 : BS), aC P ⟨w0, M0, N0, nt, dd, []⟩ code (bodyPost P fn (RetH ⟨w0, M0, N0, nt, dd, []⟩ R)) ⟨ar, h⟩) : AFh dd P f ar h R := fun M N w F HF hv => by
 subst hnt
 refine calls_of_wp hf hb ?_
 refine wp_mono (H w M N _ w ⟨F, ⟨HF.nt rfl rfl rfl id HF.m0, fun t v p ht => ?_, ?_, rfl⟩⟩) fun e a w' hq => ?_
 · obtain ⟨_, h1⟩ := inOrder_lk ar 0 t (v, p) ho ht
   refine ⟨?_, hv t (v, p) ht⟩
   simp only [Nat.sub_zero] at h1
   have := lt_of_get h1
   rw [Array.getElem?_append_left (by simpa using this)]
   simpa using h1
 · simp; omega
 · have key : ∀ e w', RetH ⟨w, M, N, fn.ntmps, dd, []⟩ R e w' → RetH ⟨w, M, N, 0, dd, []⟩ R e w' := fun _ _ ⟨v', p, h', F', h3, h4, h5, h6⟩ => ⟨v', p, h', F', h3, h4, h5.nt rfl rfl rfl id h5.m0, h6⟩
   cases e with
   | ret => obtain ⟨h1, v, h2, h3⟩ := hq; exact ⟨h1, v, h2, key _ _ h3⟩
   | normal => obtain ⟨h1, v, h2, h3⟩ := hq; exact ⟨h1, v, h2, key _ _ h3⟩
   | panic ch => obtain ⟨h1, h3⟩ := hq; exact ⟨h1, key _ _ h3⟩
   | outgrown => exact key _ _ hq
   | _ => exact hq.elim
end
section
variable {P : Program} {c : Ctx} {ops : Array Oper} {Q : Exit → Act → World → Prop} {rest : List Oper} {sL hP : List (Nat × Ent)} {o : Oper}
theorem ret_h {fn : Func} {R : Value → PV → List (Nat × Ent) → Prop} {t : Nat} {v : Value} {p : PV} (h : List (Nat × Ent)) (hr : fn.results = #[.tmp t]) (ht : lk sL t = some (v, p)) (hs : Sub h hP) (hR : R v p h) (hdf : c.df = [] := by exact rfl) : aR c (bodyPost P fn (RetH c R)) (⟨sL, hP⟩ : St) := fun a w ⟨F, H0⟩ => by
 have H : HoldsF c (⟨sL, h⟩ : St) F a w := H0.less (fun _ _ h => h) fun t x hx => hs.lk hx
 obtain ⟨h1, h2⟩ := H.sl t v p ht
 refine ⟨H.df.trans hdf, v, ?_, v, p, h, F, rfl, hR, H.toHeapF, h2⟩
 simp [results, hr, Array.getD_eq_getD_getElem?, h1]
theorem ret_h0 {fn : Func} {R : Value → PV → List (Nat × Ent) → Prop} (h : List (Nat × Ent)) (hr : fn.results = #[]) (hs : Sub h hP) (hR : R (.tuple #[]) (.val (.tuple #[])) h) (hdf : c.df = [] := by exact rfl) : aR c (bodyPost P fn (RetH c R)) (⟨sL, hP⟩ : St) := fun a w ⟨F, H0⟩ => by
 have H : HoldsF c (⟨sL, h⟩ : St) F a w := H0.less (fun _ _ h => h) fun t x hx => hs.lk hx
 refine ⟨H.df.trans hdf, .tuple #[], ?_, .tuple #[], .val (.tuple #[]), h, F, rfl, hR, H.toHeapF, .val _⟩
 simp [results, hr]
theorem end_h0 {fn : Func} {R : Value → PV → List (Nat × Ent) → Prop} (h : List (Nat × Ent)) (hr : fn.results = #[]) (hs : Sub h hP) (hR : R (.tuple #[]) (.val (.tuple #[])) h) (hdf : c.df = [] := by exact rfl) : aN c (bodyPost P fn (RetH c R)) (⟨sL, hP⟩ : St) := ret_h0 h hr hs hR hdf
theorem aL_chE {dd : Prop} {f : Nat} {ar : List (Nat × Ent)} {R : Value → PV → List (Nat × Ent) → Prop} (K : List Nat) (d : Nat) (hw : wants ops sL o = some true) (hd : o.dst = some d) (hn : d < c.nt)
 (hE : ∀ a w F, HoldsF c (⟨sL, hP⟩ : St) F a w → (execOp a.eval o).run P w = .ok (.enter f (ar.map (·.2.1)).toArray) w ∧ ∀ (i : Nat) (x : Value) (q : PV), ((ar.map (·.2)).map (·.1))[i]? = some x → ((ar.map (·.2)).map (·.2))[i]? = some q → Shr (mof c hP F) w x q)
 (hA : AFh dd P f ar (minusK K hP) R) (hio : inOrder 0 ar = true) (hdd : c.dr → dd)
 (k : ∀ v p h, R v p h → aL P c ops Q rest ⟨put d (v, p) sL, h ++ onlyK K hP⟩) : aL P c ops Q (o :: rest) (⟨sL, hP⟩ : St) :=
 aL_run hw fun a w F H => by
  obtain ⟨hr, h2⟩ := hE a w F H
  have hfr := H.frame K
  have hin : ∀ b, mof ⟨w, fun b => c.M0 b ∨ ∃ l x, K.elem l = true ∧ lk hP l = some x ∧ F l b, nK K hP F, c.nt, c.dr, c.df⟩ (minusK K hP) F b → mof c hP F b := by
   rintro b ((h | ⟨l, x, _, h1, h2⟩) | ⟨l, x, h1, h2⟩)
   · exact .inl h
   · exact .inr ⟨l, x, h1, h2⟩
   · exact .inr ⟨l, x, (lk_minusK.1 h1).2, h2⟩
  have hcall := hA (fun b => c.M0 b ∨ ∃ l x, K.elem l = true ∧ lk hP l = some x ∧ F l b) (nK K hP F) w F
   ⟨hfr.tr, hfr.lo, hfr.dj, hfr.m0.up hdd, hfr.ext, fun _ => Nat.le_refl _⟩
   (fun i x hi => by
     obtain ⟨_, h3⟩ := inOrder_lk' ar 0 i x hio hi
     rw [Nat.sub_zero] at h3
     exact (h2 i x.1 x.2 (by rw [List.getElem?_map, List.getElem?_map, h3]; rfl) (by rw [List.getElem?_map, List.getElem?_map, h3]; rfl)).anti fun b _ hb => hin b hb)
  unfold Oper.wp
  rw [hr, Oper.upon_enter]
  refine hcall.mono fun e w' ⟨v, p, h, F', e1, e2, e3, e4⟩ => ?_
  subst e1
  have hch : Chg (nK K hP F) w w' := e3.ext
  have hlow : ∀ b, b < w.heap.size → mof ⟨w, fun b => c.M0 b ∨ ∃ l x, K.elem l = true ∧ lk hP l = some x ∧ F l b, nK K hP F, 0, dd, []⟩ h F' b → mof c hP F b := by
   rintro b hlt ((h1 | ⟨l, x, _, h1, h2⟩) | ⟨l, x, h1, h2⟩)
   · exact .inl h1
   · exact .inr ⟨l, x, h1, h2⟩
   · rcases e3.lo l x b h1 h2 with h3 | ⟨l', x', _, h3, h4⟩
     · exact absurd hlt (by simp only at h3; omega)
     · exact .inr ⟨l', x', h3, h4⟩
  have H' : HoldsF ⟨w, fun b => c.M0 b ∨ ∃ l x, K.elem l = true ∧ lk hP l = some x ∧ F l b, nK K hP F, c.nt, c.dr, c.df⟩ (⟨put d (v, p) sL, h⟩ : St) F' (a.put o.dst v) w' := by
   refine ⟨e3.nt rfl rfl rfl hdd hfr.m0, fun t u q ht => ?_, by rw [hd]; simpa [Act.put] using H.size, by rw [hd]; exact H.df⟩
   rw [hd]
   rcases lk_put ht with ⟨rfl, e⟩ | ⟨hne, e⟩
   · cases e
     refine ⟨?_, e4⟩
     simp [Act.put, H.size, hn]
   · obtain ⟨h3, h4⟩ := H.sl t u q e
     refine ⟨?_, h4.to hch (fun b _ ⟨l, x, _, h5, h6⟩ => .inr ⟨l, x, h5, h6⟩) (fun b hlt hb => hlow b hlt hb)⟩
     simpa [Act.put, Array.getElem?_setIfInBounds, hne] using h3
  obtain ⟨H2, _, _⟩ := H.unframe H'
  exact k v p h e2 _ _ ⟨_, H2⟩
theorem aL_ch {dd : Prop} {f : Nat} {ar h0 : List (Nat × Ent)} {R : Value → PV → List (Nat × Ent) → Prop} {xs : Array Operand} {ats : Array TypeId} (K : List Nat) (d : Nat) (hc : ∀ args w, (callFunc f args).run P w = .ok (.enter f args) w) (hA : AFh dd P f ar h0 R)
 (k : ∀ v p h, R v p h → aL P c ops Q rest ⟨put d (v, p) sL, h ++ onlyK K hP⟩) (hw : wants ops sL o = some true := by exact rfl) (hd : o.dst = some d := by exact rfl) (hn : d < c.nt := by exact Nat.le_of_ble_eq_true rfl)
 (ho : o.op = .call { callee := .value (.func f), args := xs, argTypes := ats } := by exact rfl) (hx : evL sL xs.toList = some (ar.map (·.2)) := by exact rfl) (hh0 : h0 = minusK K hP := by exact rfl) (hio : inOrder 0 ar = true := by exact rfl) (hdd : c.dr → dd := by first | exact id | exact fun h => h.elim | exact fun _ => trivial) : aL P c ops Q (o :: rest) (⟨sL, hP⟩ : St) := by
 subst hh0
 refine aL_chE K d hw hd hn (fun a w F H => ?_) hA hio hdd k
 obtain ⟨h1, h2⟩ := evL_spec H.rd hx
 refine ⟨?_, h2⟩
 have hargs : xs.map a.eval = (ar.map (·.2.1)).toArray := by
  rw [show ar.map (·.2.1) = (ar.map (·.2)).map (·.1) by rw [List.map_map]; rfl, ← h1, ← Array.toList_map, Array.toArray_toList]
 simp [execOp, ho, resolve, Act.eval, Deferred.ofValue, invoke, hargs, hc]
theorem zeros_holds {l e k n g cap : Nat} {h : Value} {a : Act} (hh : h = .slice (some ⟨g, 0, none⟩) n cap) (zs : List Value) (h1 : zs.all Value.oneCell' = true) :
 ∀ (m i j : Nat) (cs : List PV) (w : World) (F : Nat → BS) (hp : List (Nat × Ent)), HoldsF c ⟨sL, hp⟩ F a w → lk hp l = some (h, .own e k n cs) → i + m = zs.length → j + i + m ≤ cs.length →
  ∃ w' F' hp', (storeCells ⟨g, j, none⟩ (zs.drop i) i).run P w = .ok () w' ∧ HoldsF c ⟨sL, hp'⟩ F' a w' ∧ lk hp' l = some (h, .own e k n (setL cs (j + i) ((zs.drop i).map PV.val))) ∧ ∀ l', l' ≠ l → lk hp' l' = lk hp l'
 | 0, i, j, cs, w, F, hp, H, hl, hi, hj => by
   refine ⟨w, F, hp, ?_, H, ?_, fun _ _ => rfl⟩
   · rw [List.drop_eq_nil_of_le (by omega)]; rfl
   · rw [List.drop_eq_nil_of_le (by omega : zs.length ≤ i)]; exact hl
 | m + 1, i, j, cs, w, F, hp, H, hl, hi, hj => by
   have hi' : i < zs.length := by omega
   obtain ⟨v, hv⟩ := get_of_lt hi'
   have hv1 : v.oneCell' = true := List.all_eq_true.1 h1 v (List.mem_of_getElem? hv)
   obtain ⟨F1, H1⟩ := set_holds H hl hh (show j + i < cs.length by omega) (Shr.val v)
   obtain ⟨w', F', hp2, hr, H2, hl2, hsame⟩ := zeros_holds hh zs h1 m (i + 1) j (cs.set (j + i) (.val v)) _ F1 _ H1 (lk_put_self _ _ _) (by omega) (by simp; omega)
   refine ⟨w', F', hp2, ?_, H2, ?_, fun l' hne => by rw [hsame l' hne, lk_put_ne (Ne.symm hne)]⟩
   · obtain ⟨xs, Fs, hrow, hlen, _⟩ := (H.tr l _ _ hl).row
     subst hh
     obtain ⟨z, hz⟩ := get_of_lt (show j + i < xs.length by omega)
     have hcell := row_cell hrow hz
     have hfr := hrow.frozenAt (j + i)
     rw [List.drop_eq_getElem_cons (lt_of_get hv), show zs[i]'(lt_of_get hv) = v from (List.getElem?_eq_some_iff.1 hv).2, storeCells]
     simp only [Sem.run_bind, run_store _ _ _ _ _ hv1, add_none, hcell, hfr, Bool.false_eq_true, if_false, Result.andThen_ok]
     exact hr
   · rw [hl2, List.drop_eq_getElem_cons hi', show zs[i]'hi' = v from (List.getElem?_eq_some_iff.1 hv).2, List.map_cons, setL, Nat.add_assoc]
theorem take_setL : ∀ (ps cs : List PV) (j : Nat), (setL cs j ps).take j = cs.take j
 | [], _, _ => rfl
 | p :: ps, cs, j => by
   rw [setL]
   have h := take_setL ps (cs.set j p) (j + 1)
   have h2 := congrArg (List.take j) h
   rw [List.take_take, List.take_take, Nat.min_eq_left (Nat.le_succ j)] at h2
   rw [h2, List.take_set_of_le (Nat.le_refl j)]
theorem zeros_one {z : Value} (h : z.cells.toList.all Value.oneCell' = true) (m : Nat) : (Builtin.zeroCells z.cells m).toList.all Value.oneCell' = true := by
 rw [List.all_eq_true]
 intro v hv
 unfold Builtin.zeroCells at hv
 rw [Array.toList_map, List.mem_map] at hv
 obtain ⟨i, _, rfl⟩ := hv
 rw [getElem!_def]
 cases hc : z.cells[i % z.cells.size]? with
 | none => rfl
 | some u => exact List.all_eq_true.1 h u (by rw [← Array.getElem?_toList] at hc; exact List.mem_of_getElem? hc)
theorem aL_clear {t e kk bytes n i : Nat} {z : Value} {x : Operand} {h : Value} {q : PV} {cs : List PV} (l : Nat) (hT : ElT P t e kk bytes z) (hz0 : z.cells.toList.all Value.oneCell' = true) (hw : wants ops sL o = some true) (hd : o.dst = none)
 (ho : o.op = .call { callee := .builtin .clear, args := #[x], argTypes := #[t] }) (hx : ev sL x = some (slc h i n kk, q)) (hl : lk hP l = some (h, .own e kk n cs)) (hi : i ≤ n)
 (k : ∀ cs', cs'.length = cs.length → cs'.take (i * kk) = cs.take (i * kk) → aL P c ops Q rest ⟨sL, put l (h, .own e kk n cs') hP⟩) : aL P c ops Q (o :: rest) (⟨sL, hP⟩ : St) :=
 aL_run hw fun a w F H => by
  have hxv := (H.rd.ev hx).1
  obtain ⟨xs, Fs, hrow, hlen, _⟩ := (H.tr l _ _ hl).row
  obtain ⟨inf, hi1, hi2, hi3, hi4⟩ := hT.info
  have hback : Holds c ⟨sL, put l (h, .own e kk n cs) hP⟩ a w := ⟨F, H.less (fun _ _ h => h) fun t x hx => by
   rcases lk_put hx with ⟨rfl, rfl⟩ | ⟨hne, e1⟩
   · exact hl
   · exact e1⟩
  rcases row_form hrow with ⟨rfl, rfl, rfl⟩ | ⟨g, cap, rfl, hc1, hc2, hc3⟩
  · have hi0 : i = 0 := by omega
    subst hi0
    unfold Oper.wp execOp
    simp [ho, hxv, resolve, invoke, builtin, Builtin.clear_, slc, run_underlying hT.ht, Oper.upon, hd, Act.put]
    exact k cs rfl rfl _ _ hback
  · rcases Nat.lt_or_ge i n with hlt | hge
    · have hlen' : cs.length = n * kk := by rw [hlen, hrow.1]
      have hzs : (Builtin.zeroCells z.cells (n - i)).toList.length = (n - i) * kk := by rw [Array.length_toList, size_zeroCells, hT.hz]
      have hmul : i * kk + (n - i) * kk = n * kk := by rw [← Nat.add_mul]; congr 1; omega
      obtain ⟨w', F', hp', hr, H', hl', hsame⟩ := zeros_holds (P := P) rfl (Builtin.zeroCells z.cells (n - i)).toList (zeros_one hz0 _) _ 0 (i * kk) cs w F hP H hl (Nat.zero_add _) (by omega)
      simp only [List.drop_zero, Nat.add_zero] at hr hl'
      have hcap : cap ≠ i := by omega
      obtain ⟨m, hm⟩ : ∃ m, n - i = m + 1 := ⟨n - i - 1, by omega⟩
      simp only [slc, hcap, if_false, Option.map_some, add_none, Nat.zero_add, hm] at hxv
      rw [hm] at hr hl'
      unfold Oper.wp execOp
      simp [ho, hxv, resolve, invoke, builtin, Builtin.clear_, run_underlying hT.ht, zeroValue, typeInfo, hi1, hi2, hr, Oper.upon, hd, Act.put]
      refine k (setL cs (i * kk) ((Builtin.zeroCells z.cells (m + 1)).toList.map PV.val)) (setL_len _ _ _) (take_setL _ _ _) _ _ ⟨F', H'.less (fun _ _ h => h) fun t x hx => ?_⟩
      rcases lk_put hx with ⟨rfl, rfl⟩ | ⟨hne, e1⟩
      · exact hl'
      · show lk hp' t = _
        rw [hsame t (Ne.symm hne)]; exact e1
    · have hin : i = n := by omega
      subst hin
      by_cases hca : cap = i
      all_goals
       unfold Oper.wp execOp
       simp [ho, hxv, resolve, invoke, builtin, Builtin.clear_, slc, hca, run_underlying hT.ht, Oper.upon, hd, Act.put]
       exact k cs rfl rfl _ _ hback
theorem aL_heap {l : List Oper} (h : List (Nat × Ent)) (hs : Sub h hP) (k : aL P c ops Q l ⟨sL, h⟩) : aL P c ops Q l (⟨sL, hP⟩ : St) := fun a w ⟨F, H⟩ => k a w ⟨F, H.less (fun _ _ h => h) fun t x hx => hs.lk hx⟩
def SortI0 (P : Program) (fs : Nat) : Prop := ∀ (p : Option Addr) (cap : Nat) (w : World), Calls P fs #[.slice p 0 cap] w fun e w' => e = .returned (.tuple #[]) ∧ w' = w
theorem s_sortI0 {fs e kk d : Nat} {h : Value} {q : PV} {cs : List PV} {x : Operand} {ats : Array TypeId} (l : Nat) (hS : SortI0 P fs) (hc : ∀ args w, (callFunc fs args).run P w = .ok (.enter fs args) w)
 (k : aL P c ops Q rest ⟨put d (.tuple #[], .val (.tuple #[])) sL, hP⟩)
 (hw : wants ops sL o = some true := by exact rfl) (hd : o.dst = some d := by exact rfl) (hdn : d < c.nt := by exact Nat.le_of_ble_eq_true rfl) (ho : o.op = .call { callee := .value (.func fs), args := #[x], argTypes := ats } := by exact rfl) (hx : ev sL x = some (h, q) := by exact rfl) (hl : lk hP l = some (h, .own e kk 0 cs) := by exact rfl) : aL P c ops Q (o :: rest) (⟨sL, hP⟩ : St) :=
 aL_run hw fun a w F H => by
  have hxv := (H.rd.ev hx).1
  obtain ⟨xs, Fs, hrow, _⟩ := (H.tr l _ _ hl).row
  have hh : ∃ p cap, h = .slice p 0 cap := by
   rcases row_form hrow with ⟨h1, _, _⟩ | ⟨g, cap, h1, _⟩
   · exact ⟨_, _, h1⟩
   · exact ⟨_, _, h1⟩
  obtain ⟨p, cap, rfl⟩ := hh
  unfold Oper.wp
  have hr : (execOp a.eval o).run P w = .ok (.enter fs #[.slice p 0 cap]) w := by
   simp [execOp, ho, resolve, Act.eval, Deferred.ofValue, invoke, hc] at hxv ⊢
   simp [hxv]
  rw [hr, Oper.upon_enter]
  refine (hS p cap w).mono fun e w' ⟨e1, e2⟩ => ?_
  subst e1 e2
  rw [hd]
  exact k _ _ ⟨F, H.put hdn (.val _)⟩
end
section
variable {P : Program} {st : St} {o : Oper}
theorem agg_plain {M : BS} {w : World} {v : Value} {us : List Value} (h : Shr M w v (.agg (us.map PV.val))) : v = .agg us.toArray := by
 generalize hp : PV.agg (us.map PV.val) = p at h
 cases h with
 | agg vs ps hl hT =>
   cases hp
   congr 2
   apply List.ext_getElem?
   intro i
   rw [List.length_map] at hl
   rcases Nat.lt_or_ge i us.length with hi | hi
   · obtain ⟨u, hu⟩ := get_of_lt hi
     obtain ⟨x, hx⟩ := get_of_len hu hl.symm
     have h1 := hT i x (.val u) hx (by rw [List.getElem?_map, hu]; rfl)
     have h2 : x = u := h1.vOf
     rw [hx, hu, h2]
   · rw [List.getElem?_eq_none hi, List.getElem?_eq_none (by omega)]
 | _ => cases hp
theorem q_eqS {t r : Nat} {x y : Operand} {v v' : Value} {us us' : List Value} {b : Bool} (ht : P.underlying t = some (.struct (P.fieldsOf t))) (hp : P.stoodInHeld t = false) (hg : P.eqGuardType P.depth t = false)
 (hE : ∀ w, (Op.eqFields 9999 us.toArray us'.toArray (P.fieldsOf t).toList).run P w = .ok b w) (hx : ev st.slots x = some (v, .agg (us.map PV.val))) (hy : ev st.slots y = some (v', .agg (us'.map PV.val))) (ho : o.op = .binOp .eql t x y r := by exact rfl) : YE P st o (· = .bool b) (.val (.bool b)) :=
 .exact fun M F a w H => ⟨.val _, by
  obtain ⟨h1, h2⟩ := H.ev hx
  obtain ⟨h3, h4⟩ := H.ev hy
  have e1 := agg_plain h2
  have e2 := agg_plain h4
  subst e1 e2
  have hr : (Op.equalIn 10000 t (.agg us.toArray) (.agg us'.toArray)).run P w = .ok b w := by rw [run_equalIn_struct w 9999 t _ _ ht hp]; exact hE w
  simp [execOp, ho, h1, h3, run_eqGuard_agg w .eql t x y us.toArray us'.toArray hg, run_eql_struct, hr]⟩
end
theorem recast {sL hP : List (Nat × Ent)} {l : Nat} {h : Value} {p p' : PV} (hl : lk hP l = some (h, p)) (e : p = p') : EntE (⟨sL, hP⟩ : St) (fun _ : Unit => ⟨sL, put l (h, p') hP⟩) := fun c a w ⟨F, H⟩ => by
 subst e
 refine ⟨(), F, H.less (fun t x h => h) fun t x ht => ?_⟩
 rcases lk_put ht with ⟨rfl, e1⟩ | ⟨_, h1⟩
 · rw [hl, e1]
 · exact h1
theorem reslot {sL hP : List (Nat × Ent)} {t : Nat} {v : Value} {p p' : PV} (hl : lk sL t = some (v, p)) (e : p = p') : EntE (⟨sL, hP⟩ : St) (fun _ : Unit => ⟨put t (v, p') sL, hP⟩) := fun c a w ⟨F, H⟩ => by
 subst e
 refine ⟨(), F, H.less (fun s x ht => ?_) (fun t x h => h)⟩
 rcases lk_put ht with ⟨rfl, e1⟩ | ⟨_, h1⟩
 · rw [hl, e1]
 · exact h1
theorem nilSlD {sL hP : List (Nat × Ent)} {t : Nat} {q : PV} (ht : lk sL t = some (.slice none 0 0, q)) : EntE (⟨sL, hP⟩ : St) (fun _ : Unit => ⟨put t (.slice none 0 0, .sl 0 []) sL, hP⟩) := fun c a w ⟨F, H⟩ => by
 refine ⟨(), F, H.toHeapF, fun s u r hs => ?_, H.size, H.df⟩
 rcases lk_put hs with ⟨rfl, e1⟩ | ⟨_, hs'⟩
 · cases e1
   exact ⟨(H.sl t _ _ ht).1, .emp none 0 (by unfold maxLen; omega) (fun _ => rfl)⟩
 · exact H.sl s u r hs'
section
variable {P : Program} {c : Ctx} {ops : Array Oper} {Q : Exit → Act → World → Prop} {rest : List Oper} {sL hP : List (Nat × Ent)} {o : Oper}
theorem fold_off : ∀ (l : List Value) (j off : Nat) (cells : Array Value), (l.zipIdx j).foldl (fun cs x => cs.setIfInBounds (off + x.2) x.1) cells = (l.zipIdx (off + j)).foldl (fun cs x => cs.setIfInBounds (0 + x.2) x.1) cells
 | [], j, off, cells => rfl
 | x :: l, j, off, cells => by
   simp only [List.zipIdx_cons, List.foldl_cons]
   rw [fold_off l (j + 1) off, Nat.zero_add, Nat.add_assoc]
theorem fold_mid : ∀ (l : List Value) (i : Nat) (cells : Array Value), i + l.length ≤ cells.size → (l.zipIdx i).foldl (fun cs x => cs.setIfInBounds (0 + x.2) x.1) cells = (cells.toList.take i ++ l ++ cells.toList.drop (i + l.length)).toArray
 | [], i, cells, h => by
   simp only [List.zipIdx_nil, List.foldl_nil, List.append_nil, List.length_nil, Nat.add_zero, List.take_append_drop, Array.toArray_toList]
 | x :: l, i, cells, h => by
   simp only [List.zipIdx_cons, List.foldl_cons]
   simp only [List.length_cons] at h
   rw [fold_mid l (i + 1) _ (by simp; omega)]
   congr 1
   rw [Nat.zero_add, Array.toList_setIfInBounds, List.take_succ_eq_append_getElem (by simp; omega)]
   simp only [List.getElem_set_self, List.length_cons]
   rw [List.take_set_of_le (by omega), List.drop_set_of_lt (by omega), show i + 1 + l.length = i + (l.length + 1) by omega]
   simp
theorem fill_k (kk : Nat) : ∀ (vs : List (List Value)) (i : Nat) (cells : Array Value), cells.size = (i + vs.length) * kk → (∀ v ∈ vs, v.length = kk) → Instr.fill (fun i => some (i * kk, kk)) cells (((vs.map fun v => Value.agg v.toArray).zipIdx i).map fun x => (x.2, x.1)) = some (cells.toList.take (i * kk) ++ vs.flatten).toArray
 | [], i, cells, h, _ => by
   simp only [List.map_nil, List.zipIdx_nil, Instr.fill, List.flatten_nil, List.append_nil]
   simp only [List.length_nil, Nat.add_zero] at h
   rw [List.take_of_length_le (by simp; omega)]
 | v :: vs, i, cells, h, h1 => by
   have hv := h1 v (by simp)
   have hcs : (Value.agg v.toArray).cells = v.toArray := rfl
   have hle : (i + 1) * kk ≤ cells.size := by rw [h]; exact Nat.mul_le_mul_right _ (by simp)
   rw [Nat.succ_mul] at hle
   have hc : ¬ ((Value.agg v.toArray).cells.size ≠ kk || decide (i * kk + (Value.agg v.toArray).cells.size > cells.size)) = true := by rw [hcs]; simp; omega
   simp only [List.map_cons, List.zipIdx_cons, Instr.fill, hc, if_false]
   rw [hcs, ← Array.foldl_toList, Array.toList_zipIdx, fold_off, fold_mid _ _ _ (by simp; omega)]
   have := fill_k kk vs (i + 1) (cells.toList.take (i * kk + 0) ++ v ++ cells.toList.drop (i * kk + 0 + v.length)).toArray (by
    simp only [List.size_toArray, List.length_append, List.length_take, List.length_drop, Array.length_toList]
    rw [Nat.min_eq_left (by omega)]
    rw [List.length_cons] at h
    rw [h, show i + 1 + vs.length = i + (vs.length + 1) by omega] at *
    omega) (fun u hu => h1 u (by simp [hu]))
   simp only [Array.toArray_toList] at this ⊢
   rw [this]
   congr 2
   rw [List.flatten_cons, ← List.append_assoc]
   congr 1
   rw [List.take_append_of_le_length (by simp; rw [Nat.succ_mul, Nat.min_eq_left (by omega)]; omega)]
   rw [List.take_of_length_le (by simp; rw [Nat.succ_mul, Nat.min_eq_left (by omega)]; omega)]
   simp
theorem s_lita {t e kk bytes m : Nat} {z : Value} {xs : List Operand} {parts : Array (Nat × Operand)} {es : List Ent} {cs : List (List PV)} (d : Nat) (hT : ElT P t e kk bytes z)
 (k : ∀ h : Value, h.oneCell' = true → aL P c ops Q rest ⟨put d (h, .val h) sL, put d (h, .own e kk m cs.flatten) hP⟩) (hw : wants ops sL o = some true := by exact rfl) (hd : o.dst = some d := by exact rfl) (hn : d < c.nt := by exact Nat.le_of_ble_eq_true rfl) (ho : o.op = .buildSlice t m parts := by exact rfl) (hpt : parts = ((xs.zipIdx).map fun x => (x.2, x.1)).toArray := by exact rfl) (hx : evL sL xs = some es := by exact rfl)
 (hcs : es.map (·.2) = cs.map PV.agg := by exact rfl) (hck : ∀ q ∈ cs, q.length = kk := by simp) (hm : es.length = m := by exact rfl) (hm0 : 0 < m := by decide) (hm1 : m ≤ 1000 := by decide) (hk0 : kk ≤ 1000 := by decide) (hl : lk hP d = none := by exact rfl) : aL P c ops Q (o :: rest) (⟨sL, hP⟩ : St) :=
 aL_run hw fun a w F H => by
  obtain ⟨i, hi1, hi2, hi3, hi4⟩ := hT.info
  obtain ⟨he, hS⟩ := evL_spec H.rd hx
  have hkp := hT.hk
  have key : ∀ (es : List Ent) (cs : List (List PV)), es.map (·.2) = cs.map PV.agg → (∀ q ∈ cs, q.length = kk) → (∀ (i : Nat) (x : Value) (q : PV), (es.map (·.1))[i]? = some x → (es.map (·.2))[i]? = some q → Shr (mof c hP F) w x q) → ∃ us : List (List Value), es.map (·.1) = us.map (fun v => Value.agg v.toArray) ∧ us.length = es.length ∧ (∀ u ∈ us, u.length = kk) ∧ us.flatten.length = cs.flatten.length ∧ ∀ (i : Nat) (x : Value) (q : PV), us.flatten[i]? = some x → cs.flatten[i]? = some q → Shr (mof c hP F) w x q := fun es => by
   induction es with
   | nil =>
     intro cs h1 _ _
     cases cs with
     | nil => exact ⟨[], rfl, rfl, by simp, rfl, by simp⟩
     | cons q cs => simp at h1
   | cons e0 es ih =>
     intro cs h1 h2 h3
     cases cs with
     | nil => simp at h1
     | cons q cs =>
       simp only [List.map_cons, List.cons.injEq] at h1
       obtain ⟨us, g1, g2, g3, g4, g5⟩ := ih cs h1.2 (fun u hu => h2 u (List.mem_cons_of_mem _ hu)) (fun i x q hx hq => h3 (i + 1) x q (by simpa using hx) (by simpa using hq))
       have h4 := h3 0 e0.1 e0.2 rfl rfl
       rw [h1.1] at h4
       generalize hv0 : e0.1 = v0 at h4
       have hqk := h2 q (List.mem_cons_self ..)
       cases h4 with
       | agg vs ps hvl hTT =>
         refine ⟨vs :: us, by rw [List.map_cons, List.map_cons, hv0, g1], by simp [g2], fun u hu => ?_, by rw [List.flatten_cons, List.flatten_cons, List.length_append, List.length_append, g4, hvl], fun i x r hx hr => ?_⟩
         · rcases List.mem_cons.1 hu with rfl | hu
           · omega
           · exact g3 u hu
         · rw [List.flatten_cons] at hx hr
           rcases Nat.lt_or_ge i vs.length with hi | hi
           · rw [List.getElem?_append_left hi] at hx
             rw [List.getElem?_append_left (by omega)] at hr
             exact hTT i x r hx hr
           · rw [List.getElem?_append_right hi] at hx
             rw [List.getElem?_append_right (by omega)] at hr
             refine g5 (i - vs.length) x r hx ?_
             rw [hvl]; exact hr
  obtain ⟨us, u1, u2, u3, u4, u5⟩ := key es cs hcs hck hS
  have hfl : us.flatten.length = m * kk := by
   have : ∀ us : List (List Value), (∀ u ∈ us, u.length = kk) → us.flatten.length = us.length * kk := fun us => by
    induction us with
    | nil => intro _; simp
    | cons u us ih =>
      intro h
      rw [List.flatten_cons, List.length_append, h u (List.mem_cons_self ..), ih fun v hv => h v (List.mem_cons_of_mem _ hv), List.length_cons, Nat.succ_mul]; omega
   rw [this us u3, u2, hm]
  have hmk : m * kk ≤ 1000000 := Nat.le_trans (Nat.mul_le_mul hm1 hk0) (by decide)
  have hmk0 : 0 < m * kk := Nat.mul_pos hm0 hkp
  obtain ⟨F', H'⟩ := alloc_holds (e := e) (k := kk) (n := m) (cap := m) (cur := us.flatten.toArray) (v := .slice (some ⟨w.heap.size, 0, none⟩) m m) H hl hn (vs := us.flatten) (ps := cs.flatten) u4 u5 (by first | omega | exact hfl | (rw [hfl]) | (rw [Nat.mul_comm]; exact hfl)) (Nat.le_refl _) (by unfold maxLen; omega) (by simp; rw [← List.length_flatten, hfl]) (List.take_of_length_le (by simp; rw [← List.length_flatten, hfl]; omega))
  have hf := fill_k kk us 0 ((Array.range (m * i.size)).map (z.cells[· % z.cells.size]!)) (by simp [hi3, u2, hm]) u3
  have hpe : (parts.map fun (i, x) => (i, a.eval x)).toList = ((us.map fun v => Value.agg v.toArray).zipIdx 0).map fun x => (x.2, x.1) := by
   rw [hpt, ← u1, ← he]
   simp [List.zipIdx_map]
  have hr := run_buildSlice (P := P) w t e m (parts.map fun (i, x) => (i, a.eval x)) us.flatten.toArray i z hT.ht hi1 hi2 (by rw [hi3]; omega) (by rw [hi3]; omega) (by rw [hpe, hi3]; rw [hi3] at hf; simpa using hf)
  unfold Oper.wp execOp
  simp only [ho, Sem.run_bind, hr, Result.andThen_ok, Sem.run_pure, Oper.upon, hd]
  exact k (.slice (some ⟨w.heap.size, 0, none⟩) m m) rfl _ _ ⟨F', H'⟩
end
def Rr (p p' : PV) : Prop := ∀ (M : BS) (w : World) (v : Value), Shr M w v p → Shr M w v p'
theorem Rr.rfl' (p : PV) : Rr p p := fun _ _ _ h => h
theorem Rr.nil : Rr (.val (.slice none 0 0)) (.sl 0 []) := fun M w v h => by
 cases h with
 | val => exact .emp none 0 (by unfold maxLen; omega) (fun _ => rfl)
theorem Rr.agg {ps ps' : List PV} (hl : ps.length = ps'.length) (h : ∀ (i : Nat) (p p' : PV), ps[i]? = some p → ps'[i]? = some p' → Rr p p') : Rr (.agg ps) (.agg ps') := fun M w v hv => by
 cases hv with
 | agg vs ps hvl hT =>
   refine .agg vs ps' (by omega) fun i x q hx hq => ?_
   obtain ⟨p, hp⟩ := get_of_len hq hl.symm
   exact h i p q hp hq M w x (hT i x p hx hp)
theorem Rr.tup {ps ps' : List PV} (hl : ps.length = ps'.length) (h : ∀ (i : Nat) (p p' : PV), ps[i]? = some p → ps'[i]? = some p' → Rr p p') : Rr (.tup ps) (.tup ps') := fun M w v hv => by
 cases hv with
 | tup vs ps hvl hT =>
   refine .tup vs ps' (by omega) fun i x q hx hq => ?_
   obtain ⟨p, hp⟩ := get_of_len hq hl.symm
   exact h i p q hp hq M w x (hT i x p hx hp)
theorem AF.reread {P : Program} {f : Nat} {ps : List PV} {p p' : PV} (h : AF P f ps (· = p)) (hs : shD p = true) (hr : Rr p p') : AF P f ps (· = p') := fun M w vs hM hl hv =>
 (h M w vs hM hl hv).mono fun e w' ⟨v, q, F, h1, h2, h3, h4, h5, h6⟩ => by
   subst h2
   refine ⟨v, p', fun _ => False, h1, rfl, h3, .shr (hr _ _ _ ((h4.shD hs).anti fun b _ hb => ?_)) (fun _ h => h), fun b hb => hb.elim, h6⟩
   rcases hb with hb | hb
   · exact .inl hb
   · exact hb.elim
theorem rslot {sL hP : List (Nat × Ent)} {t : Nat} {v : Value} {p p' : PV} (hl : lk sL t = some (v, p)) (hr : Rr p p') : EntE (⟨sL, hP⟩ : St) (fun _ : Unit => ⟨put t (v, p') sL, hP⟩) := fun c a w ⟨F, H⟩ => by
 refine ⟨(), F, H.toHeapF, fun s u r hs => ?_, H.size, H.df⟩
 rcases lk_put hs with ⟨rfl, e1⟩ | ⟨_, hs'⟩
 · cases e1
   exact ⟨(H.sl t _ _ hl).1, hr _ _ _ (H.sl t _ _ hl).2⟩
 · exact H.sl s u r hs'
end Go.En
