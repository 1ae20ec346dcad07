/-
  The engine's rules in short forms. No program in sight.
  The engine: rows of owned rows as a family; nil checks; pointers that are shared from now on; three writers at once. No program in sight.
  The engine: results that lie in cells. No program in sight.
  The engine, fifteenth part: a row is sorted by the library. No program in sight.
  The engine: a row is cut short; new rows of zeros by append. No program in sight.
  The engine: a row of numbers is sorted by the library. No program in sight.
  The engine: rows are sorted by the library, compared by functions that were walked. No program in sight.
  The engine, last part: arguments of whatever shape, as they came in, read as plain data; and the frame of a law's row. No program in sight.
-/
import Derived.KernelRfl
import Derived.Shelf.SlSortCmp.InsertionK
import Derived.Shelf.SlSortCmp.Kit1
import Derived.WalkKit
import Derived.ProofKit
import Derived.OpenShut
import Derived.ShutString
import Derived.ChangeOld
import Derived.Below
import Derived.Carry
import Derived.Deep.Slices
import Derived.Test.YtebcjijpdhbcdaaGreatEng
namespace Go.En
open Go.RowKit Go.Cb
set_option linter.all false
theorem nav {A B : Prop} (h : B) (e : B → A := by intro h; (repeat (first | with_reducible refine aC_seq ?_ | with_reducible refine aC_block ?_ | with_reducible refine aN_then ?_ | with_reducible refine aN_block ?_ | with_reducible refine aC_skip ?_ | with_reducible refine aC_exit ?_ | with_reducible refine aX_then ?_ | with_reducible refine aX_block ?_ | with_reducible refine aX_other rfl ?_ | with_reducible refine aC_ret ?_ | with_reducible refine aR_then ?_ | with_reducible refine aR_block ?_)); exact h) : A := e h
section
variable {P : Program} {c : Ctx} {ops : Array Oper} {Q : Exit → Act → World → Prop} {rest : List Oper} {st : St} {sL hP : List (Nat × Ent)} {o : Oper} {x y : Operand} {t t' : TypeId} {q q' : PV} {Z : Nat → Bool} {K : List Nat} {fuel : Nat} {listed : Array Bool}
theorem xL {v : Value} {p : PV} (d : Nat) (hy : YE P (⟨sL, hP⟩ : St) o (· = v) p) (k : aL P c ops Q rest ⟨put d (v, p) sL, hP⟩) (hw : wants ops sL o = some true := by exact rfl) (hd : o.dst = some d := by exact rfl) (hn : d < c.nt := by exact Nat.le_of_ble_eq_true rfl) : aL P c ops Q (o :: rest) (⟨sL, hP⟩ : St) :=
  aL_x d hw hd hn hy k
theorem yL {V : Value → Prop} {p : PV} (d : Nat) (hy : YE P (⟨sL, hP⟩ : St) o V p) (k : ∀ v, V v → aL P c ops Q rest ⟨put d (v, p) sL, hP⟩) (hw : wants ops sL o = some true := by exact rfl) (hd : o.dst = some d := by exact rfl) (hn : d < c.nt := by exact Nat.le_of_ble_eq_true rfl) : aL P c ops Q (o :: rest) (⟨sL, hP⟩ : St) :=
  aL_y d hw hd hn hy k
theorem kL (d : Nat) (k : aL P c ops Q rest ⟨put d (undef, .val undef) sL, hP⟩) (hw : wants ops sL o = some false := by exact rfl) (hd : o.dst = some d := by exact rfl) (hn : d < c.nt := by exact Nat.le_of_ble_eq_true rfl) : aL P c ops Q (o :: rest) (⟨sL, hP⟩ : St) :=
  aL_skip d hw hd hn k
theorem bL {l : List Oper} {b : Bool} {q : PV} (t : Nat) (ht : b = true → aL P c ops Q l ⟨put t (.bool true, .val (.bool true)) sL, hP⟩) (hf : b = false → aL P c ops Q l ⟨put t (.bool false, .val (.bool false)) sL, hP⟩) (hx : lk sL t = some (.bool b, q) := by exact rfl) : aL P c ops Q l (⟨sL, hP⟩ : St) :=
  aL_bcase t hx ht hf
theorem xD {v : Value} {p : PV} (i : Nat) (d : Nat) (ho : ops[i]? = some o) (hy : YE P ⟨sL, onlyK K hP⟩ o (· = v) p) (k : aD P c ops Q Z K fuel (listed.setIfInBounds i true) ⟨put d (v, p) sL, hP⟩) (hck : (Region.noSelect ops && (Region.ready .any ops listed).contains i && Region.free .any ops listed i && zWaits .any ops Z i) = true := by kernel_rfl) (hw : wants ops sL o = some true := by exact rfl) (hd : o.dst = some d := by exact rfl) (hn : d < c.nt := by exact Nat.le_of_ble_eq_true rfl) : aD P c ops Q Z K (fuel + 1) listed (⟨sL, hP⟩ : St) :=
  aD_x i d ho hck hw hd hn hy k
theorem yD {V : Value → Prop} {p : PV} (i : Nat) (d : Nat) (ho : ops[i]? = some o) (hy : YE P ⟨sL, onlyK K hP⟩ o V p) (k : ∀ v, V v → aD P c ops Q Z K fuel (listed.setIfInBounds i true) ⟨put d (v, p) sL, hP⟩) (hck : (Region.noSelect ops && (Region.ready .any ops listed).contains i && Region.free .any ops listed i && zWaits .any ops Z i) = true := by kernel_rfl) (hw : wants ops sL o = some true := by exact rfl) (hd : o.dst = some d := by exact rfl) (hn : d < c.nt := by exact Nat.le_of_ble_eq_true rfl) : aD P c ops Q Z K (fuel + 1) listed (⟨sL, hP⟩ : St) :=
  aD_y i d ho hck hw hd hn hy k
theorem kD (i : Nat) (d : Nat) (ho : ops[i]? = some o) (k : aD P c ops Q Z K fuel (listed.setIfInBounds i true) ⟨put d (undef, .val undef) sL, hP⟩) (hck : (Region.noSelect ops && (Region.ready .any ops listed).contains i && Region.free .any ops listed i && zWaits .any ops Z i) = true := by kernel_rfl) (hw : wants ops sL o = some false := by exact rfl) (hd : o.dst = some d := by exact rfl) (hn : d < c.nt := by exact Nat.le_of_ble_eq_true rfl) : aD P c ops Q Z K (fuel + 1) listed (⟨sL, hP⟩ : St) :=
  aD_skip i d ho hck hw hd hn k
theorem xE {v : Value} {p : PV} (i : Nat) (d : Nat) (ho : ops[i]? = some o) (hy : YE P (⟨sL, hP⟩ : St) o (· = v) p) (k : aD P c ops Q Z K fuel (listed.setIfInBounds i true) ⟨put d (v, p) sL, hP⟩) (hr : Region.ready .any ops listed = [i] := by kernel_rfl) (hw : wants ops sL o = some true := by exact rfl) (hd : o.dst = some d := by exact rfl) (hn : d < c.nt := by exact Nat.le_of_ble_eq_true rfl) : aD P c ops Q Z K (fuel + 1) listed (⟨sL, hP⟩ : St) :=
  aD_x1 i d ho hr hw hd hn hy k
theorem yE {V : Value → Prop} {p : PV} (i : Nat) (d : Nat) (ho : ops[i]? = some o) (hy : YE P (⟨sL, hP⟩ : St) o V p) (k : ∀ v, V v → aD P c ops Q Z K fuel (listed.setIfInBounds i true) ⟨put d (v, p) sL, hP⟩) (hr : Region.ready .any ops listed = [i] := by kernel_rfl) (hw : wants ops sL o = some true := by exact rfl) (hd : o.dst = some d := by exact rfl) (hn : d < c.nt := by exact Nat.le_of_ble_eq_true rfl) : aD P c ops Q Z K (fuel + 1) listed (⟨sL, hP⟩ : St) :=
  aD_y1 i d ho hr hw hd hn hy k
theorem bD {b : Bool} {q : PV} (t : Nat) (ht : b = true → aD P c ops Q Z K fuel listed ⟨put t (.bool true, .val (.bool true)) sL, hP⟩) (hf : b = false → aD P c ops Q Z K fuel listed ⟨put t (.bool false, .val (.bool false)) sL, hP⟩) (hx : lk sL t = some (.bool b, q) := by exact rfl) : aD P c ops Q Z K fuel listed (⟨sL, hP⟩ : St) :=
  aD_bcase t hx ht hf
theorem q_move {P : Program} {st : St} {o : Oper} {x : Operand} {v : Value} {p : PV} (ho : o.op = .move x := by exact rfl) (hx : ev st.slots x = some (v, p) := by exact rfl) : YE P st o (· = v) p :=
  y_move ho hx
theorem q_assign {P : Program} {st : St} {o : Oper} {x : Operand} {v : Value} {p : PV} (ho : o.op = .assign x := by exact rfl) (hx : ev st.slots x = some (v, p) := by exact rfl) : YE P st o (· = v) p :=
  y_assign ho hx
theorem q_pick {P : Program} {st : St} {o : Oper} {c x y : Operand} {b : Bool} {q : PV} {v : Value} {p : PV} (ho : o.op = .pick c x y := by exact rfl) (hc : ev st.slots c = some (.bool b, q) := by exact rfl) (hx : ev st.slots (if b then x else y) = some (v, p) := by exact rfl) : YE P st o (· = v) p :=
  y_pick ho hc hx
theorem q_not {P : Program} {st : St} {o : Oper} {x : Operand} {t : TypeId} {b : Bool} {q : PV} (ho : o.op = .unOp .not t x := by exact rfl) (hx : ev st.slots x = some (.bool b, q) := by exact rfl) : YE P st o (· = .bool (!b)) (.val (.bool (!b))) :=
  y_not ho hx
theorem q_lss {k : IntKind} {a b : Int} (ho : o.op = .binOp .lss t x y t' := by exact rfl) (hx : ev st.slots x = some (.int k a, q) := by exact rfl) (hy : ev st.slots y = some (.int k b, q') := by exact rfl) : YE P st o (· = .bool (decide (a < b))) (.val (.bool (decide (a < b)))) :=
  y_lss ho hx hy
theorem q_leq {k : IntKind} {a b : Int} (ho : o.op = .binOp .leq t x y t' := by exact rfl) (hx : ev st.slots x = some (.int k a, q) := by exact rfl) (hy : ev st.slots y = some (.int k b, q') := by exact rfl) : YE P st o (· = .bool (decide (a ≤ b))) (.val (.bool (decide (a ≤ b)))) :=
  y_leq ho hx hy
theorem q_gtr {k : IntKind} {a b : Int} (ho : o.op = .binOp .gtr t x y t' := by exact rfl) (hx : ev st.slots x = some (.int k a, q) := by exact rfl) (hy : ev st.slots y = some (.int k b, q') := by exact rfl) : YE P st o (· = .bool (decide (b < a))) (.val (.bool (decide (b < a)))) :=
  y_gtr ho hx hy
theorem q_geq {k : IntKind} {a b : Int} (ho : o.op = .binOp .geq t x y t' := by exact rfl) (hx : ev st.slots x = some (.int k a, q) := by exact rfl) (hy : ev st.slots y = some (.int k b, q') := by exact rfl) : YE P st o (· = .bool (decide (b ≤ a))) (.val (.bool (decide (b ≤ a)))) :=
  y_geq ho hx hy
theorem q_eql {k : IntKind} {a b : Int} (ho : o.op = .binOp .eql t x y t' := by exact rfl) (hx : ev st.slots x = some (.int k a, q) := by exact rfl) (hy : ev st.slots y = some (.int k b, q') := by exact rfl) : YE P st o (· = .bool (decide (a = b))) (.val (.bool (decide (a = b)))) :=
  y_eql ho hx hy
theorem q_neq {k : IntKind} {a b : Int} (ho : o.op = .binOp .neq t x y t' := by exact rfl) (hx : ev st.slots x = some (.int k a, q) := by exact rfl) (hy : ev st.slots y = some (.int k b, q') := by exact rfl) : YE P st o (· = .bool (decide (a ≠ b))) (.val (.bool (decide (a ≠ b)))) :=
  y_neq ho hx hy
theorem q_seql {a b : ByteArray} (ho : o.op = .binOp .eql t x y t' := by exact rfl) (hx : ev st.slots x = some (.string a, q) := by exact rfl) (hy : ev st.slots y = some (.string b, q') := by exact rfl) : YE P st o (· = .bool (a.toList == b.toList)) (.val (.bool (a.toList == b.toList))) :=
  y_seql ho hx hy
theorem q_sneq {a b : ByteArray} (ho : o.op = .binOp .neq t x y t' := by exact rfl) (hx : ev st.slots x = some (.string a, q) := by exact rfl) (hy : ev st.slots y = some (.string b, q') := by exact rfl) : YE P st o (· = .bool (!(a.toList == b.toList))) (.val (.bool (!(a.toList == b.toList)))) :=
  y_sneq ho hx hy
theorem q_slss {a b : ByteArray} (ho : o.op = .binOp .lss t x y t' := by exact rfl) (hx : ev st.slots x = some (.string a, q) := by exact rfl) (hy : ev st.slots y = some (.string b, q') := by exact rfl) : YE P st o (· = .bool (Op.bytesLess a.toList b.toList)) (.val (.bool (Op.bytesLess a.toList b.toList))) :=
  y_slss ho hx hy
theorem q_sgeq {a b : ByteArray} (ho : o.op = .binOp .geq t x y t' := by exact rfl) (hx : ev st.slots x = some (.string a, q) := by exact rfl) (hy : ev st.slots y = some (.string b, q') := by exact rfl) : YE P st o (· = .bool (!Op.bytesLess a.toList b.toList)) (.val (.bool (!Op.bytesLess a.toList b.toList))) :=
  y_sgeq ho hx hy
theorem q_sgtr {a b : ByteArray} (ho : o.op = .binOp .gtr t x y t' := by exact rfl) (hx : ev st.slots x = some (.string a, q) := by exact rfl) (hy : ev st.slots y = some (.string b, q') := by exact rfl) : YE P st o (· = .bool (!(Op.bytesLess a.toList b.toList || a.toList == b.toList))) (.val (.bool (!(Op.bytesLess a.toList b.toList || a.toList == b.toList)))) :=
  y_sgtr ho hx hy
theorem q_add {a b : Int} (ho : o.op = .binOp .add t x y t' := by exact rfl) (hx : ev st.slots x = some (.int .i64 a, q) := by exact rfl) (hy : ev st.slots y = some (.int .i64 b, q') := by exact rfl) (h1 : -9223372036854775808 ≤ a + b := by first | omega | exact Nat.le_of_ble_eq_true rfl | (simp only [List.length_cons, List.length_nil, List.length_map, List.length_set, List.length_append, List.length_replicate, List.length_singleton, List.flatMap_cons, List.flatMap_nil]; omega)) (h2 : a + b ≤ 9223372036854775807 := by first | omega | exact Nat.le_of_ble_eq_true rfl | (simp only [List.length_cons, List.length_nil, List.length_map, List.length_set, List.length_append, List.length_replicate, List.length_singleton, List.flatMap_cons, List.flatMap_nil]; omega)) : YE P st o (· = .int .i64 (a + b)) (.val (.int .i64 (a + b))) :=
  y_add ho hx hy h1 h2
theorem q_sub {a b : Int} (ho : o.op = .binOp .sub t x y t' := by exact rfl) (hx : ev st.slots x = some (.int .i64 a, q) := by exact rfl) (hy : ev st.slots y = some (.int .i64 b, q') := by exact rfl) (h1 : -9223372036854775808 ≤ a - b := by first | omega | exact Nat.le_of_ble_eq_true rfl | (simp only [List.length_cons, List.length_nil, List.length_map, List.length_set, List.length_append, List.length_replicate, List.length_singleton, List.flatMap_cons, List.flatMap_nil]; omega)) (h2 : a - b ≤ 9223372036854775807 := by first | omega | exact Nat.le_of_ble_eq_true rfl | (simp only [List.length_cons, List.length_nil, List.length_map, List.length_set, List.length_append, List.length_replicate, List.length_singleton, List.flatMap_cons, List.flatMap_nil]; omega)) : YE P st o (· = .int .i64 (a - b)) (.val (.int .i64 (a - b))) :=
  y_sub ho hx hy h1 h2
theorem q_bneq {a b : Bool} (hu : P.underlying t = some .bool) (ho : o.op = .binOp .neq t x y t' := by exact rfl) (hx : ev st.slots x = some (.bool a, q) := by exact rfl) (hy : ev st.slots y = some (.bool b, q') := by exact rfl) : YE P st o (· = .bool (!(a == b))) (.val (.bool (!(a == b)))) :=
  y_bneq hu ho hx hy
theorem q_index {s : ByteArray} {i : Int} {c : UInt8} {k : IntKind} (hu : P.underlying t = some .string) (ho : o.op = .index t x y := by exact rfl) (hx : ev st.slots x = some (.string s, q) := by exact rfl) (hy : ev st.slots y = some (.int k i, q') := by exact rfl) (hi : 0 ≤ i := by first | omega | exact Nat.le_of_ble_eq_true rfl | (simp only [List.length_cons, List.length_nil, List.length_map, List.length_set, List.length_append, List.length_replicate, List.length_singleton, List.flatMap_cons, List.flatMap_nil]; omega)) (hc : s.data[i.toNat]? = some c := by assumption) : YE P st o (· = .int .u8 c.toNat) (.val (.int .u8 c.toNat)) :=
  y_index hu ho hx hy hi hc
theorem q_slen {P : Program} {st : St} {o : Oper} {x : Operand} {t : TypeId} {s : ByteArray} {q : PV} (ht : P.underlying t = some .string) (ho : o.op = .call { callee := .builtin .len, args := #[x], argTypes := #[t] } := by exact rfl) (hx : ev st.slots x = some (.string s, q) := by exact rfl) : YE P st o (· = .int .i64 s.size) (.val (.int .i64 s.size)) :=
  y_slen ht ho hx
theorem q_extract {P : Program} {st : St} {o : Oper} {x : Operand} {i : Nat} {vs : List Value} {ps : List PV} {v : Value} {p : PV} (ho : o.op = .extract x i := by exact rfl) (hx : ev st.slots x = some (.tuple vs.toArray, .tup ps) := by exact rfl) (hv : vs[i]? = some v := by exact rfl) (hp : ps[i]? = some p := by exact rfl) : YE P st o (· = v) p :=
  y_extract ho hx hv hp
theorem q_fld {s f fo j : Nat} {x : Operand} {v : Value} {cs : List PV} (hT : FldT P s f fo = true) (ho : o.op = .fieldAddr s x f := by exact rfl) (hx : ev st.slots x = some (v, .sptr j cs) := by exact rfl) : YE P st o (· = padd v fo) (.sptr (j + fo) cs) :=
  y_fld_shr hT ho hx
theorem q_fldo {s f fo j e k n : Nat} {x : Operand} {h : Value} {p : PV} {cs : List PV} (l : Nat) (hT : FldT P s f fo = true) (ho : o.op = .fieldAddr s x f := by exact rfl) (hx : ev st.slots x = some (padd (sbase h) j, p) := by exact rfl) (hl : lk st.heap l = some (h, .own e k n cs) := by exact rfl) (hn : 0 < n := by first | omega | exact Nat.le_of_ble_eq_true rfl | (simp only [List.length_cons, List.length_nil, List.length_map, List.length_set, List.length_append, List.length_replicate, List.length_singleton, List.flatMap_cons, List.flatMap_nil]; omega)) : YE P st o (· = padd (sbase h) (j + fo)) (.val (padd (sbase h) (j + fo))) :=
  y_fld_own l hT ho hx hl hn
theorem q_idxN {t e k n : Nat} {x y : Operand} {v : Value} {cs : List PV} {q : PV} {kd : IntKind} {i : Nat} (hT : SlT P t e k = true) (ho : o.op = .indexAddr t x y := by exact rfl) (hx : ev st.slots x = some (v, .sl n cs) := by exact rfl) (hy : ev st.slots y = some (.int kd (i : Int), q) := by exact rfl) (h1 : i < n := by first | omega | exact Nat.le_of_ble_eq_true rfl | (simp only [List.length_cons, List.length_nil, List.length_map, List.length_set, List.length_append, List.length_replicate, List.length_singleton, List.flatMap_cons, List.flatMap_nil]; omega)) : YE P st o (· = padd (sbase v) (i * k)) (.sptr (i * k) cs) :=
  y_idx_shrN hT ho hx hy h1
theorem q_idxoN {t e k e' k' n : Nat} {x y : Operand} {h : Value} {p q : PV} {cs : List PV} {kd : IntKind} {i : Nat} (l : Nat) (hT : SlT P t e k = true) (ho : o.op = .indexAddr t x y := by exact rfl) (hx : ev st.slots x = some (h, p) := by exact rfl) (hy : ev st.slots y = some (.int kd (i : Int), q) := by exact rfl) (hl : lk st.heap l = some (h, .own e' k' n cs) := by exact rfl) (h1 : i < n := by first | omega | exact Nat.le_of_ble_eq_true rfl | (simp only [List.length_cons, List.length_nil, List.length_map, List.length_set, List.length_append, List.length_replicate, List.length_singleton, List.flatMap_cons, List.flatMap_nil]; omega)) : YE P st o (· = padd (sbase h) (i * k)) (.val (padd (sbase h) (i * k))) :=
  y_idx_ownN l hT ho hx hy hl h1
theorem q_idx {t e k n : Nat} {x y : Operand} {v : Value} {cs : List PV} {q : PV} {kd : IntKind} {i : Int} (hT : SlT P t e k = true) (ho : o.op = .indexAddr t x y := by exact rfl) (hx : ev st.slots x = some (v, .sl n cs) := by exact rfl) (hy : ev st.slots y = some (.int kd i, q) := by exact rfl) (h0 : 0 ≤ i := by first | omega | exact Nat.le_of_ble_eq_true rfl | (simp only [List.length_cons, List.length_nil, List.length_map, List.length_set, List.length_append, List.length_replicate, List.length_singleton, List.flatMap_cons, List.flatMap_nil]; omega)) (h1 : i < n := by first | omega | exact Nat.le_of_ble_eq_true rfl | (simp only [List.length_cons, List.length_nil, List.length_map, List.length_set, List.length_append, List.length_replicate, List.length_singleton, List.flatMap_cons, List.flatMap_nil]; omega)) : YE P st o (· = padd (sbase v) (i.toNat * k)) (.sptr (i.toNat * k) cs) :=
  y_idx_shr hT ho hx hy h0 h1
theorem q_idxo {t e k e' k' n : Nat} {x y : Operand} {h : Value} {p q : PV} {cs : List PV} {kd : IntKind} {i : Int} (l : Nat) (hT : SlT P t e k = true) (ho : o.op = .indexAddr t x y := by exact rfl) (hx : ev st.slots x = some (h, p) := by exact rfl) (hy : ev st.slots y = some (.int kd i, q) := by exact rfl) (hl : lk st.heap l = some (h, .own e' k' n cs) := by exact rfl) (h0 : 0 ≤ i := by first | omega | exact Nat.le_of_ble_eq_true rfl | (simp only [List.length_cons, List.length_nil, List.length_map, List.length_set, List.length_append, List.length_replicate, List.length_singleton, List.flatMap_cons, List.flatMap_nil]; omega)) (h1 : i < n := by first | omega | exact Nat.le_of_ble_eq_true rfl | (simp only [List.length_cons, List.length_nil, List.length_map, List.length_set, List.length_append, List.length_replicate, List.length_singleton, List.flatMap_cons, List.flatMap_nil]; omega)) : YE P st o (· = padd (sbase h) (i.toNat * k)) (.val (padd (sbase h) (i.toNat * k))) :=
  y_idx_own l hT ho hx hy hl h0 h1
theorem q_ld {t j : Nat} {x : Operand} {v : Value} {cs : List PV} {p : PV} (hT : NoAgg P t = true) (ho : o.op = .load t x := by exact rfl) (hx : ev st.slots x = some (v, .sptr j cs) := by exact rfl) (hp : cs[j]? = some p := by first | exact rfl | assumption) : YE P st o (vOf p) p :=
  y_ld_shr hT ho hx hp
theorem q_ldo {t j e k n : Nat} {x : Operand} {h : Value} {q : PV} {cs : List PV} {p : PV} (l : Nat) (hT : NoAgg P t = true) (ho : o.op = .load t x := by exact rfl) (hx : ev st.slots x = some (padd (sbase h) j, q) := by exact rfl) (hl : lk st.heap l = some (h, .own e k n cs) := by exact rfl) (hp : cs[j]? = some p := by first | exact rfl | assumption) (hsh : isSh p = true := by exact rfl) : YE P st o (vOf p) p :=
  y_ld_own l hT ho hx hl hp hsh
theorem q_lda {t k j : Nat} {x : Operand} {v : Value} {cs ps : List PV} (hT : AggT P t k = true) (ho : o.op = .load t x := by exact rfl) (hx : ev sL x = some (v, .sptr j cs) := by exact rfl) (hp : j + k ≤ cs.length := by first | omega | exact Nat.le_of_ble_eq_true rfl | (simp only [List.length_cons, List.length_nil, List.length_map, List.length_set, List.length_append, List.length_replicate, List.length_singleton, List.flatMap_cons, List.flatMap_nil]; omega)) (hps : (cs.drop j).take k = ps := by first | assumption | exact rfl) : YE P (⟨sL, hP⟩ : St) o (fun _ => True) (.agg ps) :=
  y_lda_shrE hT ho hx hp hps
theorem q_ldao {t k j e k' n : Nat} {x : Operand} {h : Value} {q : PV} {cs ps : List PV} (l : Nat) (hT : AggT P t k = true) (ho : o.op = .load t x := by exact rfl) (hx : ev sL x = some (padd (sbase h) j, q) := by exact rfl) (hl : lk hP l = some (h, .own e k' n cs) := by exact rfl) (hp : j + k ≤ cs.length := by first | omega | exact Nat.le_of_ble_eq_true rfl | (simp only [List.length_cons, List.length_nil, List.length_map, List.length_set, List.length_append, List.length_replicate, List.length_singleton, List.flatMap_cons, List.flatMap_nil]; omega)) (hk : 0 < k := by decide) (hps : (cs.drop j).take k = ps := by first | assumption | exact rfl) (hsh : ps.all isSh = true := by first | exact rfl | decide) : YE P (⟨sL, hP⟩ : St) o (fun _ => True) (.agg ps) :=
  y_lda_ownE l hT ho hx hl hp hk hps hsh
theorem q_len {t e k n : Nat} {x : Operand} {v : Value} {cs : List PV} (hT : SlT P t e k = true) (ho : o.op = .call { callee := .builtin .len, args := #[x], argTypes := #[t] } := by exact rfl) (hx : ev st.slots x = some (v, .sl n cs) := by exact rfl) : YE P st o (· = .int .i64 n) (.val (.int .i64 n)) :=
  y_len_shr hT ho hx
theorem q_leno {t e k e' k' n : Nat} {x : Operand} {h : Value} {p : PV} {cs : List PV} (l : Nat) (hT : SlT P t e k = true) (ho : o.op = .call { callee := .builtin .len, args := #[x], argTypes := #[t] } := by exact rfl) (hx : ev st.slots x = some (h, p) := by exact rfl) (hl : lk st.heap l = some (h, .own e' k' n cs) := by exact rfl) : YE P st o (· = .int .i64 n) (.val (.int .i64 n)) :=
  y_len_own l hT ho hx hl
theorem q_mleno {t ks e : Nat} {x : Operand} {m : Value} {kv : List (Value × Value)} {p : PV} (l : Nat) (ht : P.underlying t = some (.map ks e)) (ho : o.op = .call { callee := .builtin .len, args := #[x], argTypes := #[t] } := by exact rfl) (hx : ev sL x = some (m, p) := by exact rfl) (hl : lk hP l = some (m, .omap kv) := by exact rfl) : YE P (⟨sL, hP⟩ : St) o (· = .int .i64 kv.length) (.val (.int .i64 kv.length)) :=
  y_mlen_o l ht ho hx hl
theorem q_build {t : Nat} {parts : Array (Nat × Operand)} {z : Value} {offs : List Nat} {zs : List Value} {es : List (Nat × Ent)} (hT : stInfo P t = some (z, offs.map fun o => (o, 1))) (hzs : z.cells = zs.toArray := by exact rfl) (ho : o.op = .build t parts := by exact rfl) (hx : evP sL parts.toList = some es := by exact rfl) (h1 : es.all (fun x => one x.2.2) = true := by first | exact rfl | (simp only [List.all_cons, List.all_nil, Bool.and_true, Bool.and_eq_true]; (repeat (first | refine ⟨?_, ?_⟩ | rfl | assumption)))) (hin : es.all (fun x => decide (x.1 < offs.length) && decide (offs.getD x.1 0 < zs.length)) = true := by exact rfl) : YE P (⟨sL, hP⟩ : St) o (· = .agg (setP offs zs (es.map fun x => (x.1, x.2.1))).toArray) (.agg (setP offs (zs.map .val) (es.map fun x => (x.1, x.2.2)))) :=
  y_build hT hzs ho hx h1 hin
theorem q_mkfn {f : Nat} {caps : Array Operand} {es : List Ent} (ho : o.op = .makeFunc (.func f) #[] caps := by exact rfl) (hx : evL sL caps.toList = some es := by exact rfl) : YE P (⟨sL, hP⟩ : St) o (· = .func (.func f) #[] (es.map (·.1)).toArray) (.fn f (es.map (·.2))) :=
  y_mkfn ho hx
theorem q_lookoE {t ks e : Nat} {kd : TypeDesc} {z u : Value} {x y : Operand} {m k : Value} {kv : List (Value × Value)} {p q : PV} (l : Nat) (hT : MpT P t ks e kd z) (ho : o.op = .lookup t x y false := by exact rfl) (hx : ev sL x = some (m, p) := by exact rfl) (hl : lk hP l = some (m, .omap kv) := by exact rfl) (hy : ev sL y = some (k, q) := by exact rfl) (hk : kok kd k kv := by first | exact kok_skv _ _ | exact kok_ikv _ _ | exact kok_nil _ _ | assumption) (hu : (mget kv k).getD z = u := by assumption) : YE P (⟨sL, hP⟩ : St) o (· = u) (.val u) :=
  y_look_oE l hT ho hx hl hy hk hu
theorem s_box {t : TypeId} {x : Operand} {v : Value} {p : PV} (d : Nat) (k : ∀ h : Value, aL P c ops Q rest ⟨put d (padd (sbase h) 0, .val (padd (sbase h) 0)) sL, put d (h, .own t 1 1 [p]) hP⟩) (hw : wants ops sL o = some true := by exact rfl) (hd : o.dst = some d := by exact rfl) (hn : d < c.nt := by exact Nat.le_of_ble_eq_true rfl) (ho : o.op = .box t x := by exact rfl) (hx : ev sL x = some (v, p) := by exact rfl) (h1 : one p = true := by first | exact rfl | assumption) (hl : lk hP d = none := by exact rfl) : aL P c ops Q (o :: rest) (⟨sL, hP⟩ : St) :=
  aL_box1 d hw hd hn ho hx h1 hl k
theorem s_boxa {t : TypeId} {x : Operand} {v : Value} {ps : List PV} (d : Nat) (m : Nat) (k : ∀ h : Value, aL P c ops Q rest ⟨put d (padd (sbase h) 0, .val (padd (sbase h) 0)) sL, put d (h, .own t m 1 ps) hP⟩) (hw : wants ops sL o = some true := by exact rfl) (hd : o.dst = some d := by exact rfl) (hn : d < c.nt := by exact Nat.le_of_ble_eq_true rfl) (ho : o.op = .box t x := by exact rfl) (hx : ev sL x = some (v, .agg ps) := by exact rfl) (hm : ps.length = m := by exact rfl) (hl : lk hP d = none := by exact rfl) : aL P c ops Q (o :: rest) (⟨sL, hP⟩ : St) :=
  aL_boxa d m hw hd hn ho hx hm hl k
theorem s_alloc {t : TypeId} {z : Value} (zs : List Value) (m : Nat) (d : Nat) (hz : ZeroT P t z) (k : ∀ h : Value, aL P c ops Q rest ⟨put d (padd (sbase h) 0, .val (padd (sbase h) 0)) sL, put d (h, .own t m 1 (zs.map .val)) hP⟩) (hw : wants ops sL o = some true := by exact rfl) (hd : o.dst = some d := by exact rfl) (hn : d < c.nt := by exact Nat.le_of_ble_eq_true rfl) (ho : o.op = .alloc t := by exact rfl) (hzs : z.cells = zs.toArray := by exact rfl) (hm : zs.length = m := by exact rfl) (hl : lk hP d = none := by exact rfl) : aL P c ops Q (o :: rest) (⟨sL, hP⟩ : St) :=
  aL_alloc zs m d hw hd hn ho hz hzs hm hl k
theorem s_make {t e bytes : Nat} {z : Value} {x y : Operand} {n : Nat} {q q' : PV} (d : Nat) (hT : ElT P t e 1 bytes z) (k : ∀ h : Value, h.oneCell' = true → aL P c ops Q rest ⟨put d (h, .val h) sL, put d (h, .own e 1 n (List.replicate n (.val z))) hP⟩) (hw : wants ops sL o = some true := by exact rfl) (hd : o.dst = some d := by exact rfl) (hn : d < c.nt := by exact Nat.le_of_ble_eq_true rfl) (ho : o.op = .makeSlice t x y := by exact rfl) (hx : ev sL x = some (.int .i64 n, q) := by exact rfl) (hy : ev sL y = some (.int .i64 n, q') := by exact rfl) (hl : lk hP d = none := by exact rfl) (hb : bytes * n ≤ 281474976710656 := by first | omega | exact Nat.le_of_ble_eq_true rfl | (simp only [List.length_cons, List.length_nil, List.length_map, List.length_set, List.length_append, List.length_replicate, List.length_singleton, List.flatMap_cons, List.flatMap_nil]; omega)) (hn2 : n ≤ 9223372036854775807 := by first | omega | exact Nat.le_of_ble_eq_true rfl | (simp only [List.length_cons, List.length_nil, List.length_map, List.length_set, List.length_append, List.length_replicate, List.length_singleton, List.flatMap_cons, List.flatMap_nil]; omega)) (hz1 : z.oneCell' = true := by exact rfl) : aL P c ops Q (o :: rest) (⟨sL, hP⟩ : St) :=
  aL_make d hT hw hd hn ho hx hy hl hb hn2 hz1 k
theorem s_lit0 {t e kk bytes : Nat} {z : Value} (d : Nat) (hT : ElT P t e kk bytes z) (k : ∀ h : Value, h.oneCell' = true → aL P c ops Q rest ⟨put d (h, .val h) sL, put d (h, .own e kk 0 []) hP⟩) (hw : wants ops sL o = some true := by exact rfl) (hd : o.dst = some d := by exact rfl) (hn : d < c.nt := by exact Nat.le_of_ble_eq_true rfl) (ho : o.op = .buildSlice t 0 #[] := by exact rfl) (hl : lk hP d = none := by exact rfl) : aL P c ops Q (o :: rest) (⟨sL, hP⟩ : St) :=
  aL_lit0 d hT hw hd hn ho hl k
theorem s_lit1 {t e kk bytes : Nat} {z : Value} {x : Operand} {v : Value} {p : PV} (d : Nat) (hT : ElT P t e 1 bytes z) (k : ∀ h : Value, h.oneCell' = true → aL P c ops Q rest ⟨put d (h, .val h) sL, put d (h, .own e 1 1 [p]) hP⟩) (hw : wants ops sL o = some true := by exact rfl) (hd : o.dst = some d := by exact rfl) (hn : d < c.nt := by exact Nat.le_of_ble_eq_true rfl) (ho : o.op = .buildSlice t 1 #[(0, x)] := by exact rfl) (hx : ev sL x = some (v, p) := by exact rfl) (h10 : one p = true := by first | exact rfl | assumption) (hl : lk hP d = none := by exact rfl) : aL P c ops Q (o :: rest) (⟨sL, hP⟩ : St) :=
  aL_lit1 (kk := 1) d hT hw hd hn ho hx h10 hl k
theorem s_lit1a {t e kk bytes : Nat} {z : Value} {x : Operand} {v : Value} {ps : List PV} (d : Nat) (hT : ElT P t e kk bytes z) (k : ∀ h : Value, h.oneCell' = true → aL P c ops Q rest ⟨put d (h, .val h) sL, put d (h, .own e kk 1 ps) hP⟩) (hw : wants ops sL o = some true := by exact rfl) (hd : o.dst = some d := by exact rfl) (hn : d < c.nt := by exact Nat.le_of_ble_eq_true rfl) (ho : o.op = .buildSlice t 1 #[(0, x)] := by exact rfl) (hx : ev sL x = some (v, .agg ps) := by exact rfl) (hps : ps.length = kk := by exact rfl) (hkb : kk ≤ 1000 := by decide) (hl : lk hP d = none := by exact rfl) : aL P c ops Q (o :: rest) (⟨sL, hP⟩ : St) :=
  aL_lit1a d hT hw hd hn ho hx hps hkb hl k
theorem s_litn {t e bytes m : Nat} {z : Value} {xs : List Operand} {parts : Array (Nat × Operand)} {es : List Ent} (d : Nat) (hT : ElT P t e 1 bytes z) (k : ∀ h : Value, h.oneCell' = true → aL P c ops Q rest ⟨put d (h, .val h) sL, put d (h, .own e 1 m (es.map (·.2))) hP⟩) (hw : wants ops sL o = some true := by exact rfl) (hd : o.dst = some d := by exact rfl) (hn : d < c.nt := by exact Nat.le_of_ble_eq_true rfl) (ho : o.op = .buildSlice t m parts := by exact rfl) (hpt : parts = ((xs.zipIdx).map fun x => (x.2, x.1)).toArray := by exact rfl) (hx : evL sL xs = some es := by exact rfl) (h1 : es.all (fun x => one x.2) = true := by exact rfl) (hm : es.length = m := by exact rfl) (hm0 : 0 < m := by decide) (hm1 : m ≤ 1000 := by decide) (hl : lk hP d = none := by exact rfl) : aL P c ops Q (o :: rest) (⟨sL, hP⟩ : St) :=
  aL_litn d hT hw hd hn ho hpt hx h1 hm hm0 hm1 hl k
theorem s_st {t j e kk n : Nat} {x y : Operand} {h v : Value} {q p : PV} {cs : List PV} (l : Nat) (hT : NoAgg P t = true) (hsz : (P.info? t).map (·.size) = some 1) (k : aL P c ops Q rest ⟨sL, put l (h, .own e kk n (cs.set j p)) hP⟩) (hw : wants ops sL o = some true := by exact rfl) (hd : o.dst = none := by exact rfl) (ho : o.op = .store t x y := by exact rfl) (hx : ev sL x = some (padd (sbase h) j, q) := by exact rfl) (hy : ev sL y = some (v, p) := by exact rfl) (h1 : one p = true := by first | exact rfl | assumption) (hl : lk hP l = some (h, .own e kk n cs) := by exact rfl) (hj : j < cs.length := by first | omega | exact Nat.le_of_ble_eq_true rfl | (simp only [List.length_cons, List.length_nil, List.length_map, List.length_set, List.length_append, List.length_replicate, List.length_singleton, List.flatMap_cons, List.flatMap_nil]; omega)) : aL P c ops Q (o :: rest) (⟨sL, hP⟩ : St) :=
  aL_st1 l hw hd hT hsz ho hx hy h1 hl hj k
theorem s_sta {t j e kk n m : Nat} {x y : Operand} {h V : Value} {q : PV} {ps cs : List PV} (l : Nat) (hT : AggT P t m = true) (k : aL P c ops Q rest ⟨sL, put l (h, .own e kk n (setL cs j ps)) hP⟩) (hw : wants ops sL o = some true := by exact rfl) (hd : o.dst = none := by exact rfl) (ho : o.op = .store t x y := by exact rfl) (hx : ev sL x = some (padd (sbase h) j, q) := by exact rfl) (hy : ev sL y = some (V, .agg ps) := by exact rfl) (hm : ps.length = m := by exact rfl) (h1 : ps.all one = true := by first | exact rfl | (simp only [List.all_cons, List.all_nil, Bool.and_true, Bool.and_eq_true]; (repeat (first | refine ⟨?_, ?_⟩ | rfl | assumption)))) (hl : lk hP l = some (h, .own e kk n cs) := by exact rfl) (hj : j + m ≤ cs.length := by first | omega | exact Nat.le_of_ble_eq_true rfl | (simp only [List.length_cons, List.length_nil, List.length_map, List.length_set, List.length_append, List.length_replicate, List.length_singleton, List.flatMap_cons, List.flatMap_nil]; omega)) (hm0 : 0 < m := by decide) : aL P c ops Q (o :: rest) (⟨sL, hP⟩ : St) :=
  aL_sta l hw hd hT ho hx hy hm h1 hl hj hm0 k
theorem s_mkmap {t : Nat} (d : Nat) (k : ∀ m : Value, m.oneCell' = true → aL P c ops Q rest ⟨put d (m, .val m) sL, put d (m, .omap []) hP⟩) (hw : wants ops sL o = some true := by exact rfl) (hd : o.dst = some d := by exact rfl) (hn : d < c.nt := by exact Nat.le_of_ble_eq_true rfl) (ho : o.op = .makeMap t none := by exact rfl) (hl : lk hP d = none := by exact rfl) : aL P c ops Q (o :: rest) (⟨sL, hP⟩ : St) :=
  aL_mkmap d hw hd hn ho hl k
theorem s_mput {t ks e : Nat} {kd : TypeDesc} {z : Value} {x y u : Operand} {m k v : Value} {kv : List (Value × Value)} {p q r : PV} (l : Nat) (hT : MpT P t ks e kd z) (kk : aL P c ops Q rest ⟨sL, put l (m, .omap (mput kv k v)) hP⟩) (hw : wants ops sL o = some true := by exact rfl) (hd : o.dst = none := by exact rfl) (ho : o.op = .mapUpdate t x y u := by exact rfl) (hx : ev sL x = some (m, p) := by exact rfl) (hl : lk hP l = some (m, .omap kv) := by exact rfl) (hy : ev sL y = some (k, q) := by exact rfl) (hu : ev sL u = some (v, r) := by exact rfl) (hk : kok kd k kv := by first | exact kok_skv _ _ | exact kok_ikv _ _ | exact kok_nil _ _ | assumption) (hbits : bits k = true := by exact rfl) : aL P c ops Q (o :: rest) (⟨sL, hP⟩ : St) :=
  aL_mput l hw hd hT ho hx hl hy hu hk hbits kk
theorem s_app {t ty e kk bytes n m : Nat} {z : Value} {x y : Operand} {h h2 : Value} {q q2 : PV} {cs cs2 : List PV} (l : Nat) (l2 : Nat) (d : Nat) (hT : ElT P t e kk bytes z) (k : ∀ h' : Value, h'.oneCell' = true → aL P c ops Q rest ⟨put d (h', .val h') sL, put d (h', .own e kk (n + m) (cs ++ cs2)) (del l2 (del l hP))⟩) (hw : wants ops sL o = some true := by exact rfl) (hd : o.dst = some d := by exact rfl) (hn : d < c.nt := by exact Nat.le_of_ble_eq_true rfl) (hty : o.type = ty := by exact rfl) (ho : o.op = .call { callee := .builtin .append, args := #[x, y], argTypes := #[t, t] } := by exact rfl) (hx : ev sL x = some (h, q) := by exact rfl) (hy : ev sL y = some (h2, q2) := by exact rfl) (hll : Nat.beq l l2 = false := by exact rfl) (hl : lk hP l = some (h, .own e kk n cs) := by exact rfl) (hl2 : lk hP l2 = some (h2, .own e kk m cs2) := by exact rfl) (hdl : lk (del l2 (del l hP)) d = none := by exact rfl) (hm : 0 < m := by decide) (hok : cs2.all cellOk = true := by first | exact rfl | (simp only [List.all_cons, List.all_nil, Bool.and_true, Bool.and_eq_true]; (repeat (first | refine ⟨?_, ?_⟩ | rfl | assumption)))) (hlen : n + m ≤ 9223372036854775807 := by first | omega | exact Nat.le_of_ble_eq_true rfl | (simp only [List.length_cons, List.length_nil, List.length_map, List.length_set, List.length_append, List.length_replicate, List.length_singleton, List.flatMap_cons, List.flatMap_nil]; omega)) (hb : (n + m) * bytes ≤ 140737488355328 := by first | omega | exact Nat.le_of_ble_eq_true rfl | (simp only [List.length_cons, List.length_nil, List.length_map, List.length_set, List.length_append, List.length_replicate, List.length_singleton, List.flatMap_cons, List.flatMap_nil]; omega)) (hdr : ¬ c.dr := by exact id) : aL P c ops Q (o :: rest) (⟨sL, hP⟩ : St) :=
  aL_append l l2 d hT hw hd hn hty ho hx hy hll hl hl2 hdl hm hok hlen hb hdr k
theorem bLd {l : List Oper} (t : Nat) {p : Prop} {_ : Decidable p} {q : PV} (ht : p → aL P c ops Q l ⟨put t (.bool true, .val (.bool true)) sL, hP⟩) (hf : ¬ p → aL P c ops Q l ⟨put t (.bool false, .val (.bool false)) sL, hP⟩) (hx : lk sL t = some (.bool (decide p), q) := by exact rfl) : aL P c ops Q l (⟨sL, hP⟩ : St) :=
  aL_bcase t hx (fun h => ht (of_decide_eq_true h)) (fun h => hf (of_decide_eq_false h))
theorem bDd (t : Nat) {p : Prop} {_ : Decidable p} {q : PV} (ht : p → aD P c ops Q Z K fuel listed ⟨put t (.bool true, .val (.bool true)) sL, hP⟩) (hf : ¬ p → aD P c ops Q Z K fuel listed ⟨put t (.bool false, .val (.bool false)) sL, hP⟩) (hx : lk sL t = some (.bool (decide p), q) := by exact rfl) : aD P c ops Q Z K fuel listed (⟨sL, hP⟩ : St) :=
  aD_bcase t hx (fun h => ht (of_decide_eq_true h)) (fun h => hf (of_decide_eq_false h))
theorem cC {x : Operand} {t e : Code} {b : Bool} {q : PV} (ht : b = true → aC P c t Q (⟨sL, hP⟩ : St)) (hf : b = false → aC P c e Q (⟨sL, hP⟩ : St)) (hx : ev sL x = some (.bool b, q) := by exact rfl) : aC P c (.cond x t e) Q (⟨sL, hP⟩ : St) := aC_cond hx ht hf
theorem cCd {x : Operand} {t e : Code} {p : Prop} {_ : Decidable p} {q : PV} (ht : p → aC P c t Q (⟨sL, hP⟩ : St)) (hf : ¬ p → aC P c e Q (⟨sL, hP⟩ : St)) (hx : ev sL x = some (.bool (decide p), q) := by exact rfl) : aC P c (.cond x t e) Q (⟨sL, hP⟩ : St) := aC_cond hx (fun h => ht (of_decide_eq_true h)) (fun h => hf (of_decide_eq_false h))
theorem cCt {x : Operand} {t e : Code} {q : PV} (ht : aC P c t Q (⟨sL, hP⟩ : St)) (hx : ev sL x = some (.bool true, q) := by exact rfl) : aC P c (.cond x t e) Q (⟨sL, hP⟩ : St) := aC_cond hx (fun _ => ht) (fun h => Bool.noConfusion h)
theorem cCf {x : Operand} {t e : Code} {q : PV} (hf : aC P c e Q (⟨sL, hP⟩ : St)) (hx : ev sL x = some (.bool false, q) := by exact rfl) : aC P c (.cond x t e) Q (⟨sL, hP⟩ : St) := aC_cond hx (fun h => Bool.noConfusion h) (fun _ => hf)
theorem cA {dd : Prop} {f : Nat} {xs : Array Operand} {ats : Array TypeId} {es : List Ent} {ps : List PV} {R : PV → Prop} (hc : ∀ args w, (callFunc f args).run P w = .ok (.enter f args) w) (hA : AFd dd P f ps R) (ho : o.op = .call { callee := .value (.func f), args := xs, argTypes := ats } := by exact rfl) (hx : evL sL xs.toList = some es := by exact rfl) (hps : es.map (·.2) = ps := by exact rfl) (hdd : c.dr → dd := by first | exact id | exact fun h => h.elim | exact fun _ => trivial) : CallR P c (⟨sL, hP⟩ : St) o R :=
  callA ho hc hx (hps ▸ hA) hdd
theorem cS {p : PV} (d : Nat) (hC : CallR P c (⟨sL, hP⟩ : St) o (· = p)) (k : ∀ v, vOf p v → aL P c ops Q rest ⟨put d (v, p) sL, hP⟩) (hsh : isSh p = true := by exact rfl) (hw : wants ops sL o = some true := by exact rfl) (hd : o.dst = some d := by exact rfl) (hn : d < c.nt := by exact Nat.le_of_ble_eq_true rfl) : aL P c ops Q (o :: rest) (⟨sL, hP⟩ : St) :=
  aL_cs d hw hd hn hC fun p' hp => by subst hp; exact ⟨hsh, k⟩
theorem cO {p : PV} (d : Nat) (hC : CallR P c (⟨sL, hP⟩ : St) o (· = p)) (k : ∀ v, v.oneCell' = true → aL P c ops Q rest ⟨put d (v, .val v) sL, put d (v, p) hP⟩) (hok : cellOk p = true := by exact rfl) (hl : lk hP d = none := by exact rfl) (hw : wants ops sL o = some true := by exact rfl) (hd : o.dst = some d := by exact rfl) (hn : d < c.nt := by exact Nat.le_of_ble_eq_true rfl) : aL P c ops Q (o :: rest) (⟨sL, hP⟩ : St) :=
  aL_co d hw hd hn hl hC fun p' hp => by subst hp; exact ⟨hok, k⟩
end
end Go.En

namespace Go.En
open Go.RowKit Go.Cb
set_option linter.all false
mutual
def shD : PV → Bool
  | .val _ => true
  | .sl _ _ => true
  | .sptr _ _ => true
  | .smap _ => true
  | .own _ _ _ _ => false
  | .omap _ => false
  | .obox _ _ _ => false
  | .agg ps => shDs ps
  | .tup ps => shDs ps
  | .fn _ _ => true
  | .oblk _ _ _ _ => false
def shDs : List PV → Bool
  | [] => true
  | p :: l => shD p && shDs l
end
theorem shDs_all : ∀ l : List PV, shDs l = l.all shD
  | [] => by simp [shDs]
  | p :: l => by simp [shDs, shDs_all l]
theorem Tr.shD {M : BS} {w : World} {v : Value} {p : PV} {F : BS} (h : Tr M w v p F) : En.shD p = true → Shr M w v p := by
  induction h with
  | shr h _ => exact fun _ => h
  | own => intro h; rw [En.shD] at h; cases h
  | omap => intro h; rw [En.shD] at h; cases h
  | oblk => intro h; rw [En.shD] at h; cases h
  | obox => intro h; rw [En.shD] at h; cases h
  | @agg ps F vs Fs hl h hd hF ih =>
    intro hs
    rw [En.shD, shDs_all] at hs
    exact .agg vs ps hl fun i v p hv hp => ih i v p hv hp (List.all_eq_true.1 hs p (List.mem_of_getElem? hp))
  | @tup ps F vs Fs hl h hd hF ih =>
    intro hs
    rw [En.shD, shDs_all] at hs
    exact .tup vs ps hl fun i v p hv hp => ih i v p hv hp (List.all_eq_true.1 hs p (List.mem_of_getElem? hp))
section
variable {P : Program} {c : Ctx} {ops : Array Oper} {Q : Exit → Act → World → Prop} {rest : List Oper} {st : St} {sL hP : List (Nat × Ent)} {o : Oper} {Z : Nat → Bool} {K : List Nat} {fuel : Nat} {listed : Array Bool}

theorem q_nilp {x : Operand} {v : Value} {j : Nat} {cs : List PV} (ho : o.op = .nilCheck x := by exact rfl) (hx : ev st.slots x = some (v, .sptr j cs) := by exact rfl) : YE P st o (· = v) (.sptr j cs) :=
  .exact fun M F a w H => by
    obtain ⟨hv, hs⟩ := H.ev hx
    cases hs with
    | sptr b off j cs vs hcell hT' => exact ⟨.sptr b off j cs vs hcell hT', by simp [execOp, ho, hv]⟩
theorem q_nilo {x : Operand} {h : Value} {q : PV} {j e k n : Nat} {cs : List PV} (l : Nat) (ho : o.op = .nilCheck x := by exact rfl) (hx : ev st.slots x = some (padd (sbase h) j, q) := by exact rfl) (hl : lk st.heap l = some (h, .own e k n cs) := by exact rfl) (hn : 0 < n := by first | omega | decide) : YE P st o (· = padd (sbase h) j) (.val (padd (sbase h) j)) :=
  .exact fun M F a w H => by
    have hv := (H.ev hx).1
    obtain ⟨g, cap, rfl, _⟩ := own_hdr (H.tr l _ _ hl) hn
    refine ⟨.val _, ?_⟩
    simp only [sbase, padd] at hv ⊢
    simp [execOp, ho, hv]

theorem freezeP {l t j e k n : Nat} {h : Value} {cs : List PV} {q : PV} (hl : lk hP l = some (h, .own e k n cs)) (hn : 0 < n) (ht : lk sL t = some (padd (sbase h) j, q)) : EntE (⟨sL, hP⟩ : St) (fun _ : Unit => ⟨put t (padd (sbase h) j, .sptr j (shares cs)) sL, del l hP⟩) := fun c a w ⟨F, H⟩ => by
  refine ⟨(), F, ?_⟩
  have hm : ∀ b, mof c (del l hP) F b → mof c hP F b := by
    rintro b (h | ⟨l', x, h1, h2⟩)
    · exact .inl h
    · exact .inr ⟨l', x, (lk_del h1).2, h2⟩
  have H1 : HoldsF c ⟨sL, del l hP⟩ F a w := H.less (fun _ _ h => h) (fun _ _ h => (lk_del h).2)
  refine ⟨H1.toHeapF, fun s u r hs => ?_, H.size, H.df⟩
  rcases lk_put hs with ⟨rfl, e1⟩ | ⟨_, hs'⟩
  · cases e1
    refine ⟨(H.sl t _ _ ht).1, ?_⟩
    obtain ⟨g, cap, rfl, _⟩ := own_hdr (H.tr l _ _ hl) hn
    have h2 := (H.tr l _ _ hl).share (M' := mof c (del l hP) F) (fun b _ h => hm b h) fun b hb hmb => by
      rcases hmb with h1 | ⟨l', x, h1, h2⟩
      · exact H.apart h1 hl hb
      · exact H.dj l l' _ _ b (lk_del h1).1 hl (lk_del h1).2 hb h2
    rw [share] at h2
    generalize shares cs = cs' at h2 ⊢
    cases h2 with
    | emp => omega
    | sl _ _ _ _ _ vs _ _ hcell hT => exact .sptr g 0 j cs' vs hcell hT
  · exact H1.sl s u r hs'
theorem cB {dd : Prop} {f : Nat} {xs : Array Operand} {ats : Array TypeId} {ps : List PV} {R : PV → Prop} (ho : o.op = .call { callee := .value (.func f), args := xs, argTypes := ats }) (hc : ∀ args w, (callFunc f args).run P w = .ok (.enter f args) w) (hA : AFd dd P f ps R) (hx : RdsL (⟨sL, hP⟩ : St) xs.toList ps) (hR : ∀ p, R p → nosh p = true := by rintro p rfl; exact rfl) (hdd : c.dr → dd := by first | exact id | exact fun h => h.elim | exact fun _ => trivial) : CallR P c (⟨sL, hP⟩ : St) o R := callB ho hc hx hA hR hdd
theorem aW_call {i d : Nat} {p : PV} (ho : ops[i]? = some o) (hC : CallR P c (⟨sL, hP⟩ : St) o (· = p)) (k : ∀ v, vOf p v → aD P c ops Q Z K fuel (listed.setIfInBounds i true) ⟨put d (v, p) sL, hP⟩) (hsh : shD p = true := by exact rfl) (hw : wants ops sL o = some true := by exact rfl) (hd : o.dst = some d := by exact rfl) (hn : d < c.nt := by exact Nat.le_of_ble_eq_true rfl) : aW P c ops Q Z K fuel listed (⟨sL, hP⟩ : St) i := fun a w F H C hC' => by
  refine wpOp_of_list (Q' := fun _ a' w' => (Z i = true ∨ C w') ∧ wpAnyS P .any ops Q C Z fuel (listed.setIfInBounds i true) a' w') ho (fun a' w' hq => hq) ?_
  have h1 := wanted_of H.rd hw
  unfold wpList
  rw [h1, if_pos rfl]
  refine .inl ?_
  obtain ⟨f, args, hr, hcall⟩ := hC a w F H
  unfold Oper.wp
  rw [hr, Oper.upon_enter]
  refine hcall.mono fun e w' ⟨v, q, Fr, e1, e2, e3, e4, e5, e6⟩ => ?_
  subst e1
  rw [show q = p from e2] at e4
  have hS := e4.shD hsh
  have H2 : HoldsF c ⟨put d (v, p) sL, hP⟩ F (a.put (some d) v) w' := put_up H e3 hn (hS.anti fun b _ h => .inl h)
  simp only [Oper.upon, hd]
  have hch : Chg (nK K hP F) w w' := e3.chg
  exact ⟨.inr (hC' w' hch), k v hS.vOf _ w' F H2 C fun W hW => hC' W (hch.tr hW fun b hb => .inl hb)⟩
theorem cD {p : PV} (d : Nat) (hC : CallR P c (⟨sL, hP⟩ : St) o (· = p)) (k : ∀ v, vOf p v → aL P c ops Q rest ⟨put d (v, p) sL, hP⟩) (hsh : shD p = true := by exact rfl) (hw : wants ops sL o = some true := by exact rfl) (hd : o.dst = some d := by exact rfl) (hn : d < c.nt := by exact Nat.le_of_ble_eq_true rfl) : aL P c ops Q (o :: rest) (⟨sL, hP⟩ : St) :=
  call_run hw hC fun a w F w' v p' Fr H hR hx hT hlo hdw => by
    rw [show p' = p from hR] at hT
    have hS := hT.shD hsh
    rw [hd]
    exact k v hS.vOf _ _ ⟨F, put_up H hx hn (hS.anti fun b _ h => .inl h)⟩
theorem cP {p1 p2 : PV} (d : Nat) (hC : CallR P c (⟨sL, hP⟩ : St) o (· = .tup [p1, p2])) (k : ∀ v1 v2, vOf p1 v1 → vOf p2 v2 → aL P c ops Q rest ⟨put d (.tuple [v1, v2].toArray, .tup [p1, p2]) sL, hP⟩) (hsh : shD (.tup [p1, p2]) = true := by exact rfl) (hw : wants ops sL o = some true := by exact rfl) (hd : o.dst = some d := by exact rfl) (hn : d < c.nt := by exact Nat.le_of_ble_eq_true rfl) : aL P c ops Q (o :: rest) (⟨sL, hP⟩ : St) :=
  call_run hw hC fun a w F w' v p' Fr H hR hx hT hlo hdw => by
    rw [show p' = .tup [p1, p2] from hR] at hT
    have hS := hT.shD hsh
    rw [hd]
    have hS' : Shr (mof c hP F) w' v (.tup [p1, p2]) := hS.anti fun b _ h => .inl h
    cases hS with
    | tup vs ps hl h =>
      match vs, hl, h, hS' with
      | [v1, v2], _, h, hS' => exact k v1 v2 (h 0 v1 p1 rfl rfl).vOf (h 1 v2 p2 rfl rfl).vOf _ _ ⟨F, put_up H hx hn hS'⟩
end
end Go.En

namespace Go.En
open Go.RowKit Go.Cb
set_option linter.all false
theorem nbeq (a b : Nat) : Nat.beq a b = (a == b) := by
  cases h : Nat.beq a b
  · exact (beq_eq_false_iff_ne.2 (fun e => by rw [e] at h; simp at h)).symm
  · exact (beq_iff_eq.2 (Nat.eq_of_beq_eq_true h)).symm
theorem nrm {A B : Prop} (h : B) (e : B → A := by intro h; (try simp only [minusK, onlyK, put, del, nbeq, List.elem, List.cons_append, List.nil_append, Nat.reduceBEq, cond_true, cond_false]); exact h) : A := e h
section
variable {P : Program} {c : Ctx} {sL hP : List (Nat × Ent)}
theorem cell_run {F : Nat → BS} {a : Act} {w : World} (H : HoldsF c (⟨sL, hP⟩ : St) F a w) {t ty k l e k' n : Nat} {h : Value} {q : PV} {cs : List PV} (hT : AggT P ty k = true) (ht : lk sL t = some (padd (sbase h) 0, q)) (hl : lk hP l = some (h, .own e k' n cs)) (hp : k ≤ cs.length) (hk : 0 < k) (hsh : (cs.take k).all isSh = true) :
    ∃ V A, (asAddr (a.tmps.getD t undef)).run P w = .ok A w ∧ (loadVar ty A).run P w = .ok V w ∧ Shr (mof c hP F) w V (.agg (cs.take k)) := by
  have hv := (H.sl t _ _ ht).1
  obtain ⟨xs, Fs, hrow, hlen, hTr, hd, hb, hF'⟩ := (H.tr l _ _ hl).row
  rcases row_form hrow with ⟨_, _, rfl⟩ | ⟨g, cap, rfl, h1, h2, h3⟩
  · simp at hlen; rw [hlen] at hp; simp at hp; omega
  refine ⟨.agg (xs.take k).toArray, ⟨g, 0, none⟩, ?_, ?_, .agg _ _ (by simp; omega) (fun i u p hu hp' => ?_)⟩
  · simp only [sbase, padd, Nat.zero_add] at hv
    simp [Array.getD_eq_getD_getElem?, hv, asAddr]
  · have hcl : ∀ i u, (xs.take k)[i]? = some u → w.cell? ((⟨g, 0, none⟩ : Addr).add i) = some u := fun i u hu => by
      have hi : i < k := by have := lt_of_get hu; simp at this; omega
      rw [List.getElem?_take_of_lt hi] at hu
      rw [add_none, Nat.zero_add]
      exact row_cell hrow hu
    have := run_loadCells_list (P := P) (w := w) ⟨g, 0, none⟩ _ hcl
    rw [show (xs.take k).length = k by simp; omega] at this
    simp [loadVar, AggT.run hT, AggT.size hT, this]
  · have hi : i < k := by have := lt_of_get hu; simp at this; omega
    have hps := List.all_eq_true.1 hsh p (List.mem_of_getElem? hp')
    rw [List.getElem?_take_of_lt hi] at hp' hu
    exact (hTr _ u p hu hp').sh hps
theorem ret_cell {fn : Func} {R : PV → Prop} {t ty k e k' n : Nat} {h : Value} {q : PV} {cs : List PV} (l : Nat) (hT : AggT P ty k = true) (hr : fn.results = #[.cell t ty]) (ht : lk sL t = some (padd (sbase h) 0, q)) (hl : lk hP l = some (h, .own e k' n cs)) (hp : k ≤ cs.length) (hk : 0 < k) (hsh : (cs.take k).all isSh = true) (hR : R (.agg (cs.take k))) (hN : ∀ b, ¬ c.N0 b := by intro _ h; exact h) : aR c (bodyPost P fn (RetAF c R)) (⟨sL, hP⟩ : St) := fun a w ⟨F, H⟩ => by
  obtain ⟨V, A, h0, h1, h2⟩ := cell_run H hT ht hl hp hk hsh
  refine ⟨H.df, V, ?_, V, _, fun _ => False, rfl, hR, H.ext.ext (fun b _ => hN b), .shr (h2.anti fun b _ hb => ?_) (fun _ h => h), fun _ h => h.elim, H.dw⟩
  · simp only [results, hr]
    simp at h0
    simp [h0, h1]
  · rcases hb with hb | hb
    · exact .inl hb
    · exact hb.elim
theorem ret_cs {fn : Func} {R : PV → Prop} {t ty s k e k' n : Nat} {h u : Value} {q p : PV} {cs : List PV} (l : Nat) (hT : AggT P ty k = true) (hr : fn.results = #[.cell t ty, .tmp s]) (ht : lk sL t = some (padd (sbase h) 0, q)) (hl : lk hP l = some (h, .own e k' n cs)) (hs : lk sL s = some (u, p)) (hp : k ≤ cs.length) (hk : 0 < k) (hsh : (cs.take k).all isSh = true) (hR : R (.tup [.agg (cs.take k), p])) (hN : ∀ b, ¬ c.N0 b := by intro _ h; exact h) : aR c (bodyPost P fn (RetAF c R)) (⟨sL, hP⟩ : St) := fun a w ⟨F, H⟩ => by
  obtain ⟨V, A, h0, h1, h2⟩ := cell_run H hT ht hl hp hk hsh
  obtain ⟨h3, h4⟩ := H.sl s _ _ hs
  have hM : ∀ b, b < w.heap.size → (c.M0 b ∨ False) → mof c hP F b := fun b _ hb => by
    rcases hb with hb | hb
    · exact .inl hb
    · exact hb.elim
  refine ⟨H.df, .tuple #[V, u], ?_, .tuple #[V, u], _, fun _ => False, rfl, hR, H.ext.ext (fun b _ => hN b), .shr (.tup [V, u] _ rfl fun i v q' hv hq' => ?_) (fun _ h => h), fun _ h => h.elim, H.dw⟩
  · simp only [results, hr]
    simp at h0
    simp [h0, h1, Array.getD_eq_getD_getElem?, h3]
  · match i with
    | 0 => simp at hv hq'; subst hv hq'; exact h2.anti hM
    | 1 => simp at hv hq'; subst hv hq'; exact h4.anti hM
    | i + 2 => simp at hv
end
end Go.En

namespace Go.En
open Go.RowKit Go.Cb Go.Proofs Go.Sort
set_option linter.all false

def SortC (P : Program) (fs g k : Nat) : Prop := ∀ {α : Type} [Inhabited α] (enc : α → List Value), (∀ x, (enc x).length = k) → (∀ x, ∀ v ∈ enc x, v.oneCell' = true) → ∀ (cf : α → α → Int), SWO (ltOf cf) → ∀ (blk cap : Nat) (d : Array α) (w : World),
  CmpLays P g #[] enc k cf blk 0 d.size w → HoldsK enc k w blk 0 d → blk < w.heap.size → d.size < 4611686018427387904 →
  Calls P fs #[.slice (some ⟨blk, 0, none⟩) d.size cap, .func (.func g) #[] #[]] w fun e w' => e = .returned (.tuple #[]) ∧ ∃ d' n os, PermIn 0 d.size d d' ∧ SortedIn (ltOf cf) 0 d.size d' ∧ w' = sortWorldK enc k w blk 0 n d' os

theorem sw_chg {α : Type} [Inhabited α] (enc : α → List Value) (k : Nat) (w : World) (blk m : Nat) (d : Array α) (os : Array Obj) : Chg (fun b => b = blk) w (sortWorldK enc k w blk 0 m d os) := by
  refine ⟨rfl, rfl, rfl, ?_, fun i hi hne => ?_⟩
  · simp [sortWorldK, grow, putRowK, putRow, mapBlock, ahead]
  · have : (sortWorldK enc k w blk 0 m d os).heap = (w.heap.modify blk (onCells (putCells id 0 (flatK enc k d)))) ++ os := rfl
    rw [this, Array.getElem?_append_left (by simpa using hi), Array.getElem?_modify, if_neg (fun e => hne e.symm)]
theorem sw_blk {α : Type} [Inhabited α] (enc : α → List Value) (k : Nat) (w : World) (blk m : Nat) (d : Array α) (os : Array Obj) {cur : Array Value} {e : TypeId} (h : w.heap[blk]? = some (.cells cur e (0, 0))) :
    (sortWorldK enc k w blk 0 m d os).heap[blk]? = some (.cells (putCells id 0 (flatK enc k d) cur) e (0, 0)) := by
  have hlt := blk_lt h
  have : (sortWorldK enc k w blk 0 m d os).heap = (w.heap.modify blk (onCells (putCells id 0 (flatK enc k d)))) ++ os := rfl
  rw [this, Array.getElem?_append_left (by simpa using hlt), Array.getElem?_modify, if_pos rfl, h]
  rfl
theorem put_take (f cur : Array Value) (h : f.size ≤ cur.size) : (putCells id 0 f cur).toList.take f.size = f.toList := by
  apply List.ext_getElem?
  intro j
  by_cases hj : j < f.size
  · rw [List.getElem?_take_of_lt hj]
    have hjc : j < cur.size := by omega
    simp [putCells, hj, hjc]
  · rw [List.getElem?_eq_none (by simp; omega), List.getElem?_eq_none (by simp; omega)]
section
variable {P : Program} {c : Ctx} {ops : Array Oper} {Q : Exit → Act → World → Prop} {rest : List Oper} {sL hP : List (Nat × Ent)} {o : Oper}
theorem aL_sort {β : Type} {fs g k e d l : Nat} {f : β → List PV} {cmp : β → β → Int} {rows : List β} {h : Value} {q q' : PV} {x y : Operand} {ats : Array TypeId} (hS : SortC P fs g k) (hf : ∀ x, (f x).length = k) (hk : 0 < k) (hsh : ∀ x, (f x).all (fun p => isSh p && one p) = true)
    (hirr : ∀ a, ¬ cmp a a < 0) (htr : ∀ a b c, cmp a b < 0 → cmp b c < 0 → cmp a c < 0) (hnt : ∀ a b c, ¬ cmp a b < 0 → ¬ cmp b c < 0 → ¬ cmp a c < 0)
    (hcmp : ∀ (x y : β) (M : BS) (W : World) (u v : Value), x ∈ rows → y ∈ rows → Shr M W u (.agg (f x)) → Shr M W v (.agg (f y)) → Calls P g #[u, v] W fun e w' => e = .returned (.int .i64 (cmp x y)) ∧ ∃ q os', w' = grow (W.drewN q) os')
    (hn : 0 < rows.length) (hn2 : rows.length < 4611686018427387904)
    (hw : wants ops sL o = some true) (hd : o.dst = some d) (hdn : d < c.nt) (ho : o.op = .call { callee := .value (.func fs), args := #[x, y], argTypes := ats }) (hc : ∀ args w, (callFunc fs args).run P w = .ok (.enter fs args) w) (hx : ev sL x = some (h, q)) (hy : ev sL y = some (.func (.func g) #[] #[], q')) (hl : lk hP l = some (h, .own e k rows.length (rows.flatMap f)))
    (kk : ∀ rows' : List β, rows'.Perm rows → (∀ (i j : Nat) (a b : β), i < j → rows'[i]? = some a → rows'[j]? = some b → ¬ cmp b a < 0) → aL P c ops Q rest ⟨put d (.tuple #[], .val (.tuple #[])) sL, put l (h, .own e k rows.length (rows'.flatMap f)) hP⟩) : aL P c ops Q (o :: rest) (⟨sL, hP⟩ : St) :=
  aL_run hw fun a w F H => by
    have hxv := (H.rd.ev hx).1
    have hyv := (H.rd.ev hy).1
    have hTr := H.tr l _ _ hl
    obtain ⟨xs, Fs, hrow, hlen, hT, hdj, hb, hF⟩ := hTr.row
    obtain ⟨blk, cap, hh, hc1, hc2, hc3⟩ := own_hdr hTr hn
    have hfl := flat_len hf rows
    have hblkF : F l blk := (hF blk).2 (.inl (by rw [hh]; rfl))
    have hblkM : mof c hP F blk := .inr ⟨l, _, hl, hblkF⟩
    -- the elements, by their places
    haveI : Inhabited (Fin rows.length) := ⟨⟨0, hn⟩⟩
    let enc : Fin rows.length → List Value := fun i => (xs.drop (i.1 * k)).take k
    have hxl : xs.length = rows.length * k := by omega
    have henc : ∀ i : Fin rows.length, (enc i).length = k := fun i => by
      have h1 : (i.1 + 1) * k ≤ rows.length * k := Nat.mul_le_mul_right k i.2
      rw [Nat.add_mul, Nat.one_mul] at h1
      simp [enc]; omega
    have hget : ∀ (i : Fin rows.length) (j : Nat), j < k → (enc i)[j]? = xs[i.1 * k + j]? := fun i j hj => by
      simp only [enc]
      rw [List.getElem?_take_of_lt hj, List.getElem?_drop]
    have hrd : ∀ (i : Fin rows.length) (j : Nat) (v : Value) (p : PV), (enc i)[j]? = some v → (f rows[i.1])[j]? = some p → Shr (mof c hP F) w v p ∧ isSh p = true ∧ one p = true := fun i j v p hv hp => by
      have hj : j < k := by rw [← hf]; exact lt_of_get hp
      rw [hget i j hj] at hv
      have hp2 : (rows.flatMap f)[i.1 * k + j]? = some p := by rw [flat_at hf (List.getElem?_eq_getElem i.2) hj]; exact hp
      have := List.all_eq_true.1 (hsh rows[i.1]) p (List.mem_of_getElem? hp)
      rw [Bool.and_eq_true] at this
      exact ⟨(hT _ v p hv hp2).sh this.1, this.1, this.2⟩
    have hone : ∀ (i : Fin rows.length), ∀ v ∈ enc i, v.oneCell' = true := fun i v hv => by
      obtain ⟨j, hj, rfl⟩ := List.getElem_of_mem hv
      have hjk : j < k := by rw [← henc i]; exact hj
      obtain ⟨p, hp⟩ := get_of_lt (show j < (f rows[i.1]).length by rw [hf]; exact hjk)
      obtain ⟨h1, _, h3⟩ := hrd i j _ p (List.getElem?_eq_getElem hj) hp
      exact h1.one h3
    let cf : Fin rows.length → Fin rows.length → Int := fun i j => cmp rows[i.1] rows[j.1]
    have hO : SWO (ltOf cf) := ⟨fun i => decide_eq_false (hirr _), fun i j m h1 h2 => decide_eq_true (htr _ _ _ (of_decide_eq_true h1) (of_decide_eq_true h2)), fun i j m h1 h2 => decide_eq_false (hnt _ _ _ (of_decide_eq_false h1) (of_decide_eq_false h2))⟩
    let ds : Array (Fin rows.length) := Array.ofFn id
    have hds : ds.size = rows.length := by simp [ds]
    have hdg : ∀ j (hj : j < rows.length), ds[j]! = ⟨j, hj⟩ := fun j hj => by simp [ds, hj]
    have hagg : ∀ (i : Fin rows.length) (W : World), Chg (fun b => b = blk) w W → Shr (mof c hP F) W (.agg (enc i).toArray) (.agg (f rows[i.1])) := fun i W hW => by
      refine .agg _ _ (by rw [henc, hf]) fun j v p hv hp => ?_
      exact (hrd i j v p hv hp).1.to hW (fun b _ hb => by rw [hb]; exact hblkM) (fun _ _ h => h)
    have hcl : CmpLays P g #[] enc k cf blk 0 ds.size w := fun m os dk _ i j => by
      have hW := sw_chg enc k w blk m dk os
      exact hcmp rows[i.1] rows[j.1] _ _ _ _ (List.getElem_mem _) (List.getElem_mem _) (hagg i _ hW) (hagg j _ hW)
    have hHold : HoldsK enc k w blk 0 ds := fun t ht => by
      rw [size_flatK, hds] at ht
      have hdiv : t / k < rows.length := by rw [Nat.div_lt_iff_lt_mul hk]; exact ht
      have hmod : t % k < k := Nat.mod_lt _ hk
      have he : t / k * k + t % k = t := by rw [Nat.mul_comm]; exact Nat.div_add_mod _ _
      rw [get_flatK _ _ _ _ (by rw [hds]; exact ht), hdg _ hdiv]
      have hg2 := hget ⟨t / k, hdiv⟩ (t % k) hmod
      simp only at hg2
      rw [he] at hg2
      obtain ⟨v, hv⟩ := get_of_lt (show t < xs.length by omega)
      rw [hv] at hg2
      have hrow' := hrow
      rw [hh] at hrow'
      refine ⟨?_, by rw [Nat.zero_add]; exact hrow'.frozenAt t⟩
      rw [Nat.zero_add, row_cell hrow' hv]
      have : (enc ⟨t / k, hdiv⟩)[t % k]! = v := by
        rw [getElem!_def, hg2]
      rw [id, this]
    have hcall := hS enc henc hone cf hO blk cap ds w hcl hHold hc3 (by rw [hds]; exact hn2)
    rw [hds] at hcall
    unfold Oper.wp
    have hrun : (execOp a.eval o).run P w = .ok (.enter fs #[h, .func (.func g) #[] #[]]) w := by
      have hev : a.eval (.func fs) = .func (.func fs) #[] #[] := rfl
      simp [execOp, ho, resolve, Deferred.ofValue, hev, invoke, hxv, hyv, hc]
    rw [hrun, Oper.upon_enter, hh]
    refine hcall.mono fun e' w' ⟨he', d', m, os, hperm, hsorted, hw'⟩ => ?_
    subst he'
    have hd's : d'.size = rows.length := by rw [hperm.1, hds]
    have hpl : d'.toList.Perm ds.toList := by
      have h2 := hperm.2.2
      have e1 : (ds.extract 0 rows.length).toList = ds.toList := by
        rw [Array.toList_extract]
        simp only [List.extract_eq_take_drop, List.drop_zero, Nat.sub_zero]
        exact List.take_of_length_le (by rw [Array.length_toList, hds]; exact Nat.le_refl _)
      have e2 : (d'.extract 0 rows.length).toList = d'.toList := by
        rw [Array.toList_extract]
        simp only [List.extract_eq_take_drop, List.drop_zero, Nat.sub_zero]
        exact List.take_of_length_le (by rw [Array.length_toList, hd's]; exact Nat.le_refl _)
      rw [e1, e2] at h2
      exact h2
    let rows' : List β := d'.toList.map fun i => rows[i.1]
    have hr's : rows'.length = rows.length := by simp [rows', hd's]
    have hdl : ds.toList.map (fun i : Fin rows.length => rows[i.1]) = rows := by
      apply List.ext_getElem
      · simp [ds]
      · intro j h1 h2
        simp [ds]
    have hrp : rows'.Perm rows := by
      have := hpl.map fun i : Fin rows.length => rows[i.1]
      rw [hdl] at this
      exact this
    have hat : ∀ j (hj : j < rows.length), ∃ i : Fin rows.length, d'[j]! = i ∧ rows'[j]? = some rows[i.1] := fun j hj => by
      have hj' : j < d'.size := by omega
      refine ⟨d'[j], by simp [hj'], ?_⟩
      simp [rows', hj']
    rw [hd]
    refine kk rows' hrp (fun i j x y hij hx' hy' => ?_) _ _ ⟨fun l' => if l' = l then (fun b => b = blk) else F l', ?_⟩
    · have hjl : j < rows.length := by have := lt_of_get hy'; omega
      obtain ⟨i1, h1, h2⟩ := hat i (by omega)
      obtain ⟨j1, h3, h4⟩ := hat j hjl
      rw [h2] at hx'; cases hx'
      rw [h4] at hy'; cases hy'
      have h5 := hsorted i j (Nat.zero_le _) hij hjl
      rw [h1, h3] at h5
      simpa [ltOf, cf] using h5
    · have hch0 := sw_chg enc k w blk m d' os
      rw [← hw'] at hch0
      refine H.change (fun l' => l' = l) hdn (hch0.wid fun b hb' => .inl ⟨l, _, rfl, hl, by rw [hb']; exact hblkF⟩) (fun l' z hne hz => ?_) (fun l' z b hT' hz hb' => ?_) (fun hmm l' u p hT' hz => ?_) (fun l1 l2 _ _ _ h1 h2 hne => absurd (h1.trans h2.symm) hne) (fun _ => .val _) (fun _ => by rw [hw']; exact Nat.le_add_right _ _)
      · rcases lk_put hz with ⟨e1, _⟩ | ⟨_, e1⟩
        · exact absurd e1.symm hne
        · exact ⟨e1, by simp [hne]⟩
      · subst hT'
        simp only [if_true] at hb'
        exact .inl ⟨l', _, rfl, hl, by rw [hb']; exact hblkF⟩
      · subst hT'
        rw [lk_put_self] at hz
        cases hz
        simp only [if_true]
        rcases hrow.2 with ⟨e1, _⟩ | ⟨g', cap', cur, e1, _, e3, e4, e5, e6, e7⟩
        · rw [hh] at e1; cases e1
        · rw [hh] at e1
          cases e1
          have hfs : (flatK enc k d').size = rows.length * k := by rw [size_flatK, hd's]
          refine .own (flatK enc k d').toList (fun _ _ => False) ⟨by rw [Array.length_toList, hfs], .inr ⟨blk, cap, putCells id 0 (flatK enc k d') cur, hh, Nat.zero_le _, by rw [hw']; exact sw_blk enc k w blk m d' os e3, e4, e5, by simp [putCells]; exact e6, ?_⟩⟩ ((flat_len hf rows').trans ((congrArg (· * k) hr's).trans ((Array.length_toList (xs := flatK enc k d')).trans hfs).symm)) (fun t v p hv hp => ?_) (fun _ _ _ _ _ _ h => h.elim) (fun _ _ _ h => h.elim) (fun b => by rw [hh]; simp [Value.ownBlock, eq_comm])
          · rw [← hfs]
            exact put_take _ _ (by rw [hfs, e6]; exact Nat.mul_le_mul_right k e4)
          · have ht : t < rows.length * k := by have := lt_of_get hv; rw [Array.length_toList, hfs] at this; exact this
            have hdiv : t / k < rows.length := by rw [Nat.div_lt_iff_lt_mul hk]; exact ht
            have hmod : t % k < k := Nat.mod_lt _ hk
            have he : t / k * k + t % k = t := by rw [Nat.mul_comm]; exact Nat.div_add_mod _ _
            obtain ⟨i1, h1, h2⟩ := hat (t / k) hdiv
            have hp2 := flat_at hf h2 hmod
            rw [he, hp] at hp2
            have hv2 : v = (enc i1)[t % k]! := by
              have h3 := get_flatK enc k d' t (by rw [hd's]; exact ht)
              rw [h1] at h3
              rw [← h3, getElem!_def, ← Array.getElem?_toList, hv]
            have hlt : t % k < (enc i1).length := by rw [henc]; exact hmod
            have hv3 : (enc i1)[t % k]? = some v := by
              rw [hv2, getElem!_def, List.getElem?_eq_getElem hlt]
            exact .shr ((hrd i1 (t % k) v p hv3 hp2.symm).1.to (hch0.wid (N := fun b => b = blk) fun b hb' => .inl hb') (fun b _ hb' => by rw [hb']; exact hblkM) hmm) (fun _ h => h)
end
end Go.En

namespace Go.En
open Go.RowKit Go.Cb
set_option linter.all false
section
variable {P : Program} {c : Ctx} {ops : Array Oper} {Q : Exit → Act → World → Prop} {rest : List Oper} {st : St} {sL hP : List (Nat × Ent)} {o : Oper}
theorem slc_own {w : World} {e k n m : Nat} {h : Value} {xs : List Value} (hrow : w.ownsRow 0 e k h n xs) (hm : m ≤ n) : w.ownsRow 0 e k (slc h 0 m k) m (xs.take (m * k)) ∧ (slc h 0 m k).ownBlock = h.ownBlock := by
  rcases hrow.2 with ⟨rfl, rfl⟩ | ⟨g, cap, cur, rfl, hg, hh, h1, h2, h3, h4⟩
  · obtain rfl : m = 0 := by omega
    refine ⟨⟨by simp, .inl ⟨by simp [slc], rfl⟩⟩, by simp [slc]⟩
  · have hs : slc (.slice (some ⟨g, 0, none⟩) n cap) 0 m k = .slice (some ⟨g, 0, none⟩) m cap := by
      simp only [slc, Nat.zero_mul, Option.map_some, add_none, Nat.add_zero, Nat.sub_zero, ite_self]
    rw [hs]
    refine ⟨⟨?_, .inr ⟨g, cap, cur, rfl, hg, hh, by omega, h2, h3, ?_⟩⟩, rfl⟩
    · rw [List.length_take, hrow.1]; exact Nat.min_eq_left (Nat.mul_le_mul_right k hm)
    · rw [← h4, List.take_take, Nat.min_eq_left (Nat.mul_le_mul_right k hm)]
theorem trim {l e k n : Nat} {h : Value} {cs : List PV} (m : Nat) (hl : lk hP l = some (h, .own e k n cs)) (hm : m ≤ n) : EntE (⟨sL, hP⟩ : St) (fun _ : Unit => ⟨sL, put l (slc h 0 m k, .own e k m (cs.take (m * k))) hP⟩) := fun c a w ⟨F, H⟩ => by
  have hTr := H.tr l _ _ hl
  obtain ⟨xs, Fs, hrow, hlen, hT, hd, hb, hF⟩ := hTr.row
  obtain ⟨hrow', hown⟩ := slc_own hrow hm
  refine ⟨(), fun x => if x = l then (fun b => h.ownBlock = some b ∨ ∃ i, i < (cs.take (m * k)).length ∧ Fs i b) else F x, ?_⟩
  have hle : (cs.take (m * k)).length ≤ cs.length := by rw [List.length_take]; exact Nat.min_le_right _ _
  refine H.retell (fun x => x = l) (fun x y hnT hx => ?_) (fun x y b hTx hx hb' => ?_) (fun hmm x u q hTx hx => ?_) (fun x1 x2 y1 y2 b h1 h2 hne' => absurd (h1.trans h2.symm) hne')
  · have n1 : x ≠ l := hnT
    rw [lk_put_ne (Ne.symm n1)] at hx
    exact ⟨hx, by simp [n1]⟩
  · subst hTx
    simp only [if_true] at hb'
    refine ⟨x, _, rfl, hl, (hF b).2 ?_⟩
    rcases hb' with h1 | ⟨i, hi, h1⟩
    · exact .inl h1
    · exact .inr ⟨i, by omega, h1⟩
  · subst hTx
    rw [lk_put_self] at hx
    cases hx
    simp only [if_true]
    refine .own _ Fs hrow' (by rw [List.length_take, List.length_take, hlen]) (fun i x p hx9 hp => ?_) (fun i j b hi hj => hd i j b (by omega) (by omega)) (fun i b hi h1 h2 => hb i b (by omega) h1 (by rw [← hown]; exact h2)) (fun b => by rw [hown])
    have hi : i < m * k := by have := lt_of_get hx9; rw [List.length_take] at this; omega
    rw [List.getElem?_take_of_lt hi] at hx9 hp
    exact (hT i x p hx9 hp).anti hmm
theorem s_apps {t e kk bytes n m : Nat} {z : Value} {x y : Operand} {h v2 : Value} {q : PV} {cs cs2 : List PV} (l d : Nat) (hT : ElT P t e kk bytes z) (k : ∀ h' : Value, h'.oneCell' = true → aL P c ops Q rest ⟨put d (h', .val h') sL, put d (h', .own e kk (n + m) (cs ++ cs2)) (del l hP)⟩)
    (hlen2 : cs2.length = m * kk := by first | assumption | exact rfl) (hok : cs2.all one = true := by first | assumption | exact rfl) (hw : wants ops sL o = some true := by exact rfl) (hd : o.dst = some d := by exact rfl) (hn : d < c.nt := by exact Nat.le_of_ble_eq_true rfl) (ho : o.op = .call { callee := .builtin .append, args := #[x, y], argTypes := #[t, t] } := by exact rfl)
    (hx : ev sL x = some (h, q) := by exact rfl) (hy : ev sL y = some (v2, .sl m cs2) := by exact rfl) (hl : lk hP l = some (h, .own e kk n cs) := by exact rfl) (hdl : lk (del l hP) d = none := by exact rfl) (hlen : n + m ≤ 9223372036854775807 := by first | omega | exact Nat.le_of_ble_eq_true rfl | (simp only [List.length_cons, List.length_nil, List.length_map, List.length_set, List.length_append, List.length_replicate, List.length_singleton, List.flatMap_cons, List.flatMap_nil]; omega)) (hb : (n + m) * bytes ≤ 140737488355328 := by first | omega | exact Nat.le_of_ble_eq_true rfl | (simp only [List.length_cons, List.length_nil, List.length_map, List.length_set, List.length_append, List.length_replicate, List.length_singleton, List.flatMap_cons, List.flatMap_nil]; omega)) (hdr : ¬ c.dr := by exact id) : aL P c ops Q (o :: rest) (⟨sL, hP⟩ : St) := fun a w ⟨F, H⟩ => by
  have h1 : h.oneCell' = true := (H.tr l _ _ hl).cellOne rfl
  rcases Nat.eq_zero_or_pos m with h0 | h0
  · subst h0
    have : cs2 = [] := List.eq_nil_of_length_eq_zero (by rw [hlen2, Nat.zero_mul])
    subst this
    refine aL_app0 l d hT hw hd hn ho hx hy hl (aL_ent (relabel d hl hdl) fun _ => ?_) a w ⟨F, H⟩
    have := k h h1
    rw [List.append_nil] at this
    exact this
  · exact aL_app_src l d hT hw hd hn ho hx hy hl (src_shr hy h0) hlen2 hdl hok hlen hb hdr k a w ⟨F, H⟩
end
end Go.En

namespace Go.En
open Go.RowKit Go.Cb Go.Proofs Go.Sort
set_option linter.all false
def SortI (P : Program) (fs : Nat) : Prop := ∀ (blk cap : Nat) (zs : List Int) (w : World), Go.Sort.Holds (Value.int .i64) w blk 0 zs.toArray → blk < w.heap.size → zs.length < 4611686018427387904 →
  Calls P fs #[.slice (some ⟨blk, 0, none⟩) zs.length cap] w fun e w' => e = .returned (.tuple #[]) ∧ ∃ n os, w' = grow (putRow (Value.int .i64) (Go.Sort.ahead w n) blk 0 (zs.mergeSort fun x y => decide (x ≤ y)).toArray) os
section
variable {P : Program} {c : Ctx} {ops : Array Oper} {Q : Exit → Act → World → Prop} {rest : List Oper} {sL hP : List (Nat × Ent)} {o : Oper}
theorem put_takeI {α : Type} [Inhabited α] (enc : α → Value) (f : Array α) (cur : Array Value) (h : f.size ≤ cur.size) : (putCells enc 0 f cur).toList.take f.size = f.toList.map enc := by
  apply List.ext_getElem?
  intro j
  by_cases hj : j < f.size
  · rw [List.getElem?_take_of_lt hj]
    have hjc : j < cur.size := by omega
    simp [putCells, hj, hjc]
  · rw [List.getElem?_eq_none (by simp; omega), List.getElem?_eq_none (by simp; omega)]
theorem s_sortI {fs e d : Nat} {zs : List Int} {h : Value} {q : PV} {x : Operand} {ats : Array TypeId} (l : Nat) (hS : SortI P fs) (hc : ∀ args w, (callFunc fs args).run P w = .ok (.enter fs args) w)
    (kk : aL P c ops Q rest ⟨put d (.tuple #[], .val (.tuple #[])) sL, put l (h, .own e 1 zs.length ((zs.mergeSort fun x y => decide (x ≤ y)).map pInt)) hP⟩)
    (hn : 0 < zs.length) (hn2 : zs.length < 4611686018427387904 := by omega) (hw : wants ops sL o = some true := by exact rfl) (hd : o.dst = some d := by exact rfl) (hdn : d < c.nt := by exact Nat.le_of_ble_eq_true rfl) (ho : o.op = .call { callee := .value (.func fs), args := #[x], argTypes := ats } := by exact rfl) (hx : ev sL x = some (h, q) := by exact rfl) (hl : lk hP l = some (h, .own e 1 zs.length (zs.map pInt)) := by exact rfl) : aL P c ops Q (o :: rest) (⟨sL, hP⟩ : St) :=
  aL_run hw fun a w F H => by
    have hxv := (H.rd.ev hx).1
    have hTr := H.tr l _ _ hl
    obtain ⟨xs, Fs, hrow, hlen, hT, hdj, hb, hF⟩ := hTr.row
    obtain ⟨blk, cap, hh, hc1, hc2, hc3⟩ := own_hdr hTr hn
    have hblkF : F l blk := (hF blk).2 (.inl (by rw [hh]; rfl))
    have hxs : ∀ (j : Nat) (v : Value), xs[j]? = some v → ∃ z, zs[j]? = some z ∧ v = .int .i64 z := fun j v hv => by
      obtain ⟨p, hp⟩ := get_of_len hv hlen.symm
      have h1 := hp
      rw [List.getElem?_map, Option.map_eq_some_iff] at h1
      obtain ⟨z, hz, rfl⟩ := h1
      exact ⟨z, hz, ((hT j v _ hv hp).sh rfl).vOf⟩
    have hHold : Go.Sort.Holds (Value.int .i64) w blk 0 zs.toArray := fun j hj => by
      simp only [List.size_toArray] at hj
      have hrow' := hrow
      rw [hh] at hrow'
      obtain ⟨v, hv⟩ := get_of_lt (show j < xs.length by rw [← hlen, List.length_map]; exact hj)
      obtain ⟨z, hz, rfl⟩ := hxs j v hv
      refine ⟨?_, by rw [Nat.zero_add]; exact hrow'.frozenAt j⟩
      rw [Nat.zero_add, row_cell hrow' hv]
      have : zs.toArray[j]! = z := by
        have hz' := (List.getElem?_eq_some_iff.1 hz).2
        simp [hj, hz']
      rw [this]
    have hcall := hS blk cap zs w hHold hc3 hn2
    unfold Oper.wp
    have hrun : (execOp a.eval o).run P w = .ok (.enter fs #[h]) w := by
      have hev : a.eval (.func fs) = .func (.func fs) #[] #[] := rfl
      simp [execOp, ho, resolve, Deferred.ofValue, hev, invoke, hxv, hc]
    rw [hrun, Oper.upon_enter, hh]
    refine hcall.mono fun e' w' ⟨he', m, os, hw'⟩ => ?_
    subst he'
    have hsl : (zs.mergeSort fun x y => decide (x ≤ y)).length = zs.length := List.length_mergeSort _
    generalize hsd : (zs.mergeSort fun x y => decide (x ≤ y)) = sd at hsl hw' kk
    have hch0 : Chg (fun b => b = blk) w w' := by
      rw [hw']
      refine ⟨rfl, rfl, rfl, ?_, fun i hi hne => ?_⟩
      · simp [grow, putRow, mapBlock, Go.Sort.ahead]
      · have : (grow (putRow (Value.int .i64) (Go.Sort.ahead w m) blk 0 sd.toArray) os).heap = (w.heap.modify blk (onCells (putCells (Value.int .i64) 0 sd.toArray))) ++ os := rfl
        rw [this, Array.getElem?_append_left (by simpa using hi), Array.getElem?_modify, if_neg (fun e => hne e.symm)]
    rw [hd]
    refine kk _ _ ⟨fun l' => if l' = l then (fun b => b = blk) else F l', ?_⟩
    refine H.change (fun l' => l' = l) hdn (hch0.wid fun b hb' => .inl ⟨l, _, rfl, hl, by rw [hb']; exact hblkF⟩) (fun l' z hne hz => ?_) (fun l' z b hT' hz hb' => ?_) (fun hmm l' u p hT' hz => ?_) (fun l1 l2 _ _ _ h1 h2 hne => absurd (h1.trans h2.symm) hne) (fun _ => .val _) (fun _ => by rw [hw']; exact Nat.le_add_right _ _)
    · rcases lk_put hz with ⟨e1, _⟩ | ⟨_, e1⟩
      · exact absurd e1.symm hne
      · exact ⟨e1, by simp [hne]⟩
    · subst hT'
      simp only [if_true] at hb'
      exact .inl ⟨l', _, rfl, hl, by rw [hb']; exact hblkF⟩
    · subst hT'
      rw [lk_put_self] at hz
      cases hz
      simp only [if_true]
      rcases hrow.2 with ⟨e1, _⟩ | ⟨g', cap', cur, e1, _, e3, e4, e5, e6, e7⟩
      · rw [hh] at e1; cases e1
      · rw [hh] at e1
        cases e1
        have hlt := blk_lt e3
        refine .own (sd.map (Value.int .i64)) (fun _ _ => False) ⟨by rw [List.length_map, hsl, Nat.mul_one], .inr ⟨blk, cap, putCells (Value.int .i64) 0 sd.toArray cur, hh, Nat.zero_le _, ?_, e4, e5, by simp [putCells]; omega, ?_⟩⟩ (by simp) (fun t v p hv hp => ?_) (fun _ _ _ _ _ _ h => h.elim) (fun _ _ _ h => h.elim) (fun b => by rw [hh]; simp [Value.ownBlock, eq_comm])
        · rw [hw']
          have : (grow (putRow (Value.int .i64) (Go.Sort.ahead w m) blk 0 sd.toArray) os).heap = (w.heap.modify blk (onCells (putCells (Value.int .i64) 0 sd.toArray))) ++ os := rfl
          rw [this, Array.getElem?_append_left (by simpa using hlt), Array.getElem?_modify, if_pos rfl, e3]
          rfl
        · have := put_takeI (Value.int .i64) sd.toArray cur (by simp only [List.size_toArray]; rw [hsl, e6]; omega)
          simp only [List.size_toArray] at this
          rw [Nat.mul_one, ← hsl]; exact this
        · rw [List.getElem?_map, Option.map_eq_some_iff] at hv hp
          obtain ⟨z, hz, rfl⟩ := hv
          obtain ⟨z', hz', rfl⟩ := hp
          rw [hz] at hz'; cases hz'
          exact .shr (.val _) (fun _ h => h)
end
end Go.En

namespace Go.En
open Go.RowKit Go.Cb Go.Proofs Go.Sort
set_option linter.all false
theorem ext_grow {w w' : World} (h : Ext w w') (hd : w.drawn ≤ w'.drawn) : ∃ q os', w' = Go.Sort.grow (w.drewN q) os' := by
  refine ⟨w'.drawn - w.drawn, w'.heap.extract w.heap.size w'.heap.size, ?_⟩
  have hh : w'.heap = w.heap ++ w'.heap.extract w.heap.size w'.heap.size := by
    apply Array.ext_getElem?
    intro i
    rcases Nat.lt_or_ge i w.heap.size with hi | hi
    · rw [Array.getElem?_append_left hi]; exact Below.block h i hi
    · rw [Array.getElem?_append_right hi, Array.getElem?_extract]
      have hs := h.size
      rcases Nat.lt_or_ge i w'.heap.size with hi2 | hi2
      · rw [if_pos (by simp; omega), show w.heap.size + (i - w.heap.size) = i by omega]
      · rw [Array.getElem?_eq_none hi2, if_neg (by simp; omega)]
  have h1 := h.os
  have h2 := h.tape
  have h3 := h.output
  cases w' with
  | mk heap' tape' drawn' os' output' =>
    simp only at h1 h2 h3 hh hd
    simp only [Go.Sort.grow, World.drewN]
    rw [← hh, h1, h2, h3, show w.drawn + (drawn' - w.drawn) = drawn' by omega]
theorem AFg.exact {P : Program} {g : Nat} {ps : List PV} {x : Value} (h : AFg P g ps (· = .val x)) {M : BS} {W : World} {vs : List Value} (hl : vs.length = ps.length) (hv : ∀ (i : Nat) (v : Value) (p : PV), vs[i]? = some v → ps[i]? = some p → Shr M W v p) :
    Calls P g vs.toArray W fun e w' => e = .returned x ∧ ∃ q os', w' = Go.Sort.grow (W.drewN q) os' :=
  (h (fun _ => False) W vs (fun _ h => h.elim) hl (fun i v p h1 h2 => (hv i v p h1 h2).anti fun _ _ h => h.elim)).mono fun e w' ⟨v, p, F, h1, h2, h3, h4, _, h6⟩ => by
    subst h2
    have := (h4.sh rfl).vOf
    subst this
    exact ⟨h1, ext_grow h3 (h6 trivial)⟩
section
variable {P : Program} {c : Ctx} {ops : Array Oper} {Q : Exit → Act → World → Prop} {rest : List Oper} {sL hP : List (Nat × Ent)} {o : Oper}
end
end Go.En

namespace Go.En
open Go.RowKit Go.Cb Go.WideShapes Go.ChangeShapes Go.ChangeAt Go.Deep
set_option linter.all false

theorem weightsAll_mem {H : Type} (P : Program) (e : TypeId) {d : DataW H} {n : Nat} : ∀ {l : List (DataW H)}, d ∈ l → n ∈ d.weights P e → n ∈ DataW.weightsAll P e l
  | x :: l, h, hn => by
    rw [DataW.weightsAll, List.mem_append]
    rcases List.mem_cons.1 h with rfl | h
    · exact .inl hn
    · exact .inr (weightsAll_mem P e h hn)
theorem weightsEach_mem {H : Type} (P : Program) {d : DataW H} {t : TypeId} {n : Nat} : ∀ {ts : List TypeId} {l : List (DataW H)} (i : Nat), ts[i]? = some t → l[i]? = some d → n ∈ d.weights P t → n ∈ DataW.weightsEach P ts l
  | t' :: ts, x :: l, 0, h1, h2, hn => by
    simp at h1 h2
    subst h1 h2
    rw [DataW.weightsEach, List.mem_append]
    exact .inl hn
  | t' :: ts, x :: l, i + 1, h1, h2, hn => by
    rw [DataW.weightsEach, List.mem_append]
    exact .inr (weightsEach_mem P i (by simpa using h1) (by simpa using h2) hn)
structure Dec (P : Program) (t : TypeId) (k : Nat) {α : Type} (enc : α → List PV) (fit : α → Prop) : Prop where
  size : P.cellsOf t = k
  len : ∀ a, (enc a).length = k
  dec : ∀ {H : Type} (e : TypeId × Value → H) (w : World) (spare : Nat → Bool) (held : Bool) (fuel : Nat) (cs : List Value) (x : DataW H × List MemPlace), DataW.trod e P w 0 spare held fuel t cs = some x → (∀ n ∈ x.1.weights P t, n ≤ reachBytes) →
    ∃ a, fit a ∧ cs.length = k ∧ ∀ (i : Nat) (v : Value) (p : PV), cs[i]? = some v → (enc a)[i]? = some p → Shr (fun _ => False) w v p
section
variable {P : Program} {t : TypeId}
theorem one_at {v u : Value} {p q : PV} {w : World} (h : Shr (fun _ => False) w v p) (i : Nat) (h1 : [v][i]? = some u) (h2 : [p][i]? = some q) : Shr (fun _ => False) w u q := by
  cases i with
  | zero => simp at h1 h2; subst h1 h2; exact h
  | succ i => simp at h1
theorem dec_int (ht : P.underlying t = some (.int .i64)) (hs : P.cellsOf t = 1) : Dec P t 1 (fun n : Int => [pInt n]) (fun n => -9223372036854775808 ≤ n ∧ n ≤ 9223372036854775807) where
  size := hs
  len := fun _ => rfl
  dec := fun e w spare held fuel cs x h => by
    intro hwt
    obtain ⟨n, rfl, _, hw⟩ := DataW.trod_int ht h
    refine ⟨n, ?_, rfl, fun i v p h1 h2 => one_at (.val _) i h1 h2⟩
    simpa [Lit.wf, IntKind.min, IntKind.max, IntKind.signed, IntKind.bits] using hw
theorem dec_str (ht : P.underlying t = some .string) (hs : P.cellsOf t = 1) : Dec P t 1 (fun s : ByteArray => [pStr s]) (fun s => s.size ≤ 140737488355328) where
  size := hs
  len := fun _ => rfl
  dec := fun e w spare held fuel cs x h => by
    intro hwt
    obtain ⟨s, rfl, rfl, hw⟩ := DataW.trod_string ht h
    have hsz : s.size ≤ reachBytes := hwt s.size (by show s.size ∈ DataW.weights P t (.lit (.string s.data.toList)); rw [DataW.weights]; exact List.mem_singleton.2 (by rw [Array.length_toList]; rfl))
    exact ⟨s, by unfold reachBytes at hsz; omega, rfl, fun i v p h1 h2 => one_at (.val _) i h1 h2⟩
theorem dec_slice {α : Type} {e k : Nat} {enc : α → List PV} {fit : α → Prop} (ht : P.underlying t = some (.slice e)) (hs : P.cellsOf t = 1) (hk : 0 < k) (hby : 0 < P.bytesOf e) (D : Dec P e k enc fit) :
    Dec P t 1 (fun l : List α => [PV.sl l.length (l.flatMap enc)]) (fun l => l.length ≤ 140737488355328 ∧ ∀ x ∈ l, fit x) where
  size := hs
  len := fun _ => rfl
  dec := fun en w spare held fuel cs x h => by
    intro hwt
    rcases open_slice ht h with ⟨rfl, _⟩ | ⟨a, len, cap, m, n, Dt, Pl, rfl, _, hl, hm, hmm, rfl, hx⟩
    · exact ⟨[], ⟨by simp, by simp⟩, rfl, fun i v p h1 h2 => one_at (.emp none 0 (by unfold maxLen; omega) (fun _ => rfl)) i h1 h2⟩
    · rcases Nat.eq_zero_or_pos len with h0 | h0
      · subst h0
        exact ⟨[], ⟨by simp, by simp⟩, rfl, fun i v p h1 h2 => one_at (.emp (some a) cap hm (fun h => by cases h)) i h1 h2⟩
      have hlm : len ≤ m := by rw [hmm]; split <;> omega
      simp only [DataW.weights, ht] at hwt
      have hlen : len ≤ reachBytes := by
        have := hwt _ (List.mem_cons_self ..)
        simp only [List.length_map, List.length_range] at this
        exact Nat.le_trans (Nat.le_trans (Nat.le_add_right len _) (Nat.le_mul_of_pos_right _ hby)) this
      have hwi : ∀ i, i < len → ∀ n ∈ (Dt i).weights P e, n ≤ reachBytes := fun i hi n hn => hwt n (List.mem_cons_of_mem _ (List.mem_append.2 (.inl (weightsAll_mem P e (List.mem_map.2 ⟨i, by simpa using hi, rfl⟩) hn))))
      have key : ∀ i : Nat, ∃ (y : α × (Nat → Value)), i < len → fit y.1 ∧ ∀ (j : Nat) (p : PV), (enc y.1)[j]? = some p → w.cell? ((a.add (i * k)).add j) = some (y.2 j) ∧ Shr (fun _ => False) w (y.2 j) p := fun i => by
        obtain ⟨cs0, h10, h20⟩ := hx 0 (by omega)
        obtain ⟨y0, _⟩ := D.dec en w spare held n cs0 _ h20 (hwi 0 h0)
        by_cases hi : i < len
        · obtain ⟨cs', h1, h2⟩ := hx i (by omega)
          rw [D.size] at h1
          obtain ⟨_, hlen, hcell⟩ := World.cells?_some h1
          obtain ⟨y, hy, _, hS⟩ := D.dec en w spare held n cs' _ h2 (hwi i hi)
          refine ⟨(y, fun j => (cs'[j]?).getD undef), fun _ => ⟨hy, fun j p hp => ?_⟩⟩
          have hj : j < k := by rw [← D.len y]; exact lt_of_get hp
          obtain ⟨u, hu⟩ := get_of_lt (show j < cs'.length by omega)
          have := hcell j hj
          simp only [hu, Option.getD_some]
          exact ⟨by rw [this, hu], hS j u p hu hp⟩
        · exact ⟨(y0, fun _ => undef), fun h => absurd h hi⟩
      obtain ⟨Y, hY⟩ := Classical.skolem.1 key
      have hspot : ∃ b off, a = ⟨b, off, none⟩ := by
        obtain ⟨hf, hc⟩ := hY 0 h0
        obtain ⟨p, hp⟩ := get_of_lt (show 0 < (enc (Y 0).1).length by rw [D.len]; exact hk)
        have := (hc 0 p hp).1
        obtain ⟨b, off, spot⟩ := a
        have hspot : spot = none := by simpa [Addr.add] using World.cell?_spot this
        subst hspot
        exact ⟨b, off, rfl⟩
      obtain ⟨b, off, rfl⟩ := hspot
      have hflen : ((List.range len).map fun i => (Y i).1).length = len := by simp
      refine ⟨(List.range len).map fun i => (Y i).1, ⟨by rw [hflen]; unfold reachBytes at hlen; omega, fun x hx => ?_⟩, rfl, fun i v p h1 h2 => one_at ?_ i h1 h2⟩
      · obtain ⟨i, hi, rfl⟩ := List.mem_map.1 hx
        exact (hY i (by simpa using hi)).1
      · rw [hflen]
        have hat : ∀ (c : Nat) (p : PV), (((List.range len).map fun i => (Y i).1).flatMap enc)[c]? = some p → c / k < len ∧ (enc (Y (c / k)).1)[c % k]? = some p := fun c p hp => by
          have hc : c < len * k := by have := lt_of_get hp; rw [flat_len D.len, hflen] at this; exact this
          have hq : c / k < len := Nat.div_lt_of_lt_mul (by rw [Nat.mul_comm]; exact hc)
          have hget : ((List.range len).map fun i => (Y i).1)[c / k]? = some (Y (c / k)).1 := by simp [hq]
          have := flat_at D.len hget (Nat.mod_lt c hk)
          rw [Nat.mul_comm, Nat.div_add_mod] at this
          exact ⟨hq, by rw [← this]; exact hp⟩
        refine .sl b off len cap _ (fun c => (Y (c / k)).2 (c % k)) hl hm (fun c hc => ⟨?_, fun h => h⟩) (fun c p hp => ?_)
        · obtain ⟨p, hp⟩ := get_of_lt hc
          obtain ⟨hq, hp'⟩ := hat c p hp
          have := ((hY (c / k) hq).2 (c % k) p hp').1
          rw [add_none, add_none, Nat.add_assoc, Nat.mul_comm, Nat.div_add_mod] at this
          exact this
        · obtain ⟨hq, hp'⟩ := hat c p hp
          exact ((hY (c / k) hq).2 (c % k) p hp').2
theorem dec_field {H : Type} {α : Type} {e k o : Nat} {enc : α → List PV} {fit : α → Prop} (D : Dec P e k enc fit) {en : TypeId × Value → H} {w : World} {spare : Nat → Bool} {held : Bool} {n : Nat} {cs : List Value} {y : DataW H × List MemPlace}
    (h : DataW.trod en P w 0 spare held n e ((cs.drop o).take (P.cellsOf e)) = some y) (hwt : ∀ n ∈ y.1.weights P e, n ≤ reachBytes) : ∃ a, fit a ∧ ∀ (i : Nat) (v : Value) (p : PV), cs[o + i]? = some v → (enc a)[i]? = some p → Shr (fun _ => False) w v p := by
  obtain ⟨a, h1, _, h3⟩ := D.dec en w spare held n _ y h hwt
  refine ⟨a, h1, fun i v p hv hp => h3 i v p ?_ hp⟩
  have hi : i < k := by rw [← D.len a]; exact lt_of_get hp
  rw [D.size, List.getElem?_take_of_lt hi, List.getElem?_drop]; exact hv
theorem dec_map {α β : Type} {k : Nat} {enc : α → List PV} {enc' : β → List PV} {fit : α → Prop} {fit' : β → Prop} (g : α → β) (D : Dec P t k enc fit) (hl : ∀ b, (enc' b).length = k) (he : ∀ a, enc' (g a) = enc a) (h : ∀ a, fit a → fit' (g a)) : Dec P t k enc' fit' :=
  ⟨D.size, hl, fun e w s hd f cs x hx hy => let ⟨a, h1, h2, h3⟩ := D.dec e w s hd f cs x hx hy; ⟨g a, h a h1, h2, by rw [he]; exact h3⟩⟩
theorem split_at {cs : List Value} {A B : List PV} {k : Nat} {w : World} (hA : A.length = k) (h1 : ∀ (i : Nat) (v : Value) (p : PV), cs[i]? = some v → A[i]? = some p → Shr (fun _ => False) w v p)
    (h2 : ∀ (i : Nat) (v : Value) (p : PV), cs[k + i]? = some v → B[i]? = some p → Shr (fun _ => False) w v p) (i : Nat) (v : Value) (p : PV) (hv : cs[i]? = some v) (hp : (A ++ B)[i]? = some p) : Shr (fun _ => False) w v p := by
  rcases Nat.lt_or_ge i k with h | h
  · rw [List.getElem?_append_left (by omega)] at hp; exact h1 i v p hv hp
  · rw [List.getElem?_append_right (by omega)] at hp
    exact h2 (i - k) v p (by rw [Nat.add_sub_cancel' h]; exact hv) (by rw [← hA]; exact hp)
theorem dec_struct2 {α β : Type} {f0 f1 : Field} {k0 k1 : Nat} {enc0 : α → List PV} {enc1 : β → List PV} {fit0 : α → Prop} {fit1 : β → Prop} (ht : P.underlying t = some (.struct #[f0, f1])) (hs : P.cellsOf t = k0 + k1)
    (D0 : Dec P f0.type k0 enc0 fit0) (D1 : Dec P f1.type k1 enc1 fit1) (ho0 : f0.offset = 0) (ho1 : f1.offset = k0) : Dec P t (k0 + k1) (fun x : α × β => enc0 x.1 ++ enc1 x.2) (fun x => fit0 x.1 ∧ fit1 x.2) where
  size := hs
  len := fun x => by rw [List.length_append, D0.len, D1.len]
  dec := fun e w spare held fuel cs x h => by
    intro hwt
    obtain ⟨xs, n, _, rfl, hlen, hxl, hf⟩ := DataW.trod_struct ht h
    simp only [DataW.weights, ht] at hwt
    have g0 := hf 0 f0 rfl
    have g1 := hf 1 f1 rfl
    match xs, hxl with
    | [y0, y1], _ =>
    rw [ho0] at g0
    rw [ho1] at g1
    obtain ⟨a, ha, A⟩ := dec_field D0 g0 (fun n hn => hwt n (weightsEach_mem P 0 (by simp) (by simp) hn))
    obtain ⟨b, hb, B⟩ := dec_field D1 g1 (fun n hn => hwt n (weightsEach_mem P 1 (by simp) (by simp) hn))
    refine ⟨(a, b), ⟨ha, hb⟩, by rw [hlen, hs], split_at (D0.len a) (fun i v p hv hp => A i v p (by rw [Nat.zero_add]; exact hv) hp) B⟩
theorem dec_struct3 {α β γ : Type} {f0 f1 f2 : Field} {k0 k1 k2 : Nat} {enc0 : α → List PV} {enc1 : β → List PV} {enc2 : γ → List PV} {fit0 : α → Prop} {fit1 : β → Prop} {fit2 : γ → Prop} (ht : P.underlying t = some (.struct #[f0, f1, f2])) (hs : P.cellsOf t = k0 + k1 + k2)
    (D0 : Dec P f0.type k0 enc0 fit0) (D1 : Dec P f1.type k1 enc1 fit1) (D2 : Dec P f2.type k2 enc2 fit2) (ho0 : f0.offset = 0) (ho1 : f1.offset = k0) (ho2 : f2.offset = k0 + k1) :
    Dec P t (k0 + k1 + k2) (fun x : α × β × γ => enc0 x.1 ++ (enc1 x.2.1 ++ enc2 x.2.2)) (fun x => fit0 x.1 ∧ fit1 x.2.1 ∧ fit2 x.2.2) where
  size := hs
  len := fun x => by rw [List.length_append, List.length_append, D0.len, D1.len, D2.len]; omega
  dec := fun e w spare held fuel cs x h => by
    intro hwt
    obtain ⟨xs, n, _, rfl, hlen, hxl, hf⟩ := DataW.trod_struct ht h
    simp only [DataW.weights, ht] at hwt
    have g0 := hf 0 f0 rfl
    have g1 := hf 1 f1 rfl
    have g2 := hf 2 f2 rfl
    match xs, hxl with
    | [y0, y1, y2], _ =>
    rw [ho0] at g0
    rw [ho1] at g1
    rw [ho2] at g2
    obtain ⟨a, ha, A⟩ := dec_field D0 g0 (fun n hn => hwt n (weightsEach_mem P 0 (by simp) (by simp) hn))
    obtain ⟨b, hb, B⟩ := dec_field D1 g1 (fun n hn => hwt n (weightsEach_mem P 1 (by simp) (by simp) hn))
    obtain ⟨c, hc, C⟩ := dec_field D2 g2 (fun n hn => hwt n (weightsEach_mem P 2 (by simp) (by simp) hn))
    refine ⟨(a, b, c), ⟨ha, hb, hc⟩, by rw [hlen, hs], split_at (D0.len a) (fun i v p hv hp => A i v p (by rw [Nat.zero_add]; exact hv) hp) fun i v p hv hp => ?_⟩
    exact split_at (cs := cs.drop k0) (D1.len b) (fun i v p hv hp => B i v p (by rw [List.getElem?_drop] at hv; exact hv) hp) (fun i v p hv hp => C i v p (by rw [List.getElem?_drop, ← Nat.add_assoc] at hv; exact hv) hp) i v p (by rw [List.getElem?_drop]; exact hv) hp
theorem dec_struct4 {α β γ δ : Type} {f0 f1 f2 f3 : Field} {k0 k1 k2 k3 : Nat} {enc0 : α → List PV} {enc1 : β → List PV} {enc2 : γ → List PV} {enc3 : δ → List PV} {fit0 : α → Prop} {fit1 : β → Prop} {fit2 : γ → Prop} {fit3 : δ → Prop} (ht : P.underlying t = some (.struct #[f0, f1, f2, f3])) (hs : P.cellsOf t = k0 + k1 + k2 + k3)
    (D0 : Dec P f0.type k0 enc0 fit0) (D1 : Dec P f1.type k1 enc1 fit1) (D2 : Dec P f2.type k2 enc2 fit2) (D3 : Dec P f3.type k3 enc3 fit3) (ho0 : f0.offset = 0) (ho1 : f1.offset = k0) (ho2 : f2.offset = k0 + k1) (ho3 : f3.offset = k0 + k1 + k2) :
    Dec P t (k0 + k1 + k2 + k3) (fun x : α × β × γ × δ => enc0 x.1 ++ (enc1 x.2.1 ++ (enc2 x.2.2.1 ++ enc3 x.2.2.2))) (fun x => fit0 x.1 ∧ fit1 x.2.1 ∧ fit2 x.2.2.1 ∧ fit3 x.2.2.2) where
  size := hs
  len := fun x => by rw [List.length_append, List.length_append, List.length_append, D0.len, D1.len, D2.len, D3.len]; omega
  dec := fun e w spare held fuel cs x h => by
    intro hwt
    obtain ⟨xs, n, _, rfl, hlen, hxl, hf⟩ := DataW.trod_struct ht h
    simp only [DataW.weights, ht] at hwt
    have g0 := hf 0 f0 rfl
    have g1 := hf 1 f1 rfl
    have g2 := hf 2 f2 rfl
    have g3 := hf 3 f3 rfl
    match xs, hxl with
    | [y0, y1, y2, y3], _ =>
    rw [ho0] at g0
    rw [ho1] at g1
    rw [ho2] at g2
    rw [ho3] at g3
    obtain ⟨a, ha, A⟩ := dec_field D0 g0 (fun n hn => hwt n (weightsEach_mem P 0 (by simp) (by simp) hn))
    obtain ⟨b, hb, B⟩ := dec_field D1 g1 (fun n hn => hwt n (weightsEach_mem P 1 (by simp) (by simp) hn))
    obtain ⟨c, hc, C⟩ := dec_field D2 g2 (fun n hn => hwt n (weightsEach_mem P 2 (by simp) (by simp) hn))
    obtain ⟨d, hd, D⟩ := dec_field D3 g3 (fun n hn => hwt n (weightsEach_mem P 3 (by simp) (by simp) hn))
    refine ⟨(a, b, c, d), ⟨ha, hb, hc, hd⟩, by rw [hlen, hs], split_at (D0.len a) (fun i v p hv hp => A i v p (by rw [Nat.zero_add]; exact hv) hp) fun i v p hv hp => ?_⟩
    refine split_at (cs := cs.drop k0) (D1.len b) (fun i v p hv hp => B i v p (by rw [List.getElem?_drop] at hv; exact hv) hp) (fun i v p hv hp => ?_) i v p (by rw [List.getElem?_drop]; exact hv) hp
    exact split_at (cs := cs.drop (k0 + k1)) (D2.len c) (fun i v p hv hp => C i v p (by rw [List.getElem?_drop] at hv; exact hv) hp) (fun i v p hv hp => D i v p (by rw [List.getElem?_drop, ← Nat.add_assoc] at hv; exact hv) hp) i v p (by rw [List.getElem?_drop] at hv ⊢; rw [Nat.add_assoc]; exact hv) hp

section
variable {H : Type} {en : TypeId × Value → H} {w : World} {spare : Nat → Bool} {held : Bool} {r : Reach} {base : Nat} {v : Value} {d : DataW H} {ps : List MemPlace}
theorem okWide_one (hT : NoAgg P t = true) (h : Value.okWide P w r base t v) : v.cells = #[v] := by
  unfold NoAgg at hT
  unfold Value.okWide at h
  cases v <;> first | rfl | skip
  rename_i cs
  exfalso
  cases hu : P.underlying t with
  | none => rw [hu] at hT; simp at hT
  | some dd =>
    rw [hu] at hT h
    cases dd <;> simp_all [Cell.okWide, Cell.ok]
theorem arg1 {α : Type} {f : α → PV} {fit : α → Prop} (D : Dec P t 1 (fun a => [f a]) fit) (hT : NoAgg P t = true) (hv : Value.okWide P w r base t v) (h : DataW.Trod en P w 0 spare held t v d ps) (hwt : ∀ n ∈ d.weights P t, n ≤ reachBytes) : ∃ a, fit a ∧ Shr (fun _ => False) w v (f a) := by
  obtain ⟨fuel, hf⟩ := h
  rw [okWide_one hT hv] at hf
  obtain ⟨a, h1, _, h3⟩ := D.dec en w spare held fuel _ _ hf hwt
  exact ⟨a, h1, h3 0 v (f a) rfl rfl⟩
theorem argA {α : Type} {k : Nat} {enc : α → List PV} {fit : α → Prop} (D : Dec P t k enc fit) (hT : StrT P t = true) (hv : Value.okWide P w r base t v) (h : DataW.Trod en P w 0 spare held t v d ps) (hwt : ∀ n ∈ d.weights P t, n ≤ reachBytes) : ∃ a, fit a ∧ Shr (fun _ => False) w v (.agg (enc a)) := by
  obtain ⟨fuel, hf⟩ := h
  have : ∃ fs, P.underlying t = some (.struct fs) := by
    unfold StrT at hT
    split at hT
    · rename_i fs hfs; exact ⟨fs, hfs⟩
    · cases hT
  obtain ⟨fs, hfs⟩ := this
  obtain ⟨cs, rfl, hsz⟩ := okWide_struct hfs hv
  obtain ⟨a, h1, h2, h3⟩ := D.dec en w spare held fuel _ _ hf hwt
  refine ⟨a, h1, ?_⟩
  have := Shr.agg (M := fun _ => False) (w := w) cs.toList (enc a) (by rw [D.len a]; exact h2) h3
  simpa using this
end
theorem trodAll_back {H : Type} {enc : TypeId × Value → H} {P : Program} (hl : laidOutB P = true) {W W' : World} (hb : Below W.heap.size W W') : ∀ {ts : List TypeId} {vs : List Value} {ds : List (DataW H)} {ps : List MemPlace}, (ts.all fun t => P.readableRec t && decide (t < P.types.size)) = true →
    DataW.TrodAll enc P W 0 (fun _ => true) true ts vs ds ps → DataW.TrodAll enc P W' 0 (fun b => decide (b < W.heap.size)) true ts vs ds ps
  | [], [], [], ps, _, h => h
  | t :: ts, v :: vs, d :: ds, ps, ht, ⟨p, q, h1, h2, h3⟩ => by
    rw [List.all_cons, Bool.and_eq_true, Bool.and_eq_true] at ht
    refine ⟨p, q, Below.trod hl ht.1.1 (of_decide_eq_true ht.1.2) h1 hb ?_, trodAll_back hl hb ht.2 h2, h3⟩
    obtain ⟨m, hm⟩ := h1
    exact DataW.trod_lt m _ _ _ hm
theorem AF.law {P : Program} {f : FuncId} {ps : List PV} (hA : AF P f ps (· = .val (.bool true))) {W : World} {vs : List Value} (hl : vs.length = ps.length) (hv : ∀ (i : Nat) (v : Value) (p : PV), vs[i]? = some v → ps[i]? = some p → Shr (fun _ => False) W v p) :
    Calls P f vs.toArray W fun e w' => e = .returned (.bool true) ∧ Below W.heap.size W w' :=
  (hA (fun _ => False) W vs (fun _ h => h.elim) hl hv).mono fun e w' ⟨v, p, F, h1, h2, h3, h4, _⟩ => by
    subst h2
    have := (h4.sh rfl).vOf
    subst this
    exact ⟨h1, h3⟩
end
end Go.En
