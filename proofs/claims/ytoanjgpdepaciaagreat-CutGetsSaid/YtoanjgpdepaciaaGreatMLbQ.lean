/-
  Walks: cut.some, cut.And.
-/
import Derived.Test.YtoanjgpdepaciaaGreatLe
import Derived.Test.YtoanjgpdepaciaaGreatMLpE
namespace Go.Proofs.YtoanjgpdepaciaaGreat
open Go.RowKit Go.Cb Go.En
set_option linter.all false
set_option maxRecDepth 100000

theorem tAgg25_LbQ : AggT Tryz.prog 25 4 = true := by kernel_rfl
theorem tAgg28_LbQ : AggT Tryz.prog 28 2 = true := by kernel_rfl
theorem tEl81_LbQ : ElT Tryz.prog 81 3 1 8 (.int .i64 0) := ⟨Tryz.underlying81, by kernel_rfl, rfl, by decide⟩
theorem tEl92_LbQ : ElT Tryz.prog 92 81 1 24 (.slice none 0 0) := ⟨Tryz.underlying92, by kernel_rfl, rfl, by decide⟩
theorem tFl80_1_LbQ : FldT Tryz.prog 80 1 1 = true := by kernel_rfl
theorem tFl80_2_LbQ : FldT Tryz.prog 80 2 2 = true := by kernel_rfl
theorem tFl80_3_LbQ : FldT Tryz.prog 80 3 3 = true := by kernel_rfl
theorem tNa3_LbQ : NoAgg Tryz.prog 3 = true := by kernel_rfl
theorem tNa4_LbQ : NoAgg Tryz.prog 4 = true := by kernel_rfl
theorem tNa71_LbQ : NoAgg Tryz.prog 71 = true := by kernel_rfl
theorem tNa77_LbQ : NoAgg Tryz.prog 77 = true := by kernel_rfl
theorem tNa78_LbQ : NoAgg Tryz.prog 78 = true := by kernel_rfl
theorem tNa81_LbQ : NoAgg Tryz.prog 81 = true := by kernel_rfl
theorem tSl77_LbQ : SlT Tryz.prog 77 78 1 = true := by kernel_rfl
theorem tSl78_LbQ : SlT Tryz.prog 78 4 1 = true := by kernel_rfl
theorem tSl81_LbQ : SlT Tryz.prog 81 3 1 = true := by kernel_rfl
theorem tSl92_LbQ : SlT Tryz.prog 92 81 1 = true := by kernel_rfl
theorem tSt28_LbQ : stInfo Tryz.prog 28 = some ((.agg #[(.int .i64 0), (.slice none 0 0)]), ([0, 1] : List Nat).map fun o => (o, 1)) := by kernel_rfl
theorem tSz71_LbQ : (Tryz.prog.info? 71).map (·.size) = some 1 := by kernel_rfl
theorem tZr28_LbQ : ZeroT Tryz.prog 28 (.agg #[(.int .i64 0), (.slice none 0 0)]) := by unfold ZeroT; kernel_rfl
theorem tZr71_LbQ : ZeroT Tryz.prog 71 (.pointer none) := by unfold ZeroT; kernel_rfl

theorem row_base {w : World} {B e k n : Nat} {v : Value} {xs : List Value} (h : w.ownsRow B e k v n xs) : w.ownsRow 0 e k v n xs := ⟨h.1, h.2.imp id fun ⟨g, cap, cur, h1, _, h3⟩ => ⟨g, cap, cur, h1, Nat.zero_le _, h3⟩⟩
theorem ret_ownAF {w w' : World} {M : BS} {v : Value} {e : Ending} {n te : Nat} {xs : List Value} (h1 : e = .returned v) (h2 : Ext w w') (h3 : w'.ownsRow w.heap.size te 1 v n xs) : RetAF ⟨w, M, fun _ => False, 0, False⟩ (· = .own te 1 n (xs.map PV.val)) e w' := by
  refine ⟨v, _, fun b => v.ownBlock = some b, h1, rfl, h2, .own xs (fun _ _ => False) (row_base h3) (by simp) (fun i x p hx hp => ?_) (fun _ _ _ _ _ _ h => h.elim) (fun _ _ _ h => h.elim) (fun b => ⟨fun h => .inl h, fun h => h.elim id fun ⟨_, _, h⟩ => h.elim⟩), fun b hb => (h3.lt b hb).1, fun h => h.elim⟩
  rw [List.getElem?_map, hx] at hp
  cases hp
  exact .shr (.val _) (fun _ h => h)
theorem cloneInt_e (l : List Int) (hl : l.length ≤ 1000000) : AF Tryz.prog 70 [pInts l] (· = .own 3 1 l.length (l.map pInt)) := fun M w vs hM hlen hv => by
  obtain ⟨v, rfl⟩ := len1 hlen
  have hS := hv 0 v _ rfl rfl
  unfold pInts at hS
  generalize hn : l.length = n at hS
  generalize hcs : l.map pInt = cs at hS
  cases hS with
  | emp a c hc ha =>
    have : l = [] := List.eq_nil_of_length_eq_zero hn
    subst this
    cases a with
    | none => exact (Tryz.slices_Clone_int_nil 0 c w).mono fun e w' ⟨h1, h2⟩ => ret_ownAF (n := 0) (xs := []) h1 (h2 ▸ Ext.rfl' _) ⟨by simp, .inl ⟨rfl, rfl⟩⟩
    | some a => exact (Tryz.slices_Clone_int_zero a c w).mono fun e w' ⟨v', h1, h2, _, h3⟩ => ret_ownAF h1 h3 h2
  | sl b off n c cs vs' hnc hc hcell hT =>
    subst hn hcs
    refine (Tryz.slices_Clone_int b off l.length c l w (Nat.le_refl _) (by omega) (fun j hj => ?_)).mono fun e w' ⟨v', h1, h2, _, h3⟩ => ?_
    · obtain ⟨s, hs⟩ := get_of_lt hj
      have e1 := (hcell j (by rw [List.length_map]; exact hj)).1
      have e2 : vs' j = .int .i64 s := (hT j (pInt s) (by rw [List.getElem?_map, hs]; rfl)).vOf
      rw [e1, e2, List.getD, hs]; rfl
    · have := ret_ownAF (M := M) h1 h3 h2
      rw [List.take_length, List.map_map] at this
      exact this
def anyF (c : List Int) (f : Nat → Bool) : Bool := c.any fun x => f x.toNat
def wholeB (S F : Nat → Bool) (c : List Int) : Bool := anyF c S && anyF c F
theorem cSome1_e (n : Nat) (f : Nat → Bool) (x : Int) (hx : 0 ≤ x ∧ x < n) : AF Tryz.prog 111 [pInt x, .sptr 0 [pBools n f]] (· = pBool (f x.toNat)) := by
  obtain ⟨a, rfl⟩ : ∃ a : Nat, x = a := ⟨x.toNat, by omega⟩
  have e1 := vec_at1 (fun j => pBool (f j)) (show a < n by omega)
  refine AF.of_body 8 Tryz.func111 rfl Tryz.ntmps111 (Nat.le_of_ble_eq_true rfl) ?_
  intro w0 M0 vs hl hv
  obtain ⟨v0, v1, rfl⟩ := len2 hl
  obtain rfl := hv 0 _ _ rfl rfl
  clear hl hv
  refine nav ?_
  (refine aC_region ?_
    <;> refine xL 3 q_assign ?_
    <;> refine aL_end (nav ?_) <;> try dsimp only)
  (refine aC_region ?_
    <;> (refine yL 4 (q_ld tNa78_LbQ) fun v4 hv4 => ?_; cases hv4)
    <;> refine xL 5 q_move ?_
    <;> refine xL 6 (q_idxN tSl78_LbQ) ?_
    <;> (refine yL 7 (q_ld tNa4_LbQ) fun v7 hv7 => ?_; cases hv7)
    <;> refine xL 3 q_assign ?_
    <;> refine aL_end (nav ?_) <;> try dsimp only)
  exact ret_shr Tryz.results111 rfl rfl
theorem cSome_e (l : List Int) (n : Nat) (f : Nat → Bool) (hl : ∀ x ∈ l, 0 ≤ x ∧ x < n) : AF Tryz.prog 68 [pInts l, pBools n f] (· = pBool (anyF l f)) := by
  refine AF.of_body 8 Tryz.func68 rfl Tryz.ntmps68 (Nat.le_of_ble_eq_true rfl) ?_
  intro w0 M0 vs hl hv
  obtain ⟨v0, v1, rfl⟩ := len2 hl
  clear hl hv
  refine nav ?_
  (refine aC_region ?_
    <;> refine s_box 3 fun h3 => ?_
    <;> refine xL 4 q_assign ?_
    <;> refine aL_end (nav ?_) <;> try dsimp only)
  refine aC_ent (freezeP (l := 3) (t := 3) (j := 0) rfl Nat.one_pos rfl) fun _ => ?_
  try dsimp only [shares, share]
  (refine aC_region ?_
    <;> refine xL 5 q_move ?_
    <;> refine xL 6 q_mkfn ?_
    <;> (refine cS 7 (cA Tryz.call110 (containsFuncInt_e 111 [.sptr 0 [pBools n f]] (fun x => f x.toNat) l (Tryz.call111) (fun x hx => cSome1_e n f x (hl x hx)))) fun v7 hv7 => ?_; cases hv7)
    <;> refine xL 4 q_assign ?_
    <;> refine aL_end (nav ?_) <;> try dsimp only)
  exact ret_shr Tryz.results68 rfl rfl
def relA (E : Nat → Nat → Bool) (a b : Int) : Bool := decide (a ≠ b) && !(E a.toNat b.toNat && E b.toNat a.toNat)
def selA (i0 : Nat) (W : List Int → Bool) (b : Bool) (cs : List (List Int)) : List (List Int) := (cs.zipIdx.filter fun x => decide (x.2 ≠ i0) && (W x.1 == b)).map (·.1)
theorem selA_snoc {i0 : Nat} {W : List Int → Bool} {b : Bool} {cs : List (List Int)} {k : Nat} {c : List Int} (h : cs[k]? = some c) : selA i0 W b (cs.take (k + 1)) = selA i0 W b (cs.take k) ++ (if k ≠ i0 ∧ W c = b then [c] else []) := by
  have hl : (cs.take k).length = k := by rw [List.length_take]; have := lt_of_get h; omega
  unfold selA
  rw [take_snoc h, List.zipIdx_append, List.filter_append, List.map_append]
  congr 1
  simp only [List.zipIdx_cons, List.zipIdx_nil, hl, Nat.zero_add, List.filter_cons, List.filter_nil]
  by_cases h1 : k ≠ i0 ∧ W c = b
  · rw [if_pos h1]
    rw [decide_eq_true h1.1, h1.2]; simp
  · rw [if_neg h1]
    by_cases h2 : k ≠ i0
    · have h3 : ¬ W c = b := fun hh => h1 ⟨h2, hh⟩
      rw [show (W c == b) = false from beq_eq_false_iff_ne.2 h3]; simp
    · rw [decide_eq_false h2]; simp
theorem selA_mem {i0 : Nat} {W : List Int → Bool} {b : Bool} {cs : List (List Int)} {c : List Int} (h : c ∈ selA i0 W b cs) : c ∈ cs ∧ W c = b := by
  unfold selA at h
  obtain ⟨⟨x, i⟩, hx, rfl⟩ := List.mem_map.1 h
  rw [List.mem_filter] at hx
  simp only [Bool.and_eq_true, decide_eq_true_eq, beq_iff_eq] at hx
  exact ⟨by have := List.mem_zipIdx hx.1; rw [this.2.2]; exact List.getElem_mem _, hx.2.2⟩
theorem selA_len (i0 : Nat) (W : List Int → Bool) (b : Bool) (cs : List (List Int)) : (selA i0 W b cs).length ≤ cs.length ∧ (selA i0 W b cs).flatten.length ≤ cs.flatten.length := by
  unfold selA
  have key : ∀ L : List (List Int × Nat), ((L.filter fun x => decide (x.2 ≠ i0) && (W x.1 == b)).map (·.1)).length ≤ L.length ∧ ((L.filter fun x => decide (x.2 ≠ i0) && (W x.1 == b)).map (·.1)).flatten.length ≤ (L.map (·.1)).flatten.length := fun L => by
    induction L with
    | nil => simp
    | cons x L ih =>
      rw [List.filter_cons]
      split
      · simp only [List.map_cons, List.length_cons, List.flatten_cons, List.length_append]; omega
      · simp only [List.map_cons, List.length_cons, List.flatten_cons, List.length_append]; omega
  have h1 := key cs.zipIdx
  rw [List.length_zipIdx, List.zipIdx_map_fst] at h1
  exact h1
def headsLe (cs : List (List Int)) : Prop := ∀ (i j : Nat) (a b : List Int), i < j → cs[i]? = some a → cs[j]? = some b → ¬ headI b - headI a < 0
structure AndCs (cs : List (List Int)) (i0 : Nat) (c0 : List Int) (W : List Int → Bool) (ds : List (List Int)) : Prop where
  perm : ds.Perm (selA i0 W true cs ++ [(c0 ++ (selA i0 W false cs).flatten).mergeSort fun x y => decide (x ≤ y)])
  ord : headsLe ds
theorem cAnd1_e (l : List ByteArray) (n : Nat) (E : Nat → Nat → Bool) (S F : Nat → Bool) (x y : Int) (hx : 0 ≤ x ∧ x < n) (hy : 0 ≤ y ∧ y < n) : AF Tryz.prog 66 [pInt x, pInt y, .sptr 0 [relP l n E S F]] (· = pBool (relA E x y)) := by
  obtain ⟨a, rfl⟩ : ∃ a : Nat, x = a := ⟨x.toNat, by omega⟩
  obtain ⟨b, rfl⟩ : ∃ b : Nat, y = b := ⟨y.toNat, by omega⟩
  have e1 := vec_at1 (fun i => pBools n (E i)) (show a < n by omega)
  have e2 := vec_at1 (fun j => pBool (E a j)) (show b < n by omega)
  have e3 := vec_at1 (fun i => pBools n (E i)) (show b < n by omega)
  have e4 := vec_at1 (fun j => pBool (E b j)) (show a < n by omega)
  refine AF.of_body 34 Tryz.func66 rfl Tryz.ntmps66 (Nat.le_of_ble_eq_true rfl) ?_
  intro w0 M0 vs hl hv
  obtain ⟨v0, v1, v2, rfl⟩ := len3 hl
  obtain rfl := hv 0 _ _ rfl rfl
  obtain rfl := hv 1 _ _ rfl rfl
  clear hl hv
  dsimp only [relP]
  refine nav ?_
  (refine aC_region ?_
    <;> refine xL 5 q_assign ?_
    <;> refine aL_end (nav ?_) <;> try dsimp only)
  (refine aC_region ?_
    <;> refine xL 6 q_move ?_
    <;> refine xL 7 q_move ?_
    <;> refine xL 8 q_neq ?_
    <;> refine xL 9 q_move ?_
    <;> (refine bLd 9 (fun hb9 => ?_) (fun hb9 => ?_) <;> (first | refine kL 10 ?_ | (refine yL 10 (q_ld tNa71_LbQ) fun v10 hv10 => ?_; cases hv10)))
    <;> (first | refine kL 11 ?_ | refine xL 11 q_nilp ?_)
    <;> (first | refine kL 12 ?_ | refine xL 12 (q_fld tFl80_1_LbQ) ?_)
    <;> (first | refine kL 13 ?_ | (refine yL 13 (q_ld tNa77_LbQ) fun v13 hv13 => ?_; cases hv13))
    <;> (first | refine kL 14 ?_ | refine xL 14 q_move ?_)
    <;> (first | refine kL 15 ?_ | refine xL 15 (q_idxN tSl77_LbQ) ?_)
    <;> (first | refine kL 16 ?_ | (refine yL 16 (q_ld tNa78_LbQ) fun v16 hv16 => ?_; cases hv16))
    <;> (first | refine kL 17 ?_ | refine xL 17 q_move ?_)
    <;> (first | refine kL 18 ?_ | refine xL 18 (q_idxN tSl78_LbQ) ?_)
    <;> (first | refine kL 19 ?_ | (refine yL 19 (q_ld tNa4_LbQ) fun v19 hv19 => ?_; cases hv19))
    <;> (first | refine kL 20 ?_ | refine xL 20 q_move ?_)
    <;> (first | refine kL 21 ?_ | (refine bL 20 (fun hb20 => ?_) (fun hb20 => ?_) <;> (first | refine kL 21 ?_ | (refine yL 21 (q_ld tNa71_LbQ) fun v21 hv21 => ?_; cases hv21))))
    <;> (first | refine kL 22 ?_ | refine xL 22 q_nilp ?_)
    <;> (first | refine kL 23 ?_ | refine xL 23 (q_fld tFl80_1_LbQ) ?_)
    <;> (first | refine kL 24 ?_ | (refine yL 24 (q_ld tNa77_LbQ) fun v24 hv24 => ?_; cases hv24))
    <;> (first | refine kL 25 ?_ | refine xL 25 q_move ?_)
    <;> (first | refine kL 26 ?_ | refine xL 26 (q_idxN tSl77_LbQ) ?_)
    <;> (first | refine kL 27 ?_ | (refine yL 27 (q_ld tNa78_LbQ) fun v27 hv27 => ?_; cases hv27))
    <;> (first | refine kL 28 ?_ | refine xL 28 q_move ?_)
    <;> (first | refine kL 29 ?_ | refine xL 29 (q_idxN tSl78_LbQ) ?_)
    <;> (first | refine kL 30 ?_ | (refine yL 30 (q_ld tNa4_LbQ) fun v30 hv30 => ?_; cases hv30))
    <;> (first | refine kL 31 ?_ | refine xL 31 q_pick ?_)
    <;> (first | refine kL 32 ?_ | refine xL 32 q_not ?_)
    <;> refine xL 33 q_pick ?_
    <;> refine xL 5 q_assign ?_
    <;> refine aL_end (nav ?_) <;> try dsimp only) <;> (
   refine ret_shr (Tryz.results66) rfl ?_
   show pBool _ = pBool _
   unfold relA
   rw [Int.toNat_natCast, Int.toNat_natCast]
   first
     | (rw [decide_eq_true hb9, hb20]; simp; done)
     | (rw [decide_eq_false hb9]; rfl))
theorem cAnd2_e (l : List ByteArray) (n : Nat) (E : Nat → Nat → Bool) (S F : Nat → Bool) (c : List Int) (hc : ∀ x ∈ c, 0 ≤ x ∧ x < n) : AF Tryz.prog 67 [pInts c, .sptr 0 [relP l n E S F]] (· = pBool (wholeB S F c)) := by
  refine AF.of_body 18 Tryz.func67 rfl Tryz.ntmps67 (Nat.le_of_ble_eq_true rfl) ?_
  intro w0 M0 vs hl hv
  obtain ⟨v0, v1, rfl⟩ := len2 hl
  clear hl hv
  dsimp only [relP]
  refine nav ?_
  (refine aC_region ?_
    <;> refine xL 3 q_assign ?_
    <;> refine aL_end (nav ?_) <;> try dsimp only)
  (refine aC_region ?_
    <;> refine xL 4 q_move ?_
    <;> (refine yL 5 (q_ld tNa71_LbQ) fun v5 hv5 => ?_; cases hv5)
    <;> refine xL 6 q_nilp ?_
    <;> refine xL 7 (q_fld tFl80_2_LbQ) ?_
    <;> (refine yL 8 (q_ld tNa78_LbQ) fun v8 hv8 => ?_; cases hv8)
    <;> (refine cS 9 (cA Tryz.call68 (cSome_e c n S hc)) fun v9 hv9 => ?_; cases hv9)
    <;> refine xL 10 q_move ?_
    <;> (refine bL 10 (fun hb10 => ?_) (fun hb10 => ?_) <;> (first | refine kL 11 ?_ | refine xL 11 q_move ?_))
    <;> (first | refine kL 12 ?_ | (refine yL 12 (q_ld tNa71_LbQ) fun v12 hv12 => ?_; cases hv12))
    <;> (first | refine kL 13 ?_ | refine xL 13 q_nilp ?_)
    <;> (first | refine kL 14 ?_ | refine xL 14 (q_fld tFl80_3_LbQ) ?_)
    <;> (first | refine kL 15 ?_ | (refine yL 15 (q_ld tNa78_LbQ) fun v15 hv15 => ?_; cases hv15))
    <;> (first | refine kL 16 ?_ | (refine cS 16 (cA Tryz.call68 (cSome_e c n F hc)) fun v16 hv16 => ?_; cases hv16))
    <;> refine xL 17 q_pick ?_
    <;> refine xL 3 q_assign ?_
    <;> refine aL_end (nav ?_) <;> try dsimp only) <;> (
   refine ret_shr (Tryz.results67) rfl ?_
   show pBool _ = pBool _
   unfold wholeB
   rw [hb10]; simp)
theorem cAnd3_e (n : Nat) (x y : List Int) (hn : n ≤ 1000000) (hx : x ≠ []) (hy : y ≠ []) (hx2 : ∀ z ∈ x, 0 ≤ z ∧ z < n) (hy2 : ∀ z ∈ y, 0 ≤ z ∧ z < n) : AFg Tryz.prog 72 [pInts x, pInts y] (· = .val (.int .i64 (headI x - headI y))) := by
  have hxl := List.length_pos_iff.2 hx
  have hyl := List.length_pos_iff.2 hy
  have bx := hx2 _ (headI_mem hx)
  have bY := hy2 _ (headI_mem hy)
  have e0 : (x.map pInt)[0 * 1]? = some (pInt (headI x)) := by
    cases x with
    | nil => exact absurd rfl hx
    | cons z t => rfl
  have e0' : (y.map pInt)[0 * 1]? = some (pInt (headI y)) := by
    cases y with
    | nil => exact absurd rfl hy
    | cons z t => rfl
  refine AFg.of_body 12 Tryz.func72 rfl Tryz.ntmps72 (Nat.le_of_ble_eq_true rfl) ?_
  intro w0 M0 vs hl hv
  obtain ⟨v0, v1, rfl⟩ := len2 hl
  clear hl hv
  dsimp only [pInts]
  refine nav ?_
  (refine aC_region ?_
    <;> refine xL 4 q_assign ?_
    <;> refine aL_end (nav ?_) <;> try dsimp only)
  (refine aC_draw (fun i => ([] : List Nat).elem i) [] (by kernel_rfl) ?_
    <;> refine xD 0 5 rfl q_move ?_
    <;> refine xD 1 6 rfl (q_idxN (i := 0) tSl81_LbQ) ?_
    <;> (refine yD 2 7 rfl (q_ld tNa3_LbQ) fun v7 hv7 => ?_; cases hv7)
    <;> refine xE 3 8 rfl q_move ?_
    <;> refine xE 4 9 rfl (q_idxN (i := 0) tSl81_LbQ) ?_
    <;> (refine yE 5 10 rfl (q_ld tNa3_LbQ) fun v10 hv10 => ?_; cases hv10)
    <;> refine xE 6 11 rfl q_sub ?_
    <;> refine xE 7 4 rfl q_assign ?_
    <;> refine aD_end (by kernel_rfl) (nav ?_)
    <;> try dsimp only)
  exact ret_shr Tryz.results72 rfl rfl
theorem sortAnd_c : SortC1 Tryz.prog 57 72 := fun enc h1 cf hO cb blk cap d w hcmp hH hblk hsz => Tryz.slices_SortFunc enc h1 cf hO 72 cb blk 0 cap d w (Tryz.call72) hcmp hH hblk hsz
def RAnd (l : List ByteArray) (n : Nat) (E : Nat → Nat → Bool) (S F : Nat → Bool) (p : PV) : Prop := ∃ cs, Comps (upTo n) (relA E) cs ∧ ((idx (wholeB S F) cs < 0 ∧ p = .tup [.agg [pInt 0, .val (.slice none 0 0)], pInt 10]) ∨ ∃ i0 c0 ds, cs[i0]? = some c0 ∧ idx (wholeB S F) cs = (i0 : Nat) ∧ AndCs cs i0 c0 (wholeB S F) ds ∧ p = cutP l 3 ds)
set_option maxHeartbeats 2000000 in
theorem cAnd_good (g : Dfg) (l : List ByteArray) (n : Nat) (E : Nat → Nat → Bool) (S F : Nat → Bool) (hb : AF Tryz.prog 43 [pDfg g] (· = .tup [relP l n E S F, pInt 0])) (hl : l.length = n) (hn : n ≤ 1000) : AF Tryz.prog 20 [pDfg g] (RAnd l n E S F) := by
  refine AF.of_body 74 Tryz.func20 rfl Tryz.ntmps20 (Nat.le_of_ble_eq_true rfl) ?_
  intro w0 M0 vs hl hv
  obtain ⟨v0, rfl⟩ := len1 hl
  clear hl hv
  refine nav ?_
  (refine aC_region ?_
    <;> refine s_boxa 1 4 fun h1 => ?_
    <;> refine s_alloc [(.int .i64 0), (.slice none 0 0)] 2 2 tZr28_LbQ fun h2 => ?_
    <;> refine xL 3 q_assign ?_
    <;> refine aL_end (nav ?_) <;> try dsimp only)
  (refine aC_region ?_
    <;> (refine yL 14 (q_ldao 1 tAgg25_LbQ) fun v14 hv14 => ?_; cases hv14)
    <;> (refine cP 15 (cA Tryz.call43 (hb)) fun va15 vb15 hva15 hvb15 => ?_; cases hvb15)
    <;> refine xL 13 q_move ?_
    <;> refine xL 16 q_extract ?_
    <;> refine xL 17 q_extract ?_
    <;> refine s_alloc [(.pointer none)] 1 4 tZr71_LbQ fun h4 => ?_
    <;> refine s_st 4 tNa71_LbQ tSz71_LbQ ?_
    <;> refine xL 5 q_assign ?_
    <;> refine aL_end (nav ?_) <;> try dsimp only)
  (refine aC_region ?_
    <;> refine xL 18 q_move ?_
    <;> refine xL 19 q_neq ?_
    <;> refine aL_end (nav ?_) <;> try dsimp only) <;> (try (exfalso; omega)) <;> (
   first | refine cCd (fun hb19 => ?_) (fun hb19 => ?_) | refine cC (fun hb19 => ?_) (fun hb19 => ?_)
   · exfalso; omega
   · refine nav ?_
     refine aC_ent (freezeP (l := 4) (t := 4) (j := 0) rfl Nat.one_pos rfl) fun _ => ?_
     dsimp only [shares, share, List.map, relP]
     (refine aC_region ?_
       <;> (refine yL 22 (q_ld tNa71_LbQ) fun v22 hv22 => ?_; cases hv22)
       <;> (refine cS 23 (cA Tryz.call54 ((cAll_e l _ (by omega)).mono (R' := (· = pInts (upTo n))) fun p hp => by rw [hp, hl])) fun v23 hv23 => ?_; cases hv23)
       <;> refine xL 24 q_mkfn ?_
       <;> (refine aL_co 25 rfl rfl (Nat.le_of_ble_eq_true rfl) rfl (cA Tryz.call53 (cClasses_e 66 [.sptr 0 [relP l n E S F]] (relA E) (upTo n) (upTo_asc n) (by rw [upTo_len]; omega) (Tryz.call66) (fun x hx y hy => cAnd1_e l n E S F x y (upTo_mem.1 hx) (upTo_mem.1 hy)))) ?_; rintro p' ⟨cs, hcs, rfl⟩; refine ⟨rfl, fun h25 ho25 => ?_⟩; refine aL_ent (En.freeze (l := 25) (t := 25) rfl rfl) fun _ => ?_; rw [shr_intss _ _ _ rfl])
       <;> refine xL 6 q_assign ?_
       <;> refine aL_end (nav ?_) <;> try dsimp only)
     (refine aC_region ?_
       <;> refine xL 26 q_mkfn ?_
       <;> refine xL 7 q_assign ?_
       <;> refine aL_end (nav ?_) <;> try dsimp only)
     have hin := comps_in hcs
     (refine aC_region ?_
       <;> refine xL 27 q_move ?_
       <;> refine xL 28 q_move ?_
       <;> (refine cS 29 (cA Tryz.call69 (indexFuncInts_e 67 [.sptr 0 [relP l n E S F]] (wholeB S F) cs (Tryz.call67) (fun c hc => cAnd2_e l n E S F c (hin.1 c hc)))) fun v29 hv29 => ?_; cases hv29)
       <;> refine xL 8 q_assign ?_
       <;> refine aL_end (nav ?_) <;> try dsimp only)
     (refine aC_region ?_
       <;> refine xL 30 q_move ?_
       <;> refine xL 31 q_lss ?_
       <;> refine aL_end (nav ?_) <;> try dsimp only)
     first | refine cCd (fun hb31 => ?_) (fun hb31 => ?_) | refine cC (fun hb31 => ?_) (fun hb31 => ?_)
     · first
       | exact Bool.noConfusion hb31
       | (
        refine nav ?_
        (refine aC_region ?_
          <;> refine xL 32 (q_build tSt28_LbQ) ?_
          <;> refine s_sta 2 tAgg28_LbQ ?_
          <;> refine xL 3 q_assign ?_
          <;> refine aL_end (nav ?_) <;> try dsimp only)
        exact ret_cs (k := 2) 2 (by kernel_rfl) (Tryz.results20) rfl rfl rfl (Nat.le_of_ble_eq_true rfl) (by decide) rfl ⟨cs, hcs, .inl ⟨hb31, rfl⟩⟩)
     · first
       | exact Bool.noConfusion hb31
       | (
        obtain ⟨i0, hi0⟩ : ∃ i0 : Nat, idx (wholeB S F) cs = i0 := ⟨(idx (wholeB S F) cs).toNat, by omega⟩
        have hib := (idx_bd (wholeB S F) cs).2
        rw [hi0]
        obtain ⟨c0, hc0⟩ := get_some (show i0 < cs.length by omega)
        have e0 := map_at (f := pInts) hc0
        have hc0m := List.mem_of_getElem? hc0
        have hc0l := hin.2.2 c0 hc0m
        refine nav ?_
        (refine aC_region ?_
          <;> refine xL 9 q_assign ?_
          <;> refine aL_end (nav ?_) <;> try dsimp only)
        (refine aC_region ?_
          <;> refine xL 33 q_move ?_
          <;> refine xL 34 q_move ?_
          <;> refine xL 35 (q_idxN tSl92_LbQ) ?_
          <;> (refine yL 36 (q_ld tNa81_LbQ) fun v36 hv36 => ?_; cases hv36)
          <;> refine cO 37 (cA Tryz.call70 (cloneInt_e c0 (by omega))) fun v37 ho37 => ?_
          <;> refine xL 10 q_assign ?_
          <;> refine aL_end (nav ?_) <;> try dsimp only)
        (refine aC_region ?_
          <;> refine xL 38 q_move ?_
          <;> refine xL 39 (q_len tSl92_LbQ) ?_
          <;> refine xL 40 q_move ?_
          <;> refine aL_end (nav ?_) <;> try dsimp only)
        refine aC_ent (nilOwn 200 81 1 rfl) fun _ => ?_
        refine aC_ent (relabel (l := 37) 201 rfl rfl) fun _ => ?_
        refine aC_loop (ι := { x : Nat × Value × Value × List (List Int) × List Int // x.1 ≤ cs.length ∧ x.2.2.1.oneCell' = true ∧ x.2.2.2.1 = selA i0 (wholeB S F) true (cs.take x.1) ∧ x.2.2.2.2 = c0 ++ (selA i0 (wholeB S F) false (cs.take x.1)).flatten }) (fun k => ⟨[(2, _, _), (4, _, _), (7, _, _), (8, _, _), (38, _, _), (39, _, _), (9, k.1.2.1, .val k.1.2.1), (10, k.1.2.2.1, .val k.1.2.2.1), (40, .int .i64 k.1.1, pInt k.1.1)], [(2, _, _), (200, k.1.2.1, .own 81 1 k.1.2.2.2.1.length (k.1.2.2.2.1.map pInts)), (201, k.1.2.2.1, .own 3 1 k.1.2.2.2.2.length (k.1.2.2.2.2.map pInt))]⟩) (fun k => cs.length - k.1.1) ⟨(0, .slice none 0 0, v37, [], c0), Nat.zero_le _, ho37, rfl, (List.append_nil c0).symm⟩ (fun a w H => H.weaken ⟨rfl, rfl, rfl, rfl, rfl, rfl, rfl, rfl, rfl, trivial⟩ ⟨rfl, rfl, rfl, trivial⟩) ?_
        rintro ⟨⟨k, ha, hbv, A, B⟩, hk, hob, hA, hB⟩
        dsimp only
        dsimp only at hk hob hA hB
        have hAl : A.length ≤ 1000 := by
          have := (selA_len i0 (wholeB S F) true (cs.take k)).1
          rw [hA]; rw [List.length_take] at this; omega
        have hBl : B.length ≤ 2000 := by
          have h1 := (selA_len i0 (wholeB S F) false (cs.take k)).2
          have h2 : (cs.take k).flatten.length ≤ cs.flatten.length := by
            have : cs.flatten = (cs.take k).flatten ++ (cs.drop k).flatten := by rw [← List.flatten_append, List.take_append_drop]
            rw [this, List.length_append]; omega
          have h3 := nodup_len hcs.nd (fun x hx => (hcs.mem x).1 hx)
          rw [upTo_len] at h3
          rw [hB, List.length_append]; omega
        have hAm : (A.map pInts).length = A.length := List.length_map _
        have hBm : (B.map pInt).length = B.length := List.length_map _
        refine nav ?_
        (refine aC_region ?_
          <;> refine xL 41 q_lss ?_
          <;> refine aL_end (nav ?_) <;> try dsimp only)
        first | refine cCd (fun hb41 => ?_) (fun hb41 => ?_) | refine cC (fun hb41 => ?_) (fun hb41 => ?_)
        · first
          | exact Bool.noConfusion hb41
          | (
           obtain ⟨cl, hx⟩ := get_some (show k < cs.length by omega)
           have e1 := map_at (f := pInts) hx
           have hcm := List.mem_of_getElem? hx
           have hcll := hin.2.2 cl hcm
           have s1 := selA_snoc (i0 := i0) (W := wholeB S F) (b := true) hx
           have s2 := selA_snoc (i0 := i0) (W := wholeB S F) (b := false) hx
           have e2 : (cl.map pInt).length = cl.length * 1 := by rw [List.length_map, Nat.mul_one]
           have e3 : (cl.map pInt).all En.one = true := by rw [List.all_map, List.all_eq_true]; intro x _; rfl
           refine nav ?_
           (refine aC_region ?_
             <;> refine xL 42 q_move ?_
             <;> refine xL 43 (q_idxN tSl92_LbQ) ?_
             <;> (refine yL 44 (q_ld tNa81_LbQ) fun v44 hv44 => ?_; cases hv44)
             <;> refine xL 11 q_assign ?_
             <;> refine xL 12 q_assign ?_
             <;> refine aL_end (nav ?_) <;> try dsimp only)
           (refine aC_region ?_
             <;> refine xL 49 q_move ?_
             <;> refine xL 50 q_move ?_
             <;> refine xL 51 q_eql ?_
             <;> refine xL 48 q_assign ?_
             <;> refine aL_end (nav ?_) <;> try dsimp only)
           first | refine cCd (fun hb48 => ?_) (fun hb48 => ?_) | refine cC (fun hb48 => ?_) (fun hb48 => ?_)
           · first
             | exact Bool.noConfusion hb48
             | (
              refine nav ?_
              (refine aC_region ?_
                <;> refine xL 60 q_add ?_
                <;> refine xL 40 q_move ?_
                <;> refine aL_end (nav ?_) <;> try dsimp only)
              try refine aN_ent (relabel (l := 59) 200 rfl rfl) fun _ => ?_
              try refine aN_ent (relabel (l := 47) 201 rfl rfl) fun _ => ?_
              try rw [show A.map pInts ++ [pInts cl] = (A ++ [cl]).map pInts by simp, show A.length + 1 = (A ++ [cl]).length by simp]
              try rw [show B.map pInt ++ cl.map pInt = (B ++ cl).map pInt by simp, show B.length + cl.length = (B ++ cl).length by simp]
              first
                | (exact aN_again (
                    ⟨(k + 1, h59, hbv, A ++ [cl], B), by show k + 1 ≤ cs.length; omega, hob, by show A ++ [cl] = _; rw [s1, if_pos ⟨by omega, hb52⟩, hA], by show B = _; rw [s2, if_neg (fun h => by rw [hb52] at h; exact Bool.noConfusion h.2), List.append_nil, hB]⟩
                    ) (by show cs.length - (k + 1) < cs.length - k; omega) ⟨rfl, rfl, rfl, rfl, rfl, rfl, rfl, rfl, rfl, trivial⟩ ⟨rfl, rfl, rfl, trivial⟩)
                | (exact aN_again (
                    ⟨(k + 1, ha, h47, A, B ++ cl), by show k + 1 ≤ cs.length; omega, ho47, by show A = _; rw [s1, if_neg (fun h => by rw [hb52] at h; exact Bool.noConfusion h.2), List.append_nil, hA], by show B ++ cl = _; rw [s2, if_pos ⟨by omega, hb52⟩, hB]; simp⟩
                    ) (by show cs.length - (k + 1) < cs.length - k; omega) ⟨rfl, rfl, rfl, rfl, rfl, rfl, rfl, rfl, rfl, trivial⟩ ⟨rfl, rfl, rfl, trivial⟩)
                | (exact aN_again (
                    ⟨(k + 1, ha, hbv, A, B), by show k + 1 ≤ cs.length; omega, hob, by show A = _; rw [s1, if_neg (fun h => by omega), List.append_nil, hA], by show B = _; rw [s2, if_neg (fun h => by omega), List.append_nil, hB]⟩
                    ) (by show cs.length - (k + 1) < cs.length - k; omega) ⟨rfl, rfl, rfl, rfl, rfl, rfl, rfl, rfl, rfl, trivial⟩ ⟨rfl, rfl, rfl, trivial⟩))
           · first
             | exact Bool.noConfusion hb48
             | (
              refine nav ?_
              (refine aC_region ?_
                <;> refine xL 53 q_move ?_
                <;> refine xL 54 q_move ?_
                <;> (refine cS 55 (callF (f := 67) (ps := [.sptr 0 [relP l n E S F]]) rfl ⟨_, rfl⟩ (Tryz.call67) rfl (cAnd2_e l n E S F cl (hin.1 cl hcm))) fun v55 hv55 => ?_; cases hv55)
                <;> refine xL 52 q_assign ?_
                <;> refine aL_end (nav ?_) <;> try dsimp only)
              first | refine cCd (fun hb52 => ?_) (fun hb52 => ?_) | refine cC (fun hb52 => ?_) (fun hb52 => ?_)
              · first
                | exact Bool.noConfusion hb52
                | (
                 refine nav ?_
                 (refine aC_region ?_
                   <;> refine xL 56 q_move ?_
                   <;> refine xL 57 q_move ?_
                   <;> refine s_lit1 (kk := 1) 58 tEl92_LbQ fun h58 ho58 => ?_
                   <;> refine s_app 200 58 59 tEl92_LbQ fun h59 ho59 => ?_
                   <;> refine xL 9 q_assign ?_
                   <;> refine aL_end (nav ?_) <;> try dsimp only)
                 (refine aC_region ?_
                   <;> refine xL 60 q_add ?_
                   <;> refine xL 40 q_move ?_
                   <;> refine aL_end (nav ?_) <;> try dsimp only)
                 try refine aN_ent (relabel (l := 59) 200 rfl rfl) fun _ => ?_
                 try refine aN_ent (relabel (l := 47) 201 rfl rfl) fun _ => ?_
                 try rw [show A.map pInts ++ [pInts cl] = (A ++ [cl]).map pInts by simp, show A.length + 1 = (A ++ [cl]).length by simp]
                 try rw [show B.map pInt ++ cl.map pInt = (B ++ cl).map pInt by simp, show B.length + cl.length = (B ++ cl).length by simp]
                 first
                   | (exact aN_again (
                       ⟨(k + 1, h59, hbv, A ++ [cl], B), by show k + 1 ≤ cs.length; omega, hob, by show A ++ [cl] = _; rw [s1, if_pos ⟨by omega, hb52⟩, hA], by show B = _; rw [s2, if_neg (fun h => by rw [hb52] at h; exact Bool.noConfusion h.2), List.append_nil, hB]⟩
                       ) (by show cs.length - (k + 1) < cs.length - k; omega) ⟨rfl, rfl, rfl, rfl, rfl, rfl, rfl, rfl, rfl, trivial⟩ ⟨rfl, rfl, rfl, trivial⟩)
                   | (exact aN_again (
                       ⟨(k + 1, ha, h47, A, B ++ cl), by show k + 1 ≤ cs.length; omega, ho47, by show A = _; rw [s1, if_neg (fun h => by rw [hb52] at h; exact Bool.noConfusion h.2), List.append_nil, hA], by show B ++ cl = _; rw [s2, if_pos ⟨by omega, hb52⟩, hB]; simp⟩
                       ) (by show cs.length - (k + 1) < cs.length - k; omega) ⟨rfl, rfl, rfl, rfl, rfl, rfl, rfl, rfl, rfl, trivial⟩ ⟨rfl, rfl, rfl, trivial⟩)
                   | (exact aN_again (
                       ⟨(k + 1, ha, hbv, A, B), by show k + 1 ≤ cs.length; omega, hob, by show A = _; rw [s1, if_neg (fun h => by omega), List.append_nil, hA], by show B = _; rw [s2, if_neg (fun h => by omega), List.append_nil, hB]⟩
                       ) (by show cs.length - (k + 1) < cs.length - k; omega) ⟨rfl, rfl, rfl, rfl, rfl, rfl, rfl, rfl, rfl, trivial⟩ ⟨rfl, rfl, rfl, trivial⟩))
              · first
                | exact Bool.noConfusion hb52
                | (
                 refine nav ?_
                 (refine aC_region ?_
                   <;> refine xL 45 q_move ?_
                   <;> refine xL 46 q_move ?_
                   <;> refine s_apps 201 47 tEl81_LbQ fun h47 ho47 => ?_
                   <;> refine xL 10 q_assign ?_
                   <;> refine aL_end (nav ?_) <;> try dsimp only)
                 (refine aC_region ?_
                   <;> refine xL 60 q_add ?_
                   <;> refine xL 40 q_move ?_
                   <;> refine aL_end (nav ?_) <;> try dsimp only)
                 try refine aN_ent (relabel (l := 59) 200 rfl rfl) fun _ => ?_
                 try refine aN_ent (relabel (l := 47) 201 rfl rfl) fun _ => ?_
                 try rw [show A.map pInts ++ [pInts cl] = (A ++ [cl]).map pInts by simp, show A.length + 1 = (A ++ [cl]).length by simp]
                 try rw [show B.map pInt ++ cl.map pInt = (B ++ cl).map pInt by simp, show B.length + cl.length = (B ++ cl).length by simp]
                 first
                   | (exact aN_again (
                       ⟨(k + 1, h59, hbv, A ++ [cl], B), by show k + 1 ≤ cs.length; omega, hob, by show A ++ [cl] = _; rw [s1, if_pos ⟨by omega, hb52⟩, hA], by show B = _; rw [s2, if_neg (fun h => by rw [hb52] at h; exact Bool.noConfusion h.2), List.append_nil, hB]⟩
                       ) (by show cs.length - (k + 1) < cs.length - k; omega) ⟨rfl, rfl, rfl, rfl, rfl, rfl, rfl, rfl, rfl, trivial⟩ ⟨rfl, rfl, rfl, trivial⟩)
                   | (exact aN_again (
                       ⟨(k + 1, ha, h47, A, B ++ cl), by show k + 1 ≤ cs.length; omega, ho47, by show A = _; rw [s1, if_neg (fun h => by rw [hb52] at h; exact Bool.noConfusion h.2), List.append_nil, hA], by show B ++ cl = _; rw [s2, if_pos ⟨by omega, hb52⟩, hB]; simp⟩
                       ) (by show cs.length - (k + 1) < cs.length - k; omega) ⟨rfl, rfl, rfl, rfl, rfl, rfl, rfl, rfl, rfl, trivial⟩ ⟨rfl, rfl, rfl, trivial⟩)
                   | (exact aN_again (
                       ⟨(k + 1, ha, hbv, A, B), by show k + 1 ≤ cs.length; omega, hob, by show A = _; rw [s1, if_neg (fun h => by omega), List.append_nil, hA], by show B = _; rw [s2, if_neg (fun h => by omega), List.append_nil, hB]⟩
                       ) (by show cs.length - (k + 1) < cs.length - k; omega) ⟨rfl, rfl, rfl, rfl, rfl, rfl, rfl, rfl, rfl, trivial⟩ ⟨rfl, rfl, rfl, trivial⟩))))
        · first
          | exact Bool.noConfusion hb41
          | (
           refine nav ?_
           have hkl : k = cs.length := by omega
           have hAe : A = selA i0 (wholeB S F) true cs := by rw [hA, hkl, List.take_length]
           have hBe : B = c0 ++ (selA i0 (wholeB S F) false cs).flatten := by rw [hB, hkl, List.take_length]
           have hBp : 0 < B.length := by
             have := List.length_pos_iff.2 (hcs.ne c0 hc0m)
             rw [hBe, List.length_append]; omega
           obtain ⟨Bs, hBs⟩ : ∃ Bs, Bs = B.mergeSort fun x y => decide (x ≤ y) := ⟨_, rfl⟩
           have hBsl : Bs.length = B.length := by rw [hBs, List.length_mergeSort]
           have hBi : ∀ x ∈ Bs, 0 ≤ x ∧ x < n := fun x hx => by
             rw [hBs, sort_mem, hBe, List.mem_append] at hx
             rcases hx with h | h
             · exact hin.1 c0 hc0m x h
             · obtain ⟨d, hd, hxd⟩ := List.mem_flatten.1 h
               exact hin.1 d (selA_mem hd).1 x hxd
           obtain ⟨rs, hrs⟩ : ∃ rs, rs = A ++ [Bs] := ⟨_, rfl⟩
           have hrm : ∀ c ∈ rs, c ≠ [] ∧ (∀ x ∈ c, 0 ≤ x ∧ x < n) ∧ c.length ≤ 2000 := fun c hc => by
             rw [hrs, List.mem_append, List.mem_singleton] at hc
             rcases hc with h | rfl
             · rw [hAe] at h
               have := (selA_mem h).1
               exact ⟨hcs.ne c this, hin.1 c this, by have := hin.2.2 c this; omega⟩
             · exact ⟨List.length_pos_iff.1 (by omega), hBi, by omega⟩
           have hrl : rs.length ≤ 2000 := by rw [hrs, List.length_append, List.length_singleton]; omega
           have hrp : 0 < rs.attach.length := by rw [List.length_attach, hrs, List.length_append, List.length_singleton]; omega
           (refine aC_region ?_
             <;> refine xL 61 q_move ?_
             <;> (refine s_sortI 201 sortInt_c (Tryz.call71) ?_ hBp; rw [← hBs])
             <;> refine aL_end (nav ?_) <;> try dsimp only)
           (refine aC_region ?_
             <;> refine xL 63 q_move ?_
             <;> refine xL 64 q_move ?_
             <;> refine s_lit1 (kk := 1) 65 tEl92_LbQ fun h65 ho65 => ?_
             <;> refine s_app 200 65 66 tEl92_LbQ fun h66 ho66 => ?_
             <;> refine xL 9 q_assign ?_
             <;> refine aL_end (nav ?_) <;> try dsimp only)
           refine aC_ent (freezeCell (l := 66) (l' := 201) (j := A.length) rfl (lsnoc_at (List.length_map _).symm) rfl rfl) fun _ => ?_
           rw [lsnoc_set (List.length_map _).symm, share_intl _ _ _ hBsl.symm]
           rw [show A.map pInts ++ [pInts Bs] = rs.attach.map (fun c : { c // c ∈ rs } => pInts c.1) by rw [List.attach_map_val (f := pInts), hrs]; simp, show A.length + 1 = rs.attach.length by rw [List.length_attach, hrs]; simp]
           (refine aC_region ?_
             <;> refine xL 67 q_move ?_
             <;> (refine s_sort1 (β := { c // c ∈ rs }) (f := fun c => pInts c.1) (cmp := fun a b => headI a.1 - headI b.1) (rows := rs.attach) 66 sortAnd_c (Tryz.call57) (fun _ => rfl) (fun a => by omega) (fun a b c h1 h2 => by omega) (fun a b c h1 h2 => by omega) (fun x _ y _ => cAnd3_e n x.1 y.1 (by omega) (hrm _ x.2).1 (hrm _ y.2).1 (hrm _ x.2).2.1 (hrm _ y.2).2.1) hrp (by rw [List.length_attach]; omega) (fun rows' hperm hord => ?_))
             <;> refine aL_end (nav ?_) <;> try dsimp only)
           obtain ⟨ds, hds⟩ : ∃ ds, ds = rows'.map (·.1) := ⟨_, rfl⟩
           have hpd : ds.Perm rs := by rw [hds]; have := hperm.map (·.1); rw [List.attach_map_subtype_val] at this; exact this
           have hsq : AndCs cs i0 c0 (wholeB S F) ds := ⟨by rw [← hAe, ← hBe, ← hBs, ← hrs]; exact hpd, fun i j a b hij ha hb => by
             rw [hds, List.getElem?_map, Option.map_eq_some_iff] at ha hb
             obtain ⟨a', ha', rfl⟩ := ha
             obtain ⟨b', hb', rfl⟩ := hb
             exact hord i j a' b' hij ha' hb'⟩
           rw [show rows'.map (fun c : { c // c ∈ rs } => pInts c.1) = ds.map pInts by rw [hds, List.map_map]; rfl, show rs.attach.length = ds.length by rw [List.length_attach]; exact hpd.length_eq.symm]
           refine aC_ent (En.freeze (l := 66) (t := 9) rfl rfl) fun _ => ?_
           rw [shr_intss _ _ _ rfl]
           have hdi : ∀ c ∈ ds, ∀ x ∈ c, 0 ≤ x ∧ x < l.length := fun c hc => by rw [hl]; exact (hrm c (hpd.mem_iff.1 hc)).2.1
           have hdl : ds.length ≤ 1000000 := by rw [hpd.length_eq]; omega
           have hdc : ∀ c ∈ ds, c.length ≤ 1000000 := fun c hc => by have := (hrm c (hpd.mem_iff.1 hc)).2.2; omega
           (refine aC_region ?_
             <;> (refine yL 69 (q_ld tNa71_LbQ) fun v69 hv69 => ?_; cases hv69)
             <;> refine xL 70 q_move ?_
             <;> (by_cases hm : ds.length < 2 <;> first | (refine cP 71 (cA Tryz.call52 (cMade_lt l _ 3 ds hm)) fun va71 vb71 hva71 hvb71 => ?_; cases hvb71) | (refine cP 71 (cA Tryz.call52 (cMade_ge l _ 3 ds (by omega) hdi hdl hdc)) fun va71 vb71 hva71 hvb71 => ?_; cases hvb71))
             <;> refine xL 72 q_extract ?_
             <;> refine xL 73 q_extract ?_
             <;> refine s_sta 2 tAgg28_LbQ ?_
             <;> refine xL 3 q_assign ?_
             <;> refine aL_end (nav ?_) <;> try dsimp only) <;> (
            refine ret_cs (k := 2) 2 (by kernel_rfl) (Tryz.results20) rfl rfl rfl (Nat.le_of_ble_eq_true rfl) (by decide) rfl ⟨cs, hcs, .inr ⟨i0, c0, ds, hc0, hi0, hsq, ?_⟩⟩
            unfold cutP
            first
              | (rw [if_pos hm]; rfl)
              | (rw [if_neg hm]; rfl)))))
end Go.Proofs.YtoanjgpdepaciaaGreat
