/-
  Walks of the reference: all, some, classes.
-/
import Derived.Test.YtoanjgpdepaciaaGreatMLbT
import Derived.Test.YtoanjgpdepaciaaGreatMLpG
namespace Go.Proofs.YtoanjgpdepaciaaGreat
open Go.RowKit Go.Cb Go.En
set_option linter.all false
set_option maxRecDepth 100000

theorem tAgg86_LbU : AggT Tryz.prog 86 5 = true := by kernel_rfl
theorem tEl78_LbU : ElT Tryz.prog 78 4 1 1 (.bool false) := ⟨Tryz.underlying78, by kernel_rfl, rfl, by decide⟩
theorem tEl81_LbU : ElT Tryz.prog 81 3 1 8 (.int .i64 0) := ⟨Tryz.underlying81, by kernel_rfl, rfl, by decide⟩
theorem tEl92_LbU : ElT Tryz.prog 92 81 1 24 (.slice none 0 0) := ⟨Tryz.underlying92, by kernel_rfl, rfl, by decide⟩
theorem tFl86_0_LbU : FldT Tryz.prog 86 0 0 = true := by kernel_rfl
theorem tNa36_LbU : NoAgg Tryz.prog 36 = true := by kernel_rfl
theorem tNa3_LbU : NoAgg Tryz.prog 3 = true := by kernel_rfl
theorem tNa4_LbU : NoAgg Tryz.prog 4 = true := by kernel_rfl
theorem tSl36_LbU : SlT Tryz.prog 36 9 1 = true := by kernel_rfl
theorem tSl78_LbU : SlT Tryz.prog 78 4 1 = true := by kernel_rfl
theorem tSl81_LbU : SlT Tryz.prog 81 3 1 = true := by kernel_rfl
theorem tSz3_LbU : (Tryz.prog.info? 3).map (·.size) = some 1 := by kernel_rfl
theorem tSz4_LbU : (Tryz.prog.info? 4).map (·.size) = some 1 := by kernel_rfl

theorem lt_step (k i : Nat) : decide (i < k + 1) = if i = k then true else decide (i < k) := by
  by_cases h : i = k
  · rw [if_pos h, decide_eq_true (by omega)]
  · rw [if_neg h]; exact decide_eq_decide.2 (by omega)
theorem rAll36_e (l : List ByteArray) (n : Nat) (E R : Nat → Nat → Bool) (S F : Nat → Bool) (hl : l.length = n) (hn : n ≤ 1000) : AF Tryz.prog 78 [.agg (cView l n E R S F)] (· = oBools 4 n (fun _ => true)) := by
  subst hl
  refine AF.of_body 19 Tryz.func78 rfl Tryz.ntmps78 (Nat.le_of_ble_eq_true rfl) ?_
  intro w0 M0 vs hl hv
  obtain ⟨v0, rfl⟩ := len1 hl
  clear hl hv
  dsimp only [cView]
  refine nav ?_
  (refine aC_region ?_
    <;> refine s_boxa 1 5 fun h1 => ?_
    <;> refine xL 2 q_assign ?_
    <;> refine aL_end (nav ?_) <;> try dsimp only)
  (refine aC_region ?_
    <;> refine xL 5 (q_fldo 1 tFl86_0_LbU) ?_
    <;> (refine yL 6 (q_ldo 1 tNa36_LbU) fun v6 hv6 => ?_; cases hv6)
    <;> refine xL 7 (q_len tSl36_LbU) ?_
    <;> refine s_make 8 tEl78_LbU fun h8 ho8 => ?_
    <;> refine xL 3 q_assign ?_
    <;> refine aL_end (nav ?_) <;> try dsimp only)
  (refine aC_region ?_
    <;> refine xL 4 q_assign ?_
    <;> refine aL_end (nav ?_) <;> try dsimp only)
  rw [show List.replicate l.length (PV.val (.bool false)) = vec l.length (fun i => pBool (decide (i < 0))) by rw [vec_const]; exact vec_congr fun i _ => by rw [decide_eq_false (Nat.not_lt_zero i)]]
  refine aC_loop (ι := { k : Nat // k ≤ l.length }) (fun k => ⟨[(1, _, _), (3, _, _), (4, .int .i64 k.1, pInt k.1)], [(1, _, _), (8, h8, oBools 4 l.length (fun i => decide (i < k.1)))]⟩) (fun k => l.length - k.1) ⟨0, Nat.zero_le _⟩ (fun a w H => H.weaken ⟨rfl, rfl, rfl, trivial⟩ ⟨rfl, rfl, trivial⟩) ?_
  rintro ⟨k, hk⟩
  dsimp only
  have e1 := vec_len l.length (fun i => pBool (decide (i < k)))
  refine nav ?_
  (refine aC_region ?_
    <;> refine xL 9 q_move ?_
    <;> refine xL 10 q_move ?_
    <;> refine xL 11 (q_leno 8 tSl78_LbU) ?_
    <;> refine xL 12 q_lss ?_
    <;> refine aL_end (nav ?_) <;> try dsimp only)
  first | refine cCd (fun hb12 => ?_) (fun hb12 => ?_) | refine cC (fun hb12 => ?_) (fun hb12 => ?_)
  · first
    | exact Bool.noConfusion hb12
    | (
     refine nav ?_
     (refine aC_region ?_
       <;> refine xL 15 q_move ?_
       <;> refine xL 16 q_move ?_
       <;> refine xL 17 (q_idxoN 8 tSl78_LbU) ?_
       <;> refine s_st 8 tNa4_LbU tSz4_LbU ?_
       <;> refine aL_end (nav ?_) <;> try dsimp only)
     (refine aC_region ?_
       <;> refine xL 13 q_move ?_
       <;> refine xL 14 q_add ?_
       <;> refine xL 4 q_assign ?_
       <;> refine aL_end (nav ?_) <;> try dsimp only)
     rw [bools_step (f' := fun i => decide (i < k + 1)) fun i _ => lt_step k i]
     refine aN_again (
       ⟨k + 1, by omega⟩
       ) (by dsimp only; omega) ⟨rfl, rfl, rfl, trivial⟩ ⟨rfl, rfl, trivial⟩)
  · first
    | exact Bool.noConfusion hb12
    | (
     refine nav ?_
     (refine aC_region ?_
       <;> refine xL 18 q_move ?_
       <;> refine xL 2 q_assign ?_
       <;> refine aL_end (nav ?_) <;> try dsimp only)
     refine ret_own 8 (Tryz.results78) rfl rfl ?_
     have : k = l.length := by omega
     subst this
     show PV.own _ _ _ _ = PV.own _ _ _ _
     rw [vec_congr (g := fun _ => pBool true) fun i hi => by dsimp only; rw [decide_eq_true hi]])
theorem rSome36_e (c : List Int) (n : Nat) (f : Nat → Bool) (hc : ∀ x ∈ c, 0 ≤ x ∧ x < n) (hcl : c.length ≤ 1000000) : AF Tryz.prog 114 [pInts c, pBools n f] (· = pBool (anyF c f)) := by
  refine AF.of_body 19 Tryz.func114 rfl Tryz.ntmps114 (Nat.le_of_ble_eq_true rfl) ?_
  intro w0 M0 vs hl hv
  obtain ⟨v0, v1, rfl⟩ := len2 hl
  clear hl hv
  refine nav ?_
  (refine aC_region ?_
    <;> refine xL 4 q_assign ?_
    <;> refine aL_end (nav ?_) <;> try dsimp only)
  (refine aC_region ?_
    <;> refine xL 5 q_assign ?_
    <;> refine aL_end (nav ?_) <;> try dsimp only)
  refine aC_loop (ι := { k : Nat // k ≤ c.length ∧ (c.take k).any (fun x => f x.toNat) = false }) (fun k => ⟨[(0, _, _), (1, _, _), (5, .int .i64 k.1, pInt k.1)], []⟩) (fun k => c.length - k.1) ⟨0, Nat.zero_le _, rfl⟩ (fun a w H => H.weaken ⟨rfl, rfl, rfl, trivial⟩ trivial) ?_
  rintro ⟨k, hk, hp⟩
  dsimp only
  refine nav ?_
  (refine aC_region ?_
    <;> refine xL 6 q_move ?_
    <;> refine xL 7 q_move ?_
    <;> refine xL 8 (q_len tSl81_LbU) ?_
    <;> refine xL 9 q_lss ?_
    <;> refine aL_end (nav ?_) <;> try dsimp only)
  first | refine cCd (fun hb9 => ?_) (fun hb9 => ?_) | refine cC (fun hb9 => ?_) (fun hb9 => ?_)
  · first
    | exact Bool.noConfusion hb9
    | (
     obtain ⟨x, hx⟩ := get_some (show k < c.length by omega)
     have e1 := map_at (f := pInt) hx
     have hxb := hc x (List.mem_of_getElem? hx)
     have e2 := vec_at1 (fun j => pBool (f j)) (show x.toNat < n by omega)
     refine nav ?_
     (refine aC_region ?_
       <;> refine xL 12 q_move ?_
       <;> refine xL 13 q_move ?_
       <;> refine xL 14 q_move ?_
       <;> refine xL 15 (q_idxN tSl81_LbU) ?_
       <;> (refine yL 16 (q_ld tNa3_LbU) fun v16 hv16 => ?_; cases hv16)
       <;> refine xL 17 (q_idx tSl78_LbU) ?_
       <;> (refine yL 18 (q_ld tNa4_LbU) fun v18 hv18 => ?_; cases hv18)
       <;> refine aL_end (nav ?_) <;> try dsimp only)
     first | refine cCd (fun hb18 => ?_) (fun hb18 => ?_) | refine cC (fun hb18 => ?_) (fun hb18 => ?_)
     · first
       | exact Bool.noConfusion hb18
       | (
        refine nav ?_
        (refine aC_region ?_
          <;> refine xL 4 q_assign ?_
          <;> refine aL_end (nav ?_) <;> try dsimp only)
        refine ret_shr (Tryz.results114) rfl ?_
        rw [show anyF c f = true from List.any_eq_true.2 ⟨x, List.mem_of_getElem? hx, hb18⟩])
     · first
       | exact Bool.noConfusion hb18
       | (
        refine nav ?_
        (refine aC_region ?_
          <;> refine xL 10 q_move ?_
          <;> refine xL 11 q_add ?_
          <;> refine xL 5 q_assign ?_
          <;> refine aL_end (nav ?_) <;> try dsimp only)
        refine aN_again (
          ⟨k + 1, by omega, by rw [take_snoc hx, List.any_append, hp, Bool.false_or]; simp [hb18]⟩
          ) (by dsimp only; omega) ⟨rfl, rfl, rfl, trivial⟩ trivial))
  · first
    | exact Bool.noConfusion hb9
    | (
     refine nav ?_
     (refine aC_region ?_
       <;> refine xL 4 q_assign ?_
       <;> refine aL_end (nav ?_) <;> try dsimp only)
     refine ret_shr (Tryz.results114) rfl ?_
     rw [show k = c.length by omega, List.take_length] at hp
     rw [show anyF c f = false from hp])
def togI (E R : Nat → Nat → Bool) (kind : Int) (a b : Int) : Bool := togB E R kind a.toNat b.toNat
theorem togB_symm (E R : Nat → Nat → Bool) (kind : Int) (a b : Nat) : togB E R kind a b = togB E R kind b a := by
  unfold togB
  split
  · cases R a b <;> cases R b a <;> rfl
  · split
    · exact Bool.or_comm _ _
    · exact Bool.or_comm _ _
theorem togI_nat (E R : Nat → Nat → Bool) (kind : Int) (a b : Nat) : togI E R kind a b = togB E R kind a b := by unfold togI; rw [Int.toNat_natCast, Int.toNat_natCast]
theorem togI_t {E R : Nat → Nat → Bool} {kind : Int} {a b : Nat} (h : togI E R kind a b = true ∨ togI E R kind b a = true) : togB E R kind a b = true := by
  rw [togI_nat, togI_nat] at h
  rcases h with h | h
  · exact h
  · rw [togB_symm]; exact h
theorem labs_step {n a b : Nat} {f f' : Nat → Nat} (hf : ∀ i, i < n → f' i = if i = a then b else f i) : (vec n fun i => pInt (f i : Nat)).set (a * 1) (pInt (b : Nat)) = vec n fun i => pInt (f' i : Nat) := by
  rw [Nat.mul_one, vec_set]
  refine vec_congr fun i hi => ?_
  rw [hf i hi]
  by_cases h : i = a
  · rw [if_pos h, if_pos h]
  · rw [if_neg h, if_neg h]
def labs (n : Nat) (f : Nat → Nat) : List PV := vec n fun i => pInt (f i : Nat)
theorem labs_len (n : Nat) (f : Nat → Nat) : (labs n f).length = n := vec_len _ _
theorem labs_at {n i : Nat} (f : Nat → Nat) (h : i < n) : (labs n f)[i * 1]? = some (pInt (f i : Nat)) := vec_at1 _ h
theorem labs_set {n a b : Nat} (f : Nat → Nat) : (labs n f).set (a * 1) (pInt (b : Nat)) = labs n (upd f a b) := labs_step fun i _ => rfl
theorem labs_zero (n : Nat) : List.replicate n (PV.val (.int .i64 0)) = labs n (fun i => if i < 0 then i else 0) := by
  rw [vec_const]; exact vec_congr fun i _ => by dsimp only; rw [if_neg (Nat.not_lt_zero i)]; rfl
theorem labs_next (n k : Nat) : (labs n fun i => if i < k then i else 0).set (k * 1) (pInt (k : Nat)) = labs n (fun i => if i < k + 1 then i else 0) := labs_step fun i _ => by
  by_cases h : i = k
  · rw [if_pos h, if_pos (by omega)]; exact h
  · rw [if_neg h]
    by_cases h2 : i < k
    · rw [if_pos h2, if_pos (by omega)]
    · rw [if_neg h2, if_neg (by omega)]
theorem labs_full (n : Nat) : labs n (fun i => if i < n then i else 0) = labs n fun i => i := vec_congr fun i hi => by dsimp only; rw [if_pos hi]
theorem cls_succ (i : Nat) (I : Nat → Bool) (lab : Nat → Nat) (c : Nat) : cls (i + 1) I lab c = cls i I lab c ++ (if I i = true ∧ lab i = c then [(i : Int)] else []) := by
  unfold cls
  rw [List.range_succ, List.map_append, List.filter_append]
  congr 1
  by_cases h : I i = true ∧ lab i = c
  · rw [if_pos h]; simp [h.1, h.2]
  · rw [if_neg h]
    rw [List.map_cons, List.map_nil, List.filter_cons_of_neg]; · rfl
    rw [Int.toNat_natCast]
    intro hh
    simp only [Bool.and_eq_true, beq_iff_eq] at hh
    exact h hh
theorem cls_no1 {i : Nat} {I : Nat → Bool} {lab : Nat → Nat} {c : Nat} (h : I i = false) : cls (i + 1) I lab c = cls i I lab c := by rw [cls_succ, if_neg (by rw [h]; simp), List.append_nil]
theorem cls_no2 {i : Nat} {I : Nat → Bool} {lab : Nat → Nat} {c : Nat} (h : ¬ ((lab i : Nat) : Int) = ((c : Nat) : Int)) : cls (i + 1) I lab c = cls i I lab c := by rw [cls_succ, if_neg (by omega), List.append_nil]
theorem cls_len (n : Nat) (I : Nat → Bool) (lab : Nat → Nat) (c : Nat) : (cls n I lab c).length ≤ n := by
  unfold cls
  have := List.length_filter_le (fun x : Int => I x.toNat && (lab x.toNat == c)) ((List.range n).map fun i : Nat => (i : Int))
  rw [List.length_map, List.length_range] at this; exact this
theorem clss_len (n : Nat) (I : Nat → Bool) (lab : Nat → Nat) (k : Nat) : (clss n I lab k).length ≤ k := by
  unfold clss
  have := List.length_filter_le (fun c : List Int => !c.isEmpty) ((List.range k).map (cls n I lab))
  rw [List.length_map, List.length_range] at this; exact this
set_option maxHeartbeats 2000000 in
theorem rClasses_e (l : List ByteArray) (n : Nat) (E R : Nat → Nat → Bool) (S F : Nat → Bool) (kind : Int) (I : Nat → Bool) (hl : l.length = n) (hn : n ≤ 1000) : AF Tryz.prog 77 [.agg (cView l n E R S F), pInt kind, pBools n I] (fun p => ∃ cs, Comps (marked n I) (togI E R kind) cs ∧ p = .own 81 1 cs.length (cs.map pInts)) := by
  subst hl
  refine AF.of_body 156 Tryz.func77 rfl Tryz.ntmps77 (Nat.le_of_ble_eq_true rfl) ?_
  intro w0 M0 vs hl hv
  obtain ⟨v0, v1, v2, rfl⟩ := len3 hl
  obtain rfl := hv 1 _ _ rfl rfl
  clear hl hv
  dsimp only [cView]
  refine nav ?_
  (refine aC_region ?_
    <;> refine s_boxa 3 5 fun h3 => ?_
    <;> refine xL 6 q_assign ?_
    <;> refine aL_end (nav ?_) <;> try dsimp only)
  (refine aC_region ?_
    <;> refine xL 17 (q_fldo 3 tFl86_0_LbU) ?_
    <;> (refine yL 18 (q_ldo 3 tNa36_LbU) fun v18 hv18 => ?_; cases hv18)
    <;> refine xL 19 (q_len tSl36_LbU) ?_
    <;> refine xL 7 q_assign ?_
    <;> refine aL_end (nav ?_) <;> try dsimp only)
  (refine aC_region ?_
    <;> refine xL 20 q_move ?_
    <;> refine s_make 21 tEl81_LbU fun h21 ho21 => ?_
    <;> refine xL 8 q_assign ?_
    <;> refine aL_end (nav ?_) <;> try dsimp only)
  (refine aC_region ?_
    <;> refine xL 9 q_assign ?_
    <;> refine aL_end (nav ?_) <;> try dsimp only)
  rw [labs_zero]
  refine aC_loop (ι := { k : Nat // k ≤ l.length }) (fun k => ⟨[(1, _, _), (2, _, _), (3, _, _), (7, _, _), (8, _, _), (9, .int .i64 k.1, pInt k.1)], [(3, _, _), (21, h21, .own 3 1 l.length (labs l.length fun i => if i < k.1 then i else 0))]⟩) (fun k => l.length - k.1) ⟨0, Nat.zero_le _⟩ (fun a w H => H.weaken ⟨rfl, rfl, rfl, rfl, rfl, rfl, trivial⟩ ⟨rfl, rfl, trivial⟩) ?_
  rintro ⟨k, hk⟩
  dsimp only
  have e1 := labs_len l.length (fun i => if i < k then i else 0)
  refine nav ?_
  (refine aC_region ?_
    <;> refine xL 22 q_move ?_
    <;> refine xL 23 q_move ?_
    <;> refine xL 24 q_lss ?_
    <;> refine aL_end (nav ?_) <;> try dsimp only)
  first | refine cCd (fun hb24 => ?_) (fun hb24 => ?_) | refine cC (fun hb24 => ?_) (fun hb24 => ?_)
  · first
    | exact Bool.noConfusion hb24
    | (
     refine nav ?_
     (refine aC_region ?_
       <;> refine xL 27 q_move ?_
       <;> refine xL 28 q_move ?_
       <;> refine xL 29 q_move ?_
       <;> refine xL 30 (q_idxoN 21 tSl81_LbU) ?_
       <;> refine s_st 21 tNa3_LbU tSz3_LbU ?_
       <;> refine aL_end (nav ?_) <;> try dsimp only)
     (refine aC_region ?_
       <;> refine xL 25 q_move ?_
       <;> refine xL 26 q_add ?_
       <;> refine xL 9 q_assign ?_
       <;> refine aL_end (nav ?_) <;> try dsimp only)
     rw [labs_next]
     refine aN_again (
       ⟨k + 1, by omega⟩
       ) (by dsimp only; omega) ⟨rfl, rfl, rfl, rfl, rfl, rfl, trivial⟩ ⟨rfl, rfl, trivial⟩)
  · first
    | exact Bool.noConfusion hb24
    | (
     refine nav ?_
     (refine aC_region ?_
       <;> refine xL 10 q_assign ?_
       <;> refine aL_end (nav ?_) <;> try dsimp only)
     obtain rfl : k = l.length := by omega
     rw [labs_full]
     refine aC_loop (ι := { x : (Nat → Nat) × Bool // LabOk l.length I (togI E R kind) x.1 ∧ (x.2 = false → Fix l.length I (togI E R kind) (togB E R kind) x.1) }) (fun k => ⟨[(1, _, _), (2, _, _), (3, _, _), (7, _, _), (8, _, _), (10, .bool k.1.2, pBool k.1.2)], [(3, _, _), (21, h21, .own 3 1 l.length (labs l.length k.1.1))]⟩) (fun k => sumTo l.length k.1.1 + (if k.1.2 then 1 else 0)) ⟨(fun i => i, true), LabOk.start _ _ _, fun h => Bool.noConfusion h⟩ (fun a w H => H.weaken ⟨rfl, rfl, rfl, rfl, rfl, rfl, trivial⟩ ⟨rfl, rfl, trivial⟩) ?_
     rintro ⟨⟨lab0, ag0⟩, hok0, hfx0⟩
     dsimp only
     dsimp only at hok0 hfx0
     refine nav ?_
     (refine aC_region ?_
       <;> refine xL 31 q_move ?_
       <;> refine aL_end (nav ?_) <;> try dsimp only)
     first | refine cCd (fun hb31 => ?_) (fun hb31 => ?_) | refine cC (fun hb31 => ?_) (fun hb31 => ?_)
     · first
       | exact Bool.noConfusion hb31
       | (
        refine nav ?_
        (refine aC_region ?_
          <;> refine xL 10 q_assign ?_
          <;> refine aL_end (nav ?_) <;> try dsimp only)
        (refine aC_region ?_
          <;> refine xL 11 q_assign ?_
          <;> refine aL_end (nav ?_) <;> try dsimp only)
        refine aC_loop (ι := { x : (Nat → Nat) × Bool × Nat // x.2.2 ≤ l.length ∧ LabPass l.length I (togI E R kind) (togB E R kind) lab0 x.1 x.2.1 x.2.2 0 }) (fun k => ⟨[(1, _, _), (2, _, _), (3, _, _), (7, _, _), (8, _, _), (10, .bool k.1.2.1, pBool k.1.2.1), (11, .int .i64 k.1.2.2, pInt k.1.2.2)], [(3, _, _), (21, h21, .own 3 1 l.length (labs l.length k.1.1))]⟩) (fun k => l.length - k.1.2.2) ⟨(lab0, false, 0), Nat.zero_le _, LabPass.start hok0⟩ (fun a w H => H.weaken ⟨rfl, rfl, rfl, rfl, rfl, rfl, rfl, trivial⟩ ⟨rfl, rfl, trivial⟩) ?_
        rintro ⟨⟨lab1, ag1, a⟩, ha, hp1⟩
        dsimp only
        dsimp only at ha hp1
        refine nav ?_
        (refine aC_region ?_
          <;> refine xL 32 q_move ?_
          <;> refine xL 33 q_move ?_
          <;> refine xL 34 q_lss ?_
          <;> refine aL_end (nav ?_) <;> try dsimp only)
        first | refine cCd (fun hb34 => ?_) (fun hb34 => ?_) | refine cC (fun hb34 => ?_) (fun hb34 => ?_)
        · first
          | exact Bool.noConfusion hb34
          | (
           refine nav ?_
           (refine aC_region ?_
             <;> refine xL 12 q_assign ?_
             <;> refine aL_end (nav ?_) <;> try dsimp only)
           refine aC_loop (ι := { x : (Nat → Nat) × Bool × Nat // x.2.2 ≤ l.length ∧ LabPass l.length I (togI E R kind) (togB E R kind) lab0 x.1 x.2.1 a x.2.2 }) (fun k => ⟨[(1, _, _), (2, _, _), (3, _, _), (7, _, _), (8, _, _), (11, _, _), (10, .bool k.1.2.1, pBool k.1.2.1), (12, .int .i64 k.1.2.2, pInt k.1.2.2)], [(3, _, _), (21, h21, .own 3 1 l.length (labs l.length k.1.1))]⟩) (fun k => l.length - k.1.2.2) ⟨(lab1, ag1, 0), Nat.zero_le _, hp1⟩ (fun a w H => H.weaken ⟨rfl, rfl, rfl, rfl, rfl, rfl, rfl, rfl, trivial⟩ ⟨rfl, rfl, trivial⟩) ?_
           rintro ⟨⟨lab2, ag2, b⟩, hb, hp2⟩
           dsimp only
           dsimp only at hb hp2
           refine nav ?_
           (refine aC_region ?_
             <;> refine xL 37 q_move ?_
             <;> refine xL 38 q_move ?_
             <;> refine xL 39 q_lss ?_
             <;> refine aL_end (nav ?_) <;> try dsimp only)
           first | refine cCd (fun hb39 => ?_) (fun hb39 => ?_) | refine cC (fun hb39 => ?_) (fun hb39 => ?_)
           · first
             | exact Bool.noConfusion hb39
             | (
              have han : a < l.length := by omega
              have hbn : b < l.length := by omega
              have i1 := vec_at1 (fun j => pBool (I j)) han
              have i2 := vec_at1 (fun j => pBool (I j)) hbn
              have l1 := labs_at lab2 han
              have l2 := labs_at lab2 hbn
              have l3 := labs_len l.length lab2
              refine nav ?_
              (refine aC_draw (fun i => ([] : List Nat).elem i) [3, 21] (by kernel_rfl) ?_
                <;> refine xD 0 42 rfl q_move ?_
                <;> refine xE 1 43 rfl q_move ?_
                <;> refine xE 2 44 rfl q_neq ?_
                <;> refine xE 3 45 rfl q_move ?_
                <;> (refine bDd 45 (fun hb45 => ?_) (fun hb45 => ?_) <;> (first | refine kD 4 46 rfl ?_ | refine xD 4 46 rfl q_move ?_))
                <;> (first | refine kD 5 47 rfl ?_ | refine xD 5 47 rfl q_move ?_)
                <;> (first | refine kD 6 48 rfl ?_ | refine xD 6 48 rfl (q_idxN tSl78_LbU) ?_)
                <;> (first | refine kD 7 49 rfl ?_ | (refine yD 7 49 rfl (q_ld tNa4_LbU) fun v49 hv49 => ?_; cases hv49))
                <;> refine xE 8 50 rfl q_pick ?_
                <;> refine xE 9 51 rfl q_move ?_
                <;> (first | refine kD 10 52 rfl ?_ | (refine bD 51 (fun hb51 => ?_) (fun hb51 => ?_) <;> (first | refine kD 10 52 rfl ?_ | refine xD 10 52 rfl q_move ?_)))
                <;> (first | refine kD 11 53 rfl ?_ | refine xD 11 53 rfl q_move ?_)
                <;> (first | refine kD 12 54 rfl ?_ | refine xD 12 54 rfl (q_idxN tSl78_LbU) ?_)
                <;> (first | refine kD 13 55 rfl ?_ | (refine yD 13 55 rfl (q_ld tNa4_LbU) fun v55 hv55 => ?_; cases hv55))
                <;> refine xE 14 56 rfl q_pick ?_
                <;> refine xE 15 57 rfl q_move ?_
                <;> (first | refine kD 16 58 rfl ?_ | (refine bD 57 (fun hb57 => ?_) (fun hb57 => ?_) <;> (first | refine kD 16 58 rfl ?_ | refine xD 16 58 rfl q_move ?_)))
                <;> (first | refine kD 17 59 rfl ?_ | refine xD 17 59 rfl q_move ?_)
                <;> (first | refine kD 18 60 rfl ?_ | refine xD 18 60 rfl (q_idxoN 21 tSl81_LbU) ?_)
                <;> (first | refine kD 19 61 rfl ?_ | (refine yD 19 61 rfl (q_ldo 21 tNa3_LbU) fun v61 hv61 => ?_; cases hv61))
                <;> (first | refine kD 20 62 rfl ?_ | refine xD 20 62 rfl q_move ?_)
                <;> (first | refine kD 21 63 rfl ?_ | refine xD 21 63 rfl q_move ?_)
                <;> (first | refine kD 22 64 rfl ?_ | refine xD 22 64 rfl (q_idxoN 21 tSl81_LbU) ?_)
                <;> (first | refine kD 23 65 rfl ?_ | (refine yD 23 65 rfl (q_ldo 21 tNa3_LbU) fun v65 hv65 => ?_; cases hv65))
                <;> (first | refine kD 24 66 rfl ?_ | refine xD 24 66 rfl q_lss ?_)
                <;> refine xE 25 67 rfl q_pick ?_
                <;> refine xE 26 68 rfl q_move ?_
                <;> (first | refine kD 27 69 rfl ?_ | (refine bDd 68 (fun hb68 => ?_) (fun hb68 => ?_) <;> (first | refine kD 27 69 rfl ?_ | (refine yD 27 69 rfl (q_ldao 3 tAgg86_LbU) fun v69 hv69 => ?_; cases hv69))))
                <;> (first | refine kD 28 70 rfl ?_ | refine xD 28 70 rfl q_move ?_)
                <;> (first | refine kD 29 71 rfl ?_ | refine xD 29 71 rfl q_move ?_)
                <;> (first | refine kD 30 72 rfl ?_ | refine xD 30 72 rfl q_move ?_)
                <;> (refine aD_one 31 (by kernel_rfl) ?_)
                <;> (first | (refine aW_call (d := 73) rfl (cA Tryz.call113 (rTogether_e l l.length E R S F kind a b han hbn)) fun v73 hv73 => ?_; cases hv73) | (refine aW_run rfl fun w9 M9 N9 DQ back => ?_; refine kL 73 ?_; refine aL_end (back _ (nrm ?_))))
                <;> refine xE 32 74 rfl q_pick ?_
                <;> refine aD_end (by kernel_rfl) (nav ?_)
                <;> try dsimp only) <;> (
               refine aC_mid (fun x : { x : (Nat → Nat) × Bool // LabPass l.length I (togI E R kind) (togB E R kind) lab0 x.1 x.2 a b ∧ (x.2 = false → a ≠ b → I a = true → I b = true → togB E R kind a b = true → ¬ x.1 a < x.1 b) } => ⟨[(1, .int .i64 kind, pInt kind), (2, v2, pBools l.length I), (3, padd (sbase h3) 0, .val (padd (sbase h3) 0)), (7, .int .i64 (l.length : Nat), pInt (l.length : Nat)), (8, h21, .val h21), (10, .bool x.1.2, pBool x.1.2), (11, .int .i64 a, pInt a), (12, .int .i64 b, pInt b)], [(3, h3, .own 86 5 1 (cView l l.length E R S F)), (21, h21, .own 3 1 l.length (labs l.length x.1.1))]⟩) ?_ ?_
               · first | refine cCd (fun hb74 => ?_) (fun hb74 => ?_) | refine cC (fun hb74 => ?_) (fun hb74 => ?_)
                 · first
                   | exact Bool.noConfusion hb74
                   | (
                    refine nav ?_
                    (refine aC_region ?_
                      <;> refine xL 75 q_move ?_
                      <;> refine xL 76 q_move ?_
                      <;> refine xL 77 q_move ?_
                      <;> refine xL 78 q_move ?_
                      <;> refine xL 79 (q_idxoN 21 tSl81_LbU) ?_
                      <;> (refine yL 80 (q_ldo 21 tNa3_LbU) fun v80 hv80 => ?_; cases hv80)
                      <;> refine xL 81 (q_idxoN 21 tSl81_LbU) ?_
                      <;> refine s_st 21 tNa3_LbU tSz3_LbU ?_
                      <;> refine aL_end (nav ?_) <;> try dsimp only)
                    (refine aC_region ?_
                      <;> refine xL 10 q_assign ?_
                      <;> refine aL_end (nav ?_) <;> try dsimp only)
                    first
                      | (rw [labs_set]
                         exact aN_join ⟨(upd lab2 b (lab2 a), true), hp2.push han hbn hb51 hb57 (by omega) (.inl (by rw [togI_nat]; exact hb74)) a b, fun h => Bool.noConfusion h⟩ ⟨rfl, rfl, rfl, rfl, rfl, rfl, rfl, rfl, trivial⟩ ⟨rfl, rfl, trivial⟩)
                      | exact aN_join ⟨(lab2, ag2), hp2, fun _ g1 g2 g3 g4 g5 => by
                          first
                            | exact g1 (by omega)
                            | (rw [hb51] at g2; exact absurd g2 (by decide))
                            | (rw [hb57] at g3; exact absurd g3 (by decide))
                            | (have g6 : lab2 a < lab2 b := g5; omega)
                            | (rw [hb74] at g4; exact absurd g4 (by decide))⟩ ⟨rfl, rfl, rfl, rfl, rfl, rfl, rfl, rfl, trivial⟩ ⟨rfl, rfl, trivial⟩)
                 · first
                   | exact Bool.noConfusion hb74
                   | (
                    refine nav ?_
                    first
                      | (rw [labs_set]
                         exact aN_join ⟨(upd lab2 b (lab2 a), true), hp2.push han hbn hb51 hb57 (by omega) (.inl (by rw [togI_nat]; exact hb74)) a b, fun h => Bool.noConfusion h⟩ ⟨rfl, rfl, rfl, rfl, rfl, rfl, rfl, rfl, trivial⟩ ⟨rfl, rfl, trivial⟩)
                      | exact aN_join ⟨(lab2, ag2), hp2, fun _ g1 g2 g3 g4 g5 => by
                          first
                            | exact g1 (by omega)
                            | (rw [hb51] at g2; exact absurd g2 (by decide))
                            | (rw [hb57] at g3; exact absurd g3 (by decide))
                            | (have g6 : lab2 a < lab2 b := g5; omega)
                            | (rw [hb74] at g4; exact absurd g4 (by decide))⟩ ⟨rfl, rfl, rfl, rfl, rfl, rfl, rfl, rfl, trivial⟩ ⟨rfl, rfl, trivial⟩)
               · rintro ⟨⟨lab, ag⟩, hp, hg⟩
                 dsimp only at hp hg ⊢
                 dsimp only [cView]
                 have k1 := labs_at lab han
                 have k2 := labs_at lab hbn
                 have k3 := labs_len l.length lab
                 refine nav ?_
                 (refine aC_draw (fun i => ([] : List Nat).elem i) [3, 21] (by kernel_rfl) ?_
                   <;> refine xD 0 82 rfl q_move ?_
                   <;> refine xE 1 83 rfl q_move ?_
                   <;> refine xE 2 84 rfl q_neq ?_
                   <;> refine xE 3 85 rfl q_move ?_
                   <;> (refine bDd 85 (fun hb85 => ?_) (fun hb85 => ?_) <;> (first | refine kD 4 86 rfl ?_ | refine xD 4 86 rfl q_move ?_))
                   <;> (first | refine kD 5 87 rfl ?_ | refine xD 5 87 rfl q_move ?_)
                   <;> (first | refine kD 6 88 rfl ?_ | refine xD 6 88 rfl (q_idxN tSl78_LbU) ?_)
                   <;> (first | refine kD 7 89 rfl ?_ | (refine yD 7 89 rfl (q_ld tNa4_LbU) fun v89 hv89 => ?_; cases hv89))
                   <;> refine xE 8 90 rfl q_pick ?_
                   <;> refine xE 9 91 rfl q_move ?_
                   <;> (first | refine kD 10 92 rfl ?_ | (refine bD 91 (fun hb91 => ?_) (fun hb91 => ?_) <;> (first | refine kD 10 92 rfl ?_ | refine xD 10 92 rfl q_move ?_)))
                   <;> (first | refine kD 11 93 rfl ?_ | refine xD 11 93 rfl q_move ?_)
                   <;> (first | refine kD 12 94 rfl ?_ | refine xD 12 94 rfl (q_idxN tSl78_LbU) ?_)
                   <;> (first | refine kD 13 95 rfl ?_ | (refine yD 13 95 rfl (q_ld tNa4_LbU) fun v95 hv95 => ?_; cases hv95))
                   <;> refine xE 14 96 rfl q_pick ?_
                   <;> refine xE 15 97 rfl q_move ?_
                   <;> (first | refine kD 16 98 rfl ?_ | (refine bD 97 (fun hb97 => ?_) (fun hb97 => ?_) <;> (first | refine kD 16 98 rfl ?_ | refine xD 16 98 rfl q_move ?_)))
                   <;> (first | refine kD 17 99 rfl ?_ | refine xD 17 99 rfl q_move ?_)
                   <;> (first | refine kD 18 100 rfl ?_ | refine xD 18 100 rfl (q_idxoN 21 tSl81_LbU) ?_)
                   <;> (first | refine kD 19 101 rfl ?_ | (refine yD 19 101 rfl (q_ldo 21 tNa3_LbU) fun v101 hv101 => ?_; cases hv101))
                   <;> (first | refine kD 20 102 rfl ?_ | refine xD 20 102 rfl q_move ?_)
                   <;> (first | refine kD 21 103 rfl ?_ | refine xD 21 103 rfl q_move ?_)
                   <;> (first | refine kD 22 104 rfl ?_ | refine xD 22 104 rfl (q_idxoN 21 tSl81_LbU) ?_)
                   <;> (first | refine kD 23 105 rfl ?_ | (refine yD 23 105 rfl (q_ldo 21 tNa3_LbU) fun v105 hv105 => ?_; cases hv105))
                   <;> (first | refine kD 24 106 rfl ?_ | refine xD 24 106 rfl q_lss ?_)
                   <;> refine xE 25 107 rfl q_pick ?_
                   <;> refine xE 26 108 rfl q_move ?_
                   <;> (first | refine kD 27 109 rfl ?_ | (refine bDd 108 (fun hb108 => ?_) (fun hb108 => ?_) <;> (first | refine kD 27 109 rfl ?_ | (refine yD 27 109 rfl (q_ldao 3 tAgg86_LbU) fun v109 hv109 => ?_; cases hv109))))
                   <;> (first | refine kD 28 110 rfl ?_ | refine xD 28 110 rfl q_move ?_)
                   <;> (first | refine kD 29 111 rfl ?_ | refine xD 29 111 rfl q_move ?_)
                   <;> (first | refine kD 30 112 rfl ?_ | refine xD 30 112 rfl q_move ?_)
                   <;> (refine aD_one 31 (by kernel_rfl) ?_)
                   <;> (first | (refine aW_call (d := 113) rfl (cA Tryz.call113 (rTogether_e l l.length E R S F kind a b han hbn)) fun v113 hv113 => ?_; cases hv113) | (refine aW_run rfl fun w9 M9 N9 DQ back => ?_; refine kL 113 ?_; refine aL_end (back _ (nrm ?_))))
                   <;> refine xE 32 114 rfl q_pick ?_
                   <;> refine aD_end (by kernel_rfl) (nav ?_)
                   <;> try dsimp only) <;> (
                  first | refine cCd (fun hb114 => ?_) (fun hb114 => ?_) | refine cC (fun hb114 => ?_) (fun hb114 => ?_)
                  · first
                    | exact Bool.noConfusion hb114
                    | (
                     refine nav ?_
                     (refine aC_region ?_
                       <;> refine xL 115 q_move ?_
                       <;> refine xL 116 q_move ?_
                       <;> refine xL 117 q_move ?_
                       <;> refine xL 118 q_move ?_
                       <;> refine xL 119 (q_idxoN 21 tSl81_LbU) ?_
                       <;> (refine yL 120 (q_ldo 21 tNa3_LbU) fun v120 hv120 => ?_; cases hv120)
                       <;> refine xL 121 (q_idxoN 21 tSl81_LbU) ?_
                       <;> refine s_st 21 tNa3_LbU tSz3_LbU ?_
                       <;> refine aL_end (nav ?_) <;> try dsimp only)
                     (refine aC_region ?_
                       <;> refine xL 10 q_assign ?_
                       <;> refine aL_end (nav ?_) <;> try dsimp only)
                     (refine aC_region ?_
                       <;> refine xL 40 q_move ?_
                       <;> refine xL 41 q_add ?_
                       <;> refine xL 12 q_assign ?_
                       <;> refine aL_end (nav ?_) <;> try dsimp only)
                     try rw [labs_set]
                     first
                       | (exact aN_again (
                           ⟨(upd lab a (lab b), true, b + 1), by show b + 1 ≤ l.length; omega, hp.push hbn han hb97 hb91 (by omega) (.inr (by rw [togI_nat]; exact hb114)) a (b + 1)⟩
                           ) (by show l.length - (b + 1) < l.length - b; omega) ⟨rfl, rfl, rfl, rfl, rfl, rfl, rfl, rfl, trivial⟩ ⟨rfl, rfl, trivial⟩)
                       | (exact aN_again (
                           ⟨(lab, ag, b + 1), by show b + 1 ≤ l.length; omega, hp.on fun hag g1 g2 g3 g4 => by
                             have g6 : ¬ lab a < lab b := hg hag g1 g2 g3 g4
                             first
                               | exact absurd rfl (by omega)
                               | (rw [hb91] at g2; exact absurd g2 (by decide))
                               | (rw [hb97] at g3; exact absurd g3 (by decide))
                               | omega
                               | (rw [hb114] at g4; exact absurd g4 (by decide))⟩
                           ) (by show l.length - (b + 1) < l.length - b; omega) ⟨rfl, rfl, rfl, rfl, rfl, rfl, rfl, rfl, trivial⟩ ⟨rfl, rfl, trivial⟩))
                  · first
                    | exact Bool.noConfusion hb114
                    | (
                     refine nav ?_
                     (refine aC_region ?_
                       <;> refine xL 40 q_move ?_
                       <;> refine xL 41 q_add ?_
                       <;> refine xL 12 q_assign ?_
                       <;> refine aL_end (nav ?_) <;> try dsimp only)
                     try rw [labs_set]
                     first
                       | (exact aN_again (
                           ⟨(upd lab a (lab b), true, b + 1), by show b + 1 ≤ l.length; omega, hp.push hbn han hb97 hb91 (by omega) (.inr (by rw [togI_nat]; exact hb114)) a (b + 1)⟩
                           ) (by show l.length - (b + 1) < l.length - b; omega) ⟨rfl, rfl, rfl, rfl, rfl, rfl, rfl, rfl, trivial⟩ ⟨rfl, rfl, trivial⟩)
                       | (exact aN_again (
                           ⟨(lab, ag, b + 1), by show b + 1 ≤ l.length; omega, hp.on fun hag g1 g2 g3 g4 => by
                             have g6 : ¬ lab a < lab b := hg hag g1 g2 g3 g4
                             first
                               | exact absurd rfl (by omega)
                               | (rw [hb91] at g2; exact absurd g2 (by decide))
                               | (rw [hb97] at g3; exact absurd g3 (by decide))
                               | omega
                               | (rw [hb114] at g4; exact absurd g4 (by decide))⟩
                           ) (by show l.length - (b + 1) < l.length - b; omega) ⟨rfl, rfl, rfl, rfl, rfl, rfl, rfl, rfl, trivial⟩ ⟨rfl, rfl, trivial⟩)))))
           · first
             | exact Bool.noConfusion hb39
             | (
              refine nav ?_
              (refine aC_region ?_
                <;> refine xL 35 q_move ?_
                <;> refine xL 36 q_add ?_
                <;> refine xL 11 q_assign ?_
                <;> refine aL_end (nav ?_) <;> try dsimp only)
              refine aN_again (
                ⟨(lab2, ag2, a + 1), by show a + 1 ≤ l.length; omega, by rw [show b = l.length by omega] at hp2; exact hp2.row⟩
                ) (by show l.length - (a + 1) < l.length - a; omega) ⟨rfl, rfl, rfl, rfl, rfl, rfl, rfl, trivial⟩ ⟨rfl, rfl, trivial⟩))
        · first
          | exact Bool.noConfusion hb34
          | (
           refine nav ?_
           refine aN_again (
             ⟨(lab1, ag1), hp1.ok, fun hg => by
               have : a = l.length := by omega
               subst this; subst hg; exact hp1.fix⟩
             ) (by show sumTo l.length lab1 + (if ag1 then 1 else 0) < sumTo l.length lab0 + (if ag0 then 1 else 0); rw [show ag0 = true from hb31]; exact hp1.less) ⟨rfl, rfl, rfl, rfl, rfl, rfl, trivial⟩ ⟨rfl, rfl, trivial⟩))
     · first
       | exact Bool.noConfusion hb31
       | (
        refine nav ?_
        (refine aC_region ?_
          <;> refine xL 13 q_assign ?_
          <;> refine aL_end (nav ?_) <;> try dsimp only)
        (refine aC_region ?_
          <;> refine xL 14 q_assign ?_
          <;> refine aL_end (nav ?_) <;> try dsimp only)
        have hfx := hfx0 hb31
        refine aC_ent (nilOwn 200 81 1 rfl) fun _ => ?_
        refine aC_loop (ι := { x : Nat × Value // x.1 ≤ l.length }) (fun k => ⟨[(2, _, _), (7, _, _), (8, _, _), (13, k.1.2, .val k.1.2), (14, .int .i64 k.1.1, pInt k.1.1)], [(21, _, _), (200, k.1.2, .own 81 1 (clss l.length I lab0 k.1.1).length ((clss l.length I lab0 k.1.1).map pInts))]⟩) (fun k => l.length - k.1.1) ⟨(0, .slice none 0 0), Nat.zero_le _⟩ (fun a w H => H.weaken ⟨rfl, rfl, rfl, rfl, rfl, trivial⟩ ⟨rfl, rfl, trivial⟩) ?_
        rintro ⟨⟨c, hov⟩, hc⟩
        dsimp only
        dsimp only at hc
        have hcsl := clss_len l.length I lab0 c
        refine nav ?_
        (refine aC_region ?_
          <;> refine xL 122 q_move ?_
          <;> refine xL 123 q_move ?_
          <;> refine xL 124 q_lss ?_
          <;> refine aL_end (nav ?_) <;> try dsimp only)
        first | refine cCd (fun hb124 => ?_) (fun hb124 => ?_) | refine cC (fun hb124 => ?_) (fun hb124 => ?_)
        · first
          | exact Bool.noConfusion hb124
          | (
           refine nav ?_
           (refine aC_region ?_
             <;> refine xL 15 q_assign ?_
             <;> refine aL_end (nav ?_) <;> try dsimp only)
           (refine aC_region ?_
             <;> refine xL 16 q_assign ?_
             <;> refine aL_end (nav ?_) <;> try dsimp only)
           refine aC_ent (nilOwn 201 3 1 rfl) fun _ => ?_
           refine aC_loop (ι := { x : Nat × Value // x.1 ≤ l.length ∧ x.2.oneCell' = true }) (fun k => ⟨[(2, _, _), (7, _, _), (8, _, _), (13, _, _), (14, _, _), (15, k.1.2, .val k.1.2), (16, .int .i64 k.1.1, pInt k.1.1)], [(21, _, _), (200, _, _), (201, k.1.2, .own 3 1 (cls k.1.1 I lab0 c).length ((cls k.1.1 I lab0 c).map pInt))]⟩) (fun k => l.length - k.1.1) ⟨(0, .slice none 0 0), Nat.zero_le _, rfl⟩ (fun a w H => H.weaken ⟨rfl, rfl, rfl, rfl, rfl, rfl, rfl, trivial⟩ ⟨rfl, rfl, rfl, trivial⟩) ?_
           rintro ⟨⟨i, hlv⟩, hi, hlo⟩
           dsimp only
           dsimp only at hi hlo
           have hcll := cls_len i I lab0 c
           refine nav ?_
           (refine aC_region ?_
             <;> refine xL 127 q_move ?_
             <;> refine xL 128 q_move ?_
             <;> refine xL 129 q_lss ?_
             <;> refine aL_end (nav ?_) <;> try dsimp only)
           first | refine cCd (fun hb129 => ?_) (fun hb129 => ?_) | refine cC (fun hb129 => ?_) (fun hb129 => ?_)
           · first
             | exact Bool.noConfusion hb129
             | (
              have hin : i < l.length := by omega
              have j1 := vec_at1 (fun j => pBool (I j)) hin
              have j2 := labs_at lab0 hin
              have s1 := cls_succ i I lab0 c
              have j3 : ((cls i I lab0 c).map pInt).length = (cls i I lab0 c).length := List.length_map _
              refine nav ?_
              (refine aC_region ?_
                <;> refine xL 132 q_move ?_
                <;> refine xL 133 q_move ?_
                <;> refine xL 134 (q_idxN tSl78_LbU) ?_
                <;> (refine yL 135 (q_ld tNa4_LbU) fun v135 hv135 => ?_; cases hv135)
                <;> refine xL 136 q_move ?_
                <;> (refine bL 136 (fun hb136 => ?_) (fun hb136 => ?_) <;> (first | refine kL 137 ?_ | refine xL 137 q_move ?_))
                <;> (first | refine kL 138 ?_ | refine xL 138 q_move ?_)
                <;> (first | refine kL 139 ?_ | refine xL 139 (q_idxoN 21 tSl81_LbU) ?_)
                <;> (first | refine kL 140 ?_ | (refine yL 140 (q_ldo 21 tNa3_LbU) fun v140 hv140 => ?_; cases hv140))
                <;> (first | refine kL 141 ?_ | refine xL 141 q_move ?_)
                <;> (first | refine kL 142 ?_ | refine xL 142 q_eql ?_)
                <;> refine xL 143 q_pick ?_
                <;> refine aL_end (nav ?_) <;> try dsimp only) <;> (
               first | refine cCd (fun hb143 => ?_) (fun hb143 => ?_) | refine cC (fun hb143 => ?_) (fun hb143 => ?_)
               · first
                 | exact Bool.noConfusion hb143
                 | (
                  refine nav ?_
                  (refine aC_region ?_
                    <;> refine xL 144 q_move ?_
                    <;> refine xL 145 q_move ?_
                    <;> refine s_lit1 (kk := 1) 146 tEl81_LbU fun h146 ho146 => ?_
                    <;> refine s_app 201 146 147 tEl81_LbU fun h147 ho147 => ?_
                    <;> refine xL 15 q_assign ?_
                    <;> refine aL_end (nav ?_) <;> try dsimp only)
                  (refine aC_region ?_
                    <;> refine xL 130 q_move ?_
                    <;> refine xL 131 q_add ?_
                    <;> refine xL 16 q_assign ?_
                    <;> refine aL_end (nav ?_) <;> try dsimp only)
                  try refine aN_ent (relabel (l := 147) 201 rfl rfl) fun _ => ?_
                  try rw [show (cls i I lab0 c).map pInt ++ [pInt (i : Nat)] = (cls (i + 1) I lab0 c).map pInt by rw [s1, if_pos ⟨hb136, by omega⟩, List.map_append]; rfl, show (cls i I lab0 c).length + 1 = (cls (i + 1) I lab0 c).length by rw [s1, if_pos ⟨hb136, by omega⟩, List.length_append]; rfl]
                  try rw [← cls_no1 (lab := lab0) (c := c) hb136]
                  try rw [← cls_no2 (I := I) hb143]
                  first
                    | (exact aN_again (
                        ⟨(i + 1, h147), by show i + 1 ≤ l.length; omega, ho147⟩
                        ) (by show l.length - (i + 1) < l.length - i; omega) ⟨rfl, rfl, rfl, rfl, rfl, rfl, rfl, trivial⟩ ⟨rfl, rfl, rfl, trivial⟩)
                    | (exact aN_again (
                        ⟨(i + 1, hlv), by show i + 1 ≤ l.length; omega, hlo⟩
                        ) (by show l.length - (i + 1) < l.length - i; omega) ⟨rfl, rfl, rfl, rfl, rfl, rfl, rfl, trivial⟩ ⟨rfl, rfl, rfl, trivial⟩))
               · first
                 | exact Bool.noConfusion hb143
                 | (
                  refine nav ?_
                  (refine aC_region ?_
                    <;> refine xL 130 q_move ?_
                    <;> refine xL 131 q_add ?_
                    <;> refine xL 16 q_assign ?_
                    <;> refine aL_end (nav ?_) <;> try dsimp only)
                  try refine aN_ent (relabel (l := 147) 201 rfl rfl) fun _ => ?_
                  try rw [show (cls i I lab0 c).map pInt ++ [pInt (i : Nat)] = (cls (i + 1) I lab0 c).map pInt by rw [s1, if_pos ⟨hb136, by omega⟩, List.map_append]; rfl, show (cls i I lab0 c).length + 1 = (cls (i + 1) I lab0 c).length by rw [s1, if_pos ⟨hb136, by omega⟩, List.length_append]; rfl]
                  try rw [← cls_no1 (lab := lab0) (c := c) hb136]
                  try rw [← cls_no2 (I := I) hb143]
                  first
                    | (exact aN_again (
                        ⟨(i + 1, h147), by show i + 1 ≤ l.length; omega, ho147⟩
                        ) (by show l.length - (i + 1) < l.length - i; omega) ⟨rfl, rfl, rfl, rfl, rfl, rfl, rfl, trivial⟩ ⟨rfl, rfl, rfl, trivial⟩)
                    | (exact aN_again (
                        ⟨(i + 1, hlv), by show i + 1 ≤ l.length; omega, hlo⟩
                        ) (by show l.length - (i + 1) < l.length - i; omega) ⟨rfl, rfl, rfl, rfl, rfl, rfl, rfl, trivial⟩ ⟨rfl, rfl, rfl, trivial⟩))))
           · first
             | exact Bool.noConfusion hb129
             | (
              refine nav ?_
              have hil : i = l.length := by omega
              subst hil
              have s2 := clss_succ l.length c I lab0
              have j4 : ((clss l.length I lab0 c).map pInts).length = (clss l.length I lab0 c).length := List.length_map _
              (refine aC_region ?_
                <;> refine xL 148 q_move ?_
                <;> refine xL 149 (q_leno 201 tSl81_LbU) ?_
                <;> refine xL 150 q_gtr ?_
                <;> refine aL_end (nav ?_) <;> try dsimp only)
              first | refine cCd (fun hb150 => ?_) (fun hb150 => ?_) | refine cC (fun hb150 => ?_) (fun hb150 => ?_)
              · first
                | exact Bool.noConfusion hb150
                | (
                 refine nav ?_
                 (refine aC_region ?_
                   <;> refine xL 151 q_move ?_
                   <;> refine xL 152 q_move ?_
                   <;> refine s_lit1 (kk := 1) 153 tEl92_LbU fun h153 ho153 => ?_
                   <;> refine s_app 200 153 154 tEl92_LbU fun h154 ho154 => ?_
                   <;> refine xL 13 q_assign ?_
                   <;> refine aL_end (nav ?_) <;> try dsimp only)
                 (refine aC_region ?_
                   <;> refine xL 125 q_move ?_
                   <;> refine xL 126 q_add ?_
                   <;> refine xL 14 q_assign ?_
                   <;> refine aL_end (nav ?_) <;> try dsimp only)
                 try refine aN_ent (freezeCell (l := 154) (l' := 201) (j := (clss l.length I lab0 c).length) rfl (lsnoc_at (List.length_map _).symm) rfl rfl) fun _ => ?_
                 try rw [lsnoc_set (List.length_map _).symm, share_intl _ _ _ rfl]
                 try rw [show (clss l.length I lab0 c).map pInts ++ [pInts (cls l.length I lab0 c)] = (clss l.length I lab0 (c + 1)).map pInts by rw [s2, if_neg (by intro e; rw [e] at hb150; exact absurd hb150 (by decide)), List.map_append]; rfl, show (clss l.length I lab0 c).length + 1 = (clss l.length I lab0 (c + 1)).length by rw [s2, if_neg (by intro e; rw [e] at hb150; exact absurd hb150 (by decide)), List.length_append]; rfl]
                 try refine aN_ent (relabel (l := 154) 200 rfl rfl) fun _ => ?_
                 try rw [show clss l.length I lab0 c = clss l.length I lab0 (c + 1) by rw [s2, if_pos (List.eq_nil_of_length_eq_zero (by omega)), List.append_nil]]
                 first
                   | (exact aN_again (
                       ⟨(c + 1, h154), by show c + 1 ≤ l.length; omega⟩
                       ) (by show l.length - (c + 1) < l.length - c; omega) ⟨rfl, rfl, rfl, rfl, rfl, trivial⟩ ⟨rfl, rfl, trivial⟩)
                   | (exact aN_again (
                       ⟨(c + 1, hov), by show c + 1 ≤ l.length; omega⟩
                       ) (by show l.length - (c + 1) < l.length - c; omega) ⟨rfl, rfl, rfl, rfl, rfl, trivial⟩ ⟨rfl, rfl, trivial⟩))
              · first
                | exact Bool.noConfusion hb150
                | (
                 refine nav ?_
                 (refine aC_region ?_
                   <;> refine xL 125 q_move ?_
                   <;> refine xL 126 q_add ?_
                   <;> refine xL 14 q_assign ?_
                   <;> refine aL_end (nav ?_) <;> try dsimp only)
                 try refine aN_ent (freezeCell (l := 154) (l' := 201) (j := (clss l.length I lab0 c).length) rfl (lsnoc_at (List.length_map _).symm) rfl rfl) fun _ => ?_
                 try rw [lsnoc_set (List.length_map _).symm, share_intl _ _ _ rfl]
                 try rw [show (clss l.length I lab0 c).map pInts ++ [pInts (cls l.length I lab0 c)] = (clss l.length I lab0 (c + 1)).map pInts by rw [s2, if_neg (by intro e; rw [e] at hb150; exact absurd hb150 (by decide)), List.map_append]; rfl, show (clss l.length I lab0 c).length + 1 = (clss l.length I lab0 (c + 1)).length by rw [s2, if_neg (by intro e; rw [e] at hb150; exact absurd hb150 (by decide)), List.length_append]; rfl]
                 try refine aN_ent (relabel (l := 154) 200 rfl rfl) fun _ => ?_
                 try rw [show clss l.length I lab0 c = clss l.length I lab0 (c + 1) by rw [s2, if_pos (List.eq_nil_of_length_eq_zero (by omega)), List.append_nil]]
                 first
                   | (exact aN_again (
                       ⟨(c + 1, h154), by show c + 1 ≤ l.length; omega⟩
                       ) (by show l.length - (c + 1) < l.length - c; omega) ⟨rfl, rfl, rfl, rfl, rfl, trivial⟩ ⟨rfl, rfl, trivial⟩)
                   | (exact aN_again (
                       ⟨(c + 1, hov), by show c + 1 ≤ l.length; omega⟩
                       ) (by show l.length - (c + 1) < l.length - c; omega) ⟨rfl, rfl, rfl, rfl, rfl, trivial⟩ ⟨rfl, rfl, trivial⟩))))
        · first
          | exact Bool.noConfusion hb124
          | (
           refine nav ?_
           (refine aC_region ?_
             <;> refine xL 155 q_move ?_
             <;> refine xL 6 q_assign ?_
             <;> refine aL_end (nav ?_) <;> try dsimp only)
           have hcl : c = l.length := by omega
           subst hcl
           exact ret_own 200 (Tryz.results77) rfl rfl ⟨_, hfx.comps fun a b _ _ _ _ _ h => togI_t h, rfl⟩)))
end Go.Proofs.YtoanjgpdepaciaaGreat
