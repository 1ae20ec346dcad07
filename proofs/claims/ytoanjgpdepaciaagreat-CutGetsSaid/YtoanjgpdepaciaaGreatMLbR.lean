/-
  Walks: cut.Loop, cut.Find.
-/
import Derived.Test.YtoanjgpdepaciaaGreatMLbQ
namespace Go.Proofs.YtoanjgpdepaciaaGreat
open Go.RowKit Go.Cb Go.En
set_option linter.all false
set_option maxRecDepth 100000

theorem tAgg25_LbR : AggT Tryz.prog 25 4 = true := by kernel_rfl
theorem tAgg28_LbR : AggT Tryz.prog 28 2 = true := by kernel_rfl
theorem tEl81_LbR : ElT Tryz.prog 81 3 1 8 (.int .i64 0) := ⟨Tryz.underlying81, by kernel_rfl, rfl, by decide⟩
theorem tEl92_LbR : ElT Tryz.prog 92 81 1 24 (.slice none 0 0) := ⟨Tryz.underlying92, by kernel_rfl, rfl, by decide⟩
theorem tFl80_0_LbR : FldT Tryz.prog 80 0 0 = true := by kernel_rfl
theorem tFl80_1_LbR : FldT Tryz.prog 80 1 1 = true := by kernel_rfl
theorem tFl80_2_LbR : FldT Tryz.prog 80 2 2 = true := by kernel_rfl
theorem tFl80_3_LbR : FldT Tryz.prog 80 3 3 = true := by kernel_rfl
theorem tNa36_LbR : NoAgg Tryz.prog 36 = true := by kernel_rfl
theorem tNa3_LbR : NoAgg Tryz.prog 3 = true := by kernel_rfl
theorem tNa4_LbR : NoAgg Tryz.prog 4 = true := by kernel_rfl
theorem tNa71_LbR : NoAgg Tryz.prog 71 = true := by kernel_rfl
theorem tNa77_LbR : NoAgg Tryz.prog 77 = true := by kernel_rfl
theorem tNa78_LbR : NoAgg Tryz.prog 78 = true := by kernel_rfl
theorem tNa81_LbR : NoAgg Tryz.prog 81 = true := by kernel_rfl
theorem tSl36_LbR : SlT Tryz.prog 36 9 1 = true := by kernel_rfl
theorem tSl77_LbR : SlT Tryz.prog 77 78 1 = true := by kernel_rfl
theorem tSl78_LbR : SlT Tryz.prog 78 4 1 = true := by kernel_rfl
theorem tSl81_LbR : SlT Tryz.prog 81 3 1 = true := by kernel_rfl
theorem tSl92_LbR : SlT Tryz.prog 92 81 1 = true := by kernel_rfl
theorem tSt28_LbR : stInfo Tryz.prog 28 = some ((.agg #[(.int .i64 0), (.slice none 0 0)]), ([0, 1] : List Nat).map fun o => (o, 1)) := by kernel_rfl
theorem tSz71_LbR : (Tryz.prog.info? 71).map (·.size) = some 1 := by kernel_rfl
theorem tZr28_LbR : ZeroT Tryz.prog 28 (.agg #[(.int .i64 0), (.slice none 0 0)]) := by unfold ZeroT; kernel_rfl
theorem tZr71_LbR : ZeroT Tryz.prog 71 (.pointer none) := by unfold ZeroT; kernel_rfl

def endB (S F : Nat → Bool) (x : Int) : Bool := S x.toNat || F x.toNat
def inL (n : Nat) (S F : Nat → Bool) : List Int := (upTo n).filter (endB S F)
def outL (n : Nat) (S F : Nat → Bool) : List Int := (upTo n).filter fun x => !endB S F x
theorem upTo_succ (k : Nat) : upTo (k + 1) = upTo k ++ [(k : Int)] := by
  unfold upTo vec; rw [List.range_succ, List.map_append]; rfl
theorem inL_succ (k : Nat) (S F : Nat → Bool) : inL (k + 1) S F = inL k S F ++ (if S k = true ∨ F k = true then [(k : Int)] else []) := by
  unfold inL
  rw [upTo_succ, List.filter_append]
  congr 1
  by_cases h : S k = true ∨ F k = true
  · rw [if_pos h, List.filter_cons_of_pos]; · rfl
    unfold endB; rw [Int.toNat_natCast]; rcases h with h | h <;> simp [h]
  · rw [if_neg h, List.filter_cons_of_neg]; · rfl
    unfold endB; rw [Int.toNat_natCast]; simpa using h
theorem outL_succ (k : Nat) (S F : Nat → Bool) : outL (k + 1) S F = outL k S F ++ (if S k = true ∨ F k = true then [] else [(k : Int)]) := by
  unfold outL
  rw [upTo_succ, List.filter_append]
  congr 1
  by_cases h : S k = true ∨ F k = true
  · rw [if_pos h, List.filter_cons_of_neg]; · rfl
    unfold endB; rw [Int.toNat_natCast]; rcases h with h | h <;> simp [h]
  · rw [if_neg h, List.filter_cons_of_pos]; · rfl
    unfold endB; rw [Int.toNat_natCast]
    have h1 : S k = false := by simpa using fun hh => h (.inl hh)
    have h2 : F k = false := by simpa using fun hh => h (.inr hh)
    rw [h1, h2]; rfl
theorem inL_bd {n : Nat} {S F : Nat → Bool} : (inL n S F).length ≤ n ∧ ∀ x ∈ inL n S F, 0 ≤ x ∧ x < n := ⟨by have := List.length_filter_le (endB S F) (upTo n); rw [upTo_len] at this; exact this, fun x hx => upTo_mem.1 (List.mem_filter.1 hx).1⟩
theorem outL_bd {n : Nat} {S F : Nat → Bool} : (outL n S F).length ≤ n ∧ ∀ x ∈ outL n S F, 0 ≤ x ∧ x < n := ⟨by have := List.length_filter_le (fun x => !endB S F x) (upTo n); rw [upTo_len] at this; exact this, fun x hx => upTo_mem.1 (List.mem_filter.1 hx).1⟩
theorem outL_asc (n : Nat) (S F : Nat → Bool) : (outL n S F).Pairwise (· < ·) := (upTo_asc n).filter _
def okL (n : Nat) (E : Nat → Nat → Bool) (S F : Nat → Bool) (c : List Int) : Bool := c.all fun x => (inL n S F).all fun y => loopsB n E S F y.toNat x.toNat
theorem all_snoc {α : Type} {p : α → Bool} {l : List α} {k : Nat} {x : α} (h : l[k]? = some x) : (l.take (k + 1)).all p = ((l.take k).all p && p x) := by
  rw [take_snoc h, List.all_append]; simp
theorem filt_snoc {α : Type} {p : α → Bool} {l : List α} {k : Nat} {x : α} (h : l[k]? = some x) : (l.take (k + 1)).filter p = (l.take k).filter p ++ (if p x = true then [x] else []) := by
  rw [take_snoc h, List.filter_append]
  by_cases hp : p x = true
  · rw [if_pos hp, List.filter_cons_of_pos hp]; rfl
  · rw [if_neg hp, List.filter_cons_of_neg hp]; rfl
def loopCs (n : Nat) (E : Nat → Nat → Bool) (S F : Nat → Bool) (cs : List (List Int)) : List (List Int) :=
  ((inL n S F ++ (cs.filter fun c => !okL n E S F c).flatten).mergeSort fun x y => decide (x ≤ y)) :: cs.filter (okL n E S F)
def RLoop (l : List ByteArray) (n : Nat) (E : Nat → Nat → Bool) (S F : Nat → Bool) (p : PV) : Prop := (inL n S F = [] ∧ p = .tup [.agg [pInt 0, .val (.slice none 0 0)], pInt 10]) ∨ ∃ cs, inL n S F ≠ [] ∧ Comps (outL n S F) (relE E) cs ∧ p = cutP l 4 (loopCs n E S F cs)
theorem filt_flat (p : List Int → Bool) (cs : List (List Int)) : (cs.filter p).flatten.length ≤ cs.flatten.length := by
  induction cs with
  | nil => simp
  | cons c cs ih =>
    rw [List.filter_cons]
    split <;> simp only [List.flatten_cons, List.length_append] <;> omega
theorem comps_inL {l : List Int} {r : Int → Int → Bool} {cs : List (List Int)} (h : Comps l r cs) : (∀ c ∈ cs, ∀ x ∈ c, x ∈ l) ∧ cs.length ≤ l.length ∧ (∀ c ∈ cs, c.length ≤ l.length) ∧ cs.flatten.length ≤ l.length := by
  have h3 := nodup_len h.nd (fun x hx => (h.mem x).1 hx)
  refine ⟨fun c hc x hx => (h.mem x).1 (List.mem_flatten.2 ⟨c, hc, hx⟩), ?_, fun c hc => ?_, h3⟩
  · refine Nat.le_trans ?_ h3
    have : ∀ m : List (List Int), (∀ c ∈ m, c ≠ []) → m.length ≤ m.flatten.length := fun m => by
      induction m with
      | nil => intro _; simp
      | cons c m ih =>
        intro h
        have h1 := ih fun d hd => h d (by simp [hd])
        have h2 := List.length_pos_iff.2 (h c (by simp))
        rw [List.flatten_cons, List.length_append, List.length_cons]; omega
    exact this cs h.ne
  · refine Nat.le_trans ?_ h3
    obtain ⟨a, b, rfl⟩ := List.append_of_mem hc
    simp only [List.flatten_append, List.flatten_cons, List.length_append]; omega
theorem cLoop1_e (l : List ByteArray) (n : Nat) (E : Nat → Nat → Bool) (S F : Nat → Bool) (x y : Int) (hx : 0 ≤ x ∧ x < n) (hy : 0 ≤ y ∧ y < n) : AF Tryz.prog 73 [pInt x, pInt y, .sptr 0 [relP l n E S F]] (· = pBool (relE E x y)) := by
  obtain ⟨a, rfl⟩ : ∃ a : Nat, x = a := ⟨x.toNat, by omega⟩
  obtain ⟨b, rfl⟩ : ∃ b : Nat, y = b := ⟨y.toNat, by omega⟩
  have e1 := vec_at1 (fun i => pBools n (E i)) (show a < n by omega)
  have e2 := vec_at1 (fun j => pBool (E a j)) (show b < n by omega)
  refine AF.of_body 16 Tryz.func73 rfl Tryz.ntmps73 (Nat.le_of_ble_eq_true rfl) ?_
  intro w0 M0 vs hl hv
  obtain ⟨v0, v1, v2, rfl⟩ := len3 hl
  obtain rfl := hv 0 _ _ rfl rfl
  obtain rfl := hv 1 _ _ rfl rfl
  clear hl hv
  dsimp only [relP]
  refine nav ?_
  (refine aC_region ?_
    <;> refine xL 5 q_assign ?_
    <;> refine aL_end (nav ?_) <;> try dsimp only)
  (refine aC_region ?_
    <;> (refine yL 6 (q_ld tNa71_LbR) fun v6 hv6 => ?_; cases hv6)
    <;> refine xL 7 q_nilp ?_
    <;> refine xL 8 (q_fld tFl80_1_LbR) ?_
    <;> (refine yL 9 (q_ld tNa77_LbR) fun v9 hv9 => ?_; cases hv9)
    <;> refine xL 10 q_move ?_
    <;> refine xL 11 (q_idxN tSl77_LbR) ?_
    <;> (refine yL 12 (q_ld tNa78_LbR) fun v12 hv12 => ?_; cases hv12)
    <;> refine xL 13 q_move ?_
    <;> refine xL 14 (q_idxN tSl78_LbR) ?_
    <;> (refine yL 15 (q_ld tNa4_LbR) fun v15 hv15 => ?_; cases hv15)
    <;> refine xL 5 q_assign ?_
    <;> refine aL_end (nav ?_) <;> try dsimp only)
  exact ret_shr Tryz.results73 rfl rfl
set_option maxHeartbeats 2000000 in
theorem cLoop_good (g : Dfg) (l : List ByteArray) (n : Nat) (E : Nat → Nat → Bool) (S F : Nat → Bool) (hb : AF Tryz.prog 43 [pDfg g] (· = .tup [relP l n E S F, pInt 0])) (hl : l.length = n) (hn : n ≤ 1000) : AF Tryz.prog 21 [pDfg g] (RLoop l n E S F) := by
  refine AF.of_body 114 Tryz.func21 rfl Tryz.ntmps21 (Nat.le_of_ble_eq_true rfl) ?_
  intro w0 M0 vs hl hv
  obtain ⟨v0, rfl⟩ := len1 hl
  clear hl hv
  refine nav ?_
  (refine aC_region ?_
    <;> refine s_boxa 1 4 fun h1 => ?_
    <;> refine s_alloc [(.int .i64 0), (.slice none 0 0)] 2 2 tZr28_LbR fun h2 => ?_
    <;> refine xL 3 q_assign ?_
    <;> refine aL_end (nav ?_) <;> try dsimp only)
  (refine aC_region ?_
    <;> (refine yL 19 (q_ldao 1 tAgg25_LbR) fun v19 hv19 => ?_; cases hv19)
    <;> (refine cP 20 (cA Tryz.call43 (hb)) fun va20 vb20 hva20 hvb20 => ?_; cases hvb20)
    <;> refine xL 18 q_move ?_
    <;> refine xL 21 q_extract ?_
    <;> refine xL 22 q_extract ?_
    <;> refine s_alloc [(.pointer none)] 1 4 tZr71_LbR fun h4 => ?_
    <;> refine s_st 4 tNa71_LbR tSz71_LbR ?_
    <;> refine xL 5 q_assign ?_
    <;> refine aL_end (nav ?_) <;> try dsimp only)
  (refine aC_region ?_
    <;> refine xL 23 q_move ?_
    <;> refine xL 24 q_neq ?_
    <;> refine aL_end (nav ?_) <;> try dsimp only) <;> (try (exfalso; omega)) <;> (
   first | refine cCd (fun hb24 => ?_) (fun hb24 => ?_) | refine cC (fun hb24 => ?_) (fun hb24 => ?_)
   · exfalso; omega
   · refine nav ?_
     refine aC_ent (freezeP (l := 4) (t := 4) (j := 0) rfl Nat.one_pos rfl) fun _ => ?_
     dsimp only [shares, share, List.map, relP]
     (refine aC_region ?_
       <;> refine xL 6 q_assign ?_
       <;> refine xL 7 q_assign ?_
       <;> refine aL_end (nav ?_) <;> try dsimp only)
     (refine aC_region ?_
       <;> (refine yL 27 (q_ld tNa71_LbR) fun v27 hv27 => ?_; cases hv27)
       <;> refine xL 28 q_nilp ?_
       <;> refine xL 29 (q_fld tFl80_0_LbR) ?_
       <;> (refine yL 30 (q_ld tNa36_LbR) fun v30 hv30 => ?_; cases hv30)
       <;> refine xL 31 (q_len tSl36_LbR) ?_
       <;> refine xL 32 q_move ?_
       <;> refine aL_end (nav ?_) <;> try dsimp only)
     refine aC_ent (nilOwn 200 3 1 rfl) fun _ => ?_
     refine aC_ent (nilOwn 201 3 1 rfl) fun _ => ?_
     refine aC_loop (ι := { x : Nat × Value × Value × List Int × List Int // x.1 ≤ n ∧ x.2.1.oneCell' = true ∧ x.2.2.1.oneCell' = true ∧ x.2.2.2.1 = inL x.1 S F ∧ x.2.2.2.2 = outL x.1 S F }) (fun k => ⟨[(2, _, _), (4, _, _), (31, _, _), (6, k.1.2.1, .val k.1.2.1), (7, k.1.2.2.1, .val k.1.2.2.1), (32, .int .i64 k.1.1, pInt k.1.1)], [(2, _, _), (200, k.1.2.1, .own 3 1 k.1.2.2.2.1.length (k.1.2.2.2.1.map pInt)), (201, k.1.2.2.1, .own 3 1 k.1.2.2.2.2.length (k.1.2.2.2.2.map pInt))]⟩) (fun k => n - k.1.1) ⟨(0, .slice none 0 0, .slice none 0 0, [], []), Nat.zero_le _, rfl, rfl, rfl, rfl⟩ (fun a w H => H.weaken ⟨rfl, rfl, rfl, rfl, rfl, rfl, trivial⟩ ⟨rfl, rfl, rfl, trivial⟩) ?_
     rintro ⟨⟨k, ha, hbv, A, B⟩, hk, hoa, hob, hA, hB⟩
     dsimp only
     dsimp only at hk hoa hob hA hB
     have hAl : A.length ≤ 1000 := by have := (inL_bd (n := k) (S := S) (F := F)).1; rw [hA]; omega
     have hBl : B.length ≤ 1000 := by have := (outL_bd (n := k) (S := S) (F := F)).1; rw [hB]; omega
     have hAm : (A.map pInt).length = A.length := List.length_map _
     have hBm : (B.map pInt).length = B.length := List.length_map _
     refine nav ?_
     (refine aC_region ?_
       <;> refine xL 33 q_lss ?_
       <;> refine aL_end (nav ?_) <;> try dsimp only)
     first | refine cCd (fun hb33 => ?_) (fun hb33 => ?_) | refine cC (fun hb33 => ?_) (fun hb33 => ?_)
     · first
       | exact Bool.noConfusion hb33
       | (
        have hkn : k < n := by omega
        have eS := vec_at1 (fun j => pBool (S j)) hkn
        have eF := vec_at1 (fun j => pBool (F j)) hkn
        have s1 := inL_succ k S F
        have s2 := outL_succ k S F
        refine nav ?_
        (refine aC_region ?_
          <;> refine xL 34 q_move ?_
          <;> refine xL 8 q_assign ?_
          <;> refine aL_end (nav ?_) <;> try dsimp only)
        (refine aC_region ?_
          <;> (refine yL 35 (q_ld tNa71_LbR) fun v35 hv35 => ?_; cases hv35)
          <;> refine xL 36 q_nilp ?_
          <;> refine xL 37 (q_fld tFl80_2_LbR) ?_
          <;> (refine yL 38 (q_ld tNa78_LbR) fun v38 hv38 => ?_; cases hv38)
          <;> refine xL 39 q_move ?_
          <;> refine xL 40 (q_idxN tSl78_LbR) ?_
          <;> (refine yL 41 (q_ld tNa4_LbR) fun v41 hv41 => ?_; cases hv41)
          <;> refine xL 42 q_move ?_
          <;> (refine bL 42 (fun hb42 => ?_) (fun hb42 => ?_) <;> (first | refine kL 43 ?_ | (refine yL 43 (q_ld tNa71_LbR) fun v43 hv43 => ?_; cases hv43)))
          <;> (first | refine kL 44 ?_ | refine xL 44 q_nilp ?_)
          <;> (first | refine kL 45 ?_ | refine xL 45 (q_fld tFl80_3_LbR) ?_)
          <;> (first | refine kL 46 ?_ | (refine yL 46 (q_ld tNa78_LbR) fun v46 hv46 => ?_; cases hv46))
          <;> (first | refine kL 47 ?_ | refine xL 47 q_move ?_)
          <;> (first | refine kL 48 ?_ | refine xL 48 (q_idxN tSl78_LbR) ?_)
          <;> (first | refine kL 49 ?_ | (refine yL 49 (q_ld tNa4_LbR) fun v49 hv49 => ?_; cases hv49))
          <;> refine xL 50 q_pick ?_
          <;> refine aL_end (nav ?_) <;> try dsimp only) <;> (
         first | refine cCd (fun hb50 => ?_) (fun hb50 => ?_) | refine cC (fun hb50 => ?_) (fun hb50 => ?_)
         · first
           | exact Bool.noConfusion hb50
           | (
            refine nav ?_
            (refine aC_region ?_
              <;> refine xL 51 q_move ?_
              <;> refine xL 52 q_move ?_
              <;> refine s_lit1 (kk := 1) 53 tEl81_LbR fun h53 ho53 => ?_
              <;> refine s_app 200 53 54 tEl81_LbR fun h54 ho54 => ?_
              <;> refine xL 6 q_assign ?_
              <;> refine aL_end (nav ?_) <;> try dsimp only)
            (refine aC_region ?_
              <;> refine xL 59 q_add ?_
              <;> refine xL 32 q_move ?_
              <;> refine aL_end (nav ?_) <;> try dsimp only)
            try refine aN_ent (relabel (l := 54) 200 rfl rfl) fun _ => ?_
            try refine aN_ent (relabel (l := 58) 201 rfl rfl) fun _ => ?_
            try rw [show A.map pInt ++ [pInt k] = (A ++ [(k : Int)]).map pInt by simp, show A.length + 1 = (A ++ [(k : Int)]).length by simp]
            try rw [show B.map pInt ++ [pInt k] = (B ++ [(k : Int)]).map pInt by simp, show B.length + 1 = (B ++ [(k : Int)]).length by simp]
            first
              | (exact aN_again (
                  ⟨(k + 1, h54, hbv, A ++ [(k : Int)], B), by show k + 1 ≤ n; omega, ho54, hob, by show A ++ [(k : Int)] = _; rw [s1, if_pos (by simp [*]), hA], by show B = _; rw [s2, if_pos (by simp [*]), List.append_nil, hB]⟩
                  ) (by show n - (k + 1) < n - k; omega) ⟨rfl, rfl, rfl, rfl, rfl, rfl, trivial⟩ ⟨rfl, rfl, rfl, trivial⟩)
              | (exact aN_again (
                  ⟨(k + 1, ha, h58, A, B ++ [(k : Int)]), by show k + 1 ≤ n; omega, hoa, ho58, by show A = _; rw [s1, if_neg (by simp [*]), List.append_nil, hA], by show B ++ [(k : Int)] = _; rw [s2, if_neg (by simp [*]), hB]⟩
                  ) (by show n - (k + 1) < n - k; omega) ⟨rfl, rfl, rfl, rfl, rfl, rfl, trivial⟩ ⟨rfl, rfl, rfl, trivial⟩))
         · first
           | exact Bool.noConfusion hb50
           | (
            refine nav ?_
            (refine aC_region ?_
              <;> refine xL 55 q_move ?_
              <;> refine xL 56 q_move ?_
              <;> refine s_lit1 (kk := 1) 57 tEl81_LbR fun h57 ho57 => ?_
              <;> refine s_app 201 57 58 tEl81_LbR fun h58 ho58 => ?_
              <;> refine xL 7 q_assign ?_
              <;> refine aL_end (nav ?_) <;> try dsimp only)
            (refine aC_region ?_
              <;> refine xL 59 q_add ?_
              <;> refine xL 32 q_move ?_
              <;> refine aL_end (nav ?_) <;> try dsimp only)
            try refine aN_ent (relabel (l := 54) 200 rfl rfl) fun _ => ?_
            try refine aN_ent (relabel (l := 58) 201 rfl rfl) fun _ => ?_
            try rw [show A.map pInt ++ [pInt k] = (A ++ [(k : Int)]).map pInt by simp, show A.length + 1 = (A ++ [(k : Int)]).length by simp]
            try rw [show B.map pInt ++ [pInt k] = (B ++ [(k : Int)]).map pInt by simp, show B.length + 1 = (B ++ [(k : Int)]).length by simp]
            first
              | (exact aN_again (
                  ⟨(k + 1, h54, hbv, A ++ [(k : Int)], B), by show k + 1 ≤ n; omega, ho54, hob, by show A ++ [(k : Int)] = _; rw [s1, if_pos (by simp [*]), hA], by show B = _; rw [s2, if_pos (by simp [*]), List.append_nil, hB]⟩
                  ) (by show n - (k + 1) < n - k; omega) ⟨rfl, rfl, rfl, rfl, rfl, rfl, trivial⟩ ⟨rfl, rfl, rfl, trivial⟩)
              | (exact aN_again (
                  ⟨(k + 1, ha, h58, A, B ++ [(k : Int)]), by show k + 1 ≤ n; omega, hoa, ho58, by show A = _; rw [s1, if_neg (by simp [*]), List.append_nil, hA], by show B ++ [(k : Int)] = _; rw [s2, if_neg (by simp [*]), hB]⟩
                  ) (by show n - (k + 1) < n - k; omega) ⟨rfl, rfl, rfl, rfl, rfl, rfl, trivial⟩ ⟨rfl, rfl, rfl, trivial⟩))))
     · first
       | exact Bool.noConfusion hb33
       | (
        refine nav ?_
        have hkn : k = n := by omega
        have hAe : A = inL n S F := by rw [hA, hkn]
        have hBe : B = outL n S F := by rw [hB, hkn]
        have hAi : ∀ x ∈ A, 0 ≤ x ∧ x < n := fun x hx => by rw [hAe] at hx; exact inL_bd.2 x hx
        have hBi : ∀ x ∈ B, 0 ≤ x ∧ x < n := fun x hx => by rw [hBe] at hx; exact outL_bd.2 x hx
        have hBasc : B.Pairwise (· < ·) := by rw [hBe]; exact outL_asc n S F
        (refine aC_region ?_
          <;> refine xL 60 q_move ?_
          <;> refine xL 61 (q_leno 200 tSl81_LbR) ?_
          <;> refine xL 62 q_eql ?_
          <;> refine aL_end (nav ?_) <;> try dsimp only)
        first | refine cCd (fun hb62 => ?_) (fun hb62 => ?_) | refine cC (fun hb62 => ?_) (fun hb62 => ?_)
        · first
          | exact Bool.noConfusion hb62
          | (
           refine nav ?_
           (refine aC_region ?_
             <;> refine xL 63 (q_build tSt28_LbR) ?_
             <;> refine s_sta 2 tAgg28_LbR ?_
             <;> refine xL 3 q_assign ?_
             <;> refine aL_end (nav ?_) <;> try dsimp only)
           exact ret_cs (k := 2) 2 (by kernel_rfl) (Tryz.results21) rfl rfl rfl (Nat.le_of_ble_eq_true rfl) (by decide) rfl (.inl ⟨by rw [← hAe]; exact List.eq_nil_of_length_eq_zero (by omega), rfl⟩))
        · first
          | exact Bool.noConfusion hb62
          | (
           refine nav ?_
           have hAp : 0 < A.length := by omega
           refine aC_ent (En.freeze (l := 200) (t := 6) rfl rfl) fun _ => ?_
           rw [share_intl _ _ _ rfl]
           refine aC_ent (En.freeze (l := 201) (t := 7) rfl rfl) fun _ => ?_
           rw [share_intl _ _ _ rfl]
           (refine aC_region ?_
             <;> refine xL 64 q_move ?_
             <;> refine cO 65 (cA Tryz.call70 (cloneInt_e A (by omega))) fun v65 ho65 => ?_
             <;> refine xL 9 q_assign ?_
             <;> refine aL_end (nav ?_) <;> try dsimp only)
           (refine aC_region ?_
             <;> refine xL 10 q_assign ?_
             <;> refine aL_end (nav ?_) <;> try dsimp only)
           (refine aC_region ?_
             <;> refine xL 66 q_move ?_
             <;> refine xL 67 q_mkfn ?_
             <;> (refine aL_co 68 rfl rfl (Nat.le_of_ble_eq_true rfl) rfl (cA Tryz.call53 (cClasses_e 73 [.sptr 0 [relP l n E S F]] (relE E) B hBasc (by omega) (Tryz.call73) (fun x hx y hy => cLoop1_e l n E S F x y (hBi x hx) (hBi y hy)))) ?_; rintro p' ⟨cs, hcs, rfl⟩; refine ⟨rfl, fun h68 ho68 => ?_⟩; refine aL_ent (En.freeze (l := 68) (t := 68) rfl rfl) fun _ => ?_; rw [shr_intss _ _ _ rfl])
             <;> refine xL 69 (q_len tSl92_LbR) ?_
             <;> refine xL 70 q_move ?_
             <;> refine aL_end (nav ?_) <;> try dsimp only)
           have hin := comps_inL hcs
           refine aC_ent (nilOwn 200 81 1 rfl) fun _ => ?_
           refine aC_ent (relabel (l := 65) 201 rfl rfl) fun _ => ?_
           refine aC_loop (ι := { x : Nat × Value × Value × List (List Int) × List Int // x.1 ≤ cs.length ∧ x.2.2.1.oneCell' = true ∧ x.2.2.2.1 = (cs.take x.1).filter (okL n E S F) ∧ x.2.2.2.2 = A ++ ((cs.take x.1).filter fun c => !okL n E S F c).flatten }) (fun k => ⟨[(2, _, _), (4, _, _), (6, _, _), (68, _, _), (69, _, _), (10, k.1.2.1, .val k.1.2.1), (9, k.1.2.2.1, .val k.1.2.2.1), (70, .int .i64 k.1.1, pInt k.1.1)], [(2, _, _), (200, k.1.2.1, .own 81 1 k.1.2.2.2.1.length (k.1.2.2.2.1.map pInts)), (201, k.1.2.2.1, .own 3 1 k.1.2.2.2.2.length (k.1.2.2.2.2.map pInt))]⟩) (fun k => cs.length - k.1.1) ⟨(0, .slice none 0 0, v65, [], A), Nat.zero_le _, ho65, rfl, (List.append_nil A).symm⟩ (fun a w H => H.weaken ⟨rfl, rfl, rfl, rfl, rfl, rfl, rfl, rfl, trivial⟩ ⟨rfl, rfl, rfl, trivial⟩) ?_
           rintro ⟨⟨i, hc, hdv, C, D⟩, hi, hod, hC, hD⟩
           dsimp only
           dsimp only at hi hod hC hD
           have hCl : C.length ≤ 1000 := by
             have := List.length_filter_le (okL n E S F) (cs.take i)
             rw [hC]; rw [List.length_take] at this; omega
           have hDl : D.length ≤ 2000 := by
             have h1 := filt_flat (fun c => !okL n E S F c) (cs.take i)
             have h2 : (cs.take i).flatten.length ≤ cs.flatten.length := by
               have : cs.flatten = (cs.take i).flatten ++ (cs.drop i).flatten := by rw [← List.flatten_append, List.take_append_drop]
               rw [this, List.length_append]; omega
             rw [hD, List.length_append]; omega
           have hCm : (C.map pInts).length = C.length := List.length_map _
           have hDm : (D.map pInt).length = D.length := List.length_map _
           refine nav ?_
           (refine aC_region ?_
             <;> refine xL 71 q_lss ?_
             <;> refine aL_end (nav ?_) <;> try dsimp only)
           first | refine cCd (fun hb71 => ?_) (fun hb71 => ?_) | refine cC (fun hb71 => ?_) (fun hb71 => ?_)
           · first
             | exact Bool.noConfusion hb71
             | (
              obtain ⟨cl, hx⟩ := get_some (show i < cs.length by omega)
              have e1 := map_at (f := pInts) hx
              have hcm := List.mem_of_getElem? hx
              have hcll := hin.2.2.1 cl hcm
              have s3 := filt_snoc (p := okL n E S F) hx
              have s4 := filt_snoc (p := fun c => !okL n E S F c) hx
              have e2 : (cl.map pInt).length = cl.length * 1 := by rw [List.length_map, Nat.mul_one]
              have e3 : (cl.map pInt).all En.one = true := by rw [List.all_map, List.all_eq_true]; intro x _; rfl
              refine nav ?_
              (refine aC_region ?_
                <;> refine xL 72 (q_idxN tSl92_LbR) ?_
                <;> (refine yL 73 (q_ld tNa81_LbR) fun v73 hv73 => ?_; cases hv73)
                <;> refine xL 12 q_assign ?_
                <;> refine aL_end (nav ?_) <;> try dsimp only)
              (refine aC_region ?_
                <;> refine xL 13 q_assign ?_
                <;> refine aL_end (nav ?_) <;> try dsimp only)
              (refine aC_region ?_
                <;> refine xL 74 q_move ?_
                <;> refine xL 75 (q_len tSl81_LbR) ?_
                <;> refine xL 76 q_move ?_
                <;> refine aL_end (nav ?_) <;> try dsimp only)
              refine aC_loop (ι := { x : Nat × Bool // x.1 ≤ cl.length ∧ x.2 = (cl.take x.1).all fun x => A.all fun y => loopsB n E S F y.toNat x.toNat }) (fun k => ⟨[(2, _, _), (4, _, _), (6, _, _), (68, _, _), (69, _, _), (9, _, _), (10, _, _), (70, _, _), (12, _, _), (74, _, _), (75, _, _), (13, .bool k.1.2, pBool k.1.2), (76, .int .i64 k.1.1, pInt k.1.1)], [(2, _, _), (200, _, _), (201, _, _)]⟩) (fun k => cl.length - k.1.1) ⟨(0, true), Nat.zero_le _, rfl⟩ (fun a w H => H.weaken ⟨rfl, rfl, rfl, rfl, rfl, rfl, rfl, rfl, rfl, rfl, rfl, rfl, rfl, trivial⟩ ⟨rfl, rfl, rfl, trivial⟩) ?_
              rintro ⟨⟨q, b⟩, hq, hbe⟩
              dsimp only
              dsimp only at hq hbe
              refine nav ?_
              (refine aC_region ?_
                <;> refine xL 77 q_lss ?_
                <;> refine aL_end (nav ?_) <;> try dsimp only)
              first | refine cCd (fun hb77 => ?_) (fun hb77 => ?_) | refine cC (fun hb77 => ?_) (fun hb77 => ?_)
              · first
                | exact Bool.noConfusion hb77
                | (
                 obtain ⟨u, hu⟩ := get_some (show q < cl.length by omega)
                 have e4 := map_at (f := pInt) hu
                 have hui := hBi u (hin.1 cl hcm u (List.mem_of_getElem? hu))
                 have s5 := all_snoc (p := fun x : Int => A.all fun y => loopsB n E S F y.toNat x.toNat) hu
                 refine nav ?_
                 (refine aC_region ?_
                   <;> refine xL 78 (q_idxN tSl81_LbR) ?_
                   <;> (refine yL 79 (q_ld tNa3_LbR) fun v79 hv79 => ?_; cases hv79)
                   <;> refine xL 15 q_assign ?_
                   <;> refine aL_end (nav ?_) <;> try dsimp only)
                 (refine aC_region ?_
                   <;> refine xL 80 q_move ?_
                   <;> refine xL 81 (q_len tSl81_LbR) ?_
                   <;> refine xL 82 q_move ?_
                   <;> refine aL_end (nav ?_) <;> try dsimp only)
                 refine aC_loop (ι := { x : Nat × Bool // x.1 ≤ A.length ∧ x.2 = (b && (A.take x.1).all fun y => loopsB n E S F y.toNat u.toNat) }) (fun k => ⟨[(2, _, _), (4, _, _), (6, _, _), (68, _, _), (69, _, _), (9, _, _), (10, _, _), (70, _, _), (12, _, _), (74, _, _), (75, _, _), (76, _, _), (15, _, _), (80, _, _), (81, _, _), (13, .bool k.1.2, pBool k.1.2), (82, .int .i64 k.1.1, pInt k.1.1)], [(2, _, _), (200, _, _), (201, _, _)]⟩) (fun k => A.length - k.1.1) ⟨(0, b), Nat.zero_le _, (Bool.and_true b).symm⟩ (fun a w H => H.weaken ⟨rfl, rfl, rfl, rfl, rfl, rfl, rfl, rfl, rfl, rfl, rfl, rfl, rfl, rfl, rfl, rfl, rfl, trivial⟩ ⟨rfl, rfl, rfl, trivial⟩) ?_
                 rintro ⟨⟨s, b2⟩, hs, hb2e⟩
                 dsimp only
                 dsimp only at hs hb2e
                 refine nav ?_
                 (refine aC_region ?_
                   <;> refine xL 83 q_lss ?_
                   <;> refine aL_end (nav ?_) <;> try dsimp only)
                 first | refine cCd (fun hb83 => ?_) (fun hb83 => ?_) | refine cC (fun hb83 => ?_) (fun hb83 => ?_)
                 · first
                   | exact Bool.noConfusion hb83
                   | (
                    obtain ⟨y, hy⟩ := get_some (show s < A.length by omega)
                    have e5 := map_at (f := pInt) hy
                    have hyi := hAi y (List.mem_of_getElem? hy)
                    have s6 := all_snoc (p := fun y : Int => loopsB n E S F y.toNat u.toNat) hy
                    have hL := cLoops_e l n E S F y.toNat u.toNat hl hn (by omega) (by omega)
                    rw [show ((y.toNat : Nat) : Int) = y by omega, show ((u.toNat : Nat) : Int) = u by omega] at hL
                    dsimp only [relP] at hL
                    refine nav ?_
                    (refine aC_region ?_
                      <;> refine xL 84 (q_idxN tSl81_LbR) ?_
                      <;> (refine yL 85 (q_ld tNa3_LbR) fun v85 hv85 => ?_; cases hv85)
                      <;> refine xL 17 q_assign ?_
                      <;> refine aL_end (nav ?_) <;> try dsimp only)
                    (refine aC_region ?_
                      <;> refine xL 86 q_move ?_
                      <;> refine xL 87 q_move ?_
                      <;> (refine bL 87 (fun hb87 => ?_) (fun hb87 => ?_) <;> (first | refine kL 88 ?_ | (refine yL 88 (q_ld tNa71_LbR) fun v88 hv88 => ?_; cases hv88)))
                      <;> (first | refine kL 89 ?_ | refine xL 89 q_move ?_)
                      <;> (first | refine kL 90 ?_ | refine xL 90 q_move ?_)
                      <;> (first | refine kL 91 ?_ | (refine cS 91 (cA Tryz.call74 (hL)) fun v91 hv91 => ?_; cases hv91))
                      <;> refine xL 92 q_pick ?_
                      <;> refine xL 13 q_assign ?_
                      <;> refine aL_end (nav ?_) <;> try dsimp only) <;> (
                     (refine aC_region ?_
                       <;> refine xL 93 q_add ?_
                       <;> refine xL 82 q_move ?_
                       <;> refine aL_end (nav ?_) <;> try dsimp only)
                     first
                       | (exact aN_again (
                           ⟨(s + 1, loopsB n E S F y.toNat u.toNat), by show s + 1 ≤ A.length; omega, by show loopsB n E S F y.toNat u.toNat = _; rw [s6, ← Bool.and_assoc, ← hb2e, hb87, Bool.true_and]⟩
                           ) (by show A.length - (s + 1) < A.length - s; omega) ⟨rfl, rfl, rfl, rfl, rfl, rfl, rfl, rfl, rfl, rfl, rfl, rfl, rfl, rfl, rfl, rfl, rfl, trivial⟩ ⟨rfl, rfl, rfl, trivial⟩)
                       | (exact aN_again (
                           ⟨(s + 1, false), by show s + 1 ≤ A.length; omega, by show false = _; rw [s6, ← Bool.and_assoc, ← hb2e, hb87, Bool.false_and]⟩
                           ) (by show A.length - (s + 1) < A.length - s; omega) ⟨rfl, rfl, rfl, rfl, rfl, rfl, rfl, rfl, rfl, rfl, rfl, rfl, rfl, rfl, rfl, rfl, rfl, trivial⟩ ⟨rfl, rfl, rfl, trivial⟩)))
                 · first
                   | exact Bool.noConfusion hb83
                   | (
                    refine nav ?_
                    (refine aC_region ?_
                      <;> refine xL 94 q_add ?_
                      <;> refine xL 76 q_move ?_
                      <;> refine aL_end (nav ?_) <;> try dsimp only)
                    refine aN_again (
                      ⟨(q + 1, b2), by show q + 1 ≤ cl.length; omega, by show b2 = _; rw [s5, ← hbe, hb2e, List.take_of_length_le (by omega)]⟩
                      ) (by show cl.length - (q + 1) < cl.length - q; omega) ⟨rfl, rfl, rfl, rfl, rfl, rfl, rfl, rfl, rfl, rfl, rfl, rfl, rfl, trivial⟩ ⟨rfl, rfl, rfl, trivial⟩))
              · first
                | exact Bool.noConfusion hb77
                | (
                 refine nav ?_
                 have hbo : okL n E S F cl = b := by unfold okL; rw [← hAe, hbe, List.take_of_length_le (by omega)]
                 (refine aC_region ?_
                   <;> refine xL 95 q_move ?_
                   <;> refine aL_end (nav ?_) <;> try dsimp only)
                 first | refine cCd (fun hb95 => ?_) (fun hb95 => ?_) | refine cC (fun hb95 => ?_) (fun hb95 => ?_)
                 · first
                   | exact Bool.noConfusion hb95
                   | (
                    refine nav ?_
                    (refine aC_region ?_
                      <;> refine xL 96 q_move ?_
                      <;> refine xL 97 q_move ?_
                      <;> refine s_lit1 (kk := 1) 98 tEl92_LbR fun h98 ho98 => ?_
                      <;> refine s_app 200 98 99 tEl92_LbR fun h99 ho99 => ?_
                      <;> refine xL 10 q_assign ?_
                      <;> refine aL_end (nav ?_) <;> try dsimp only)
                    (refine aC_region ?_
                      <;> refine xL 103 q_add ?_
                      <;> refine xL 70 q_move ?_
                      <;> refine aL_end (nav ?_) <;> try dsimp only)
                    try refine aN_ent (relabel (l := 99) 200 rfl rfl) fun _ => ?_
                    try refine aN_ent (relabel (l := 102) 201 rfl rfl) fun _ => ?_
                    try rw [show C.map pInts ++ [pInts cl] = (C ++ [cl]).map pInts by simp, show C.length + 1 = (C ++ [cl]).length by simp]
                    try rw [show D.map pInt ++ cl.map pInt = (D ++ cl).map pInt by simp, show D.length + cl.length = (D ++ cl).length by simp]
                    first
                      | (exact aN_again (
                          ⟨(i + 1, h99, hdv, C ++ [cl], D), by show i + 1 ≤ cs.length; omega, hod, by show C ++ [cl] = _; rw [s3, if_pos (by rw [hbo]; exact hb95), hC], by show D = _; rw [s4, if_neg (by rw [hbo, hb95]; decide), List.append_nil, hD]⟩
                          ) (by show cs.length - (i + 1) < cs.length - i; omega) ⟨rfl, rfl, rfl, rfl, rfl, rfl, rfl, rfl, trivial⟩ ⟨rfl, rfl, rfl, trivial⟩)
                      | (exact aN_again (
                          ⟨(i + 1, hc, h102, C, D ++ cl), by show i + 1 ≤ cs.length; omega, ho102, by show C = _; rw [s3, if_neg (by rw [hbo, hb95]; decide), List.append_nil, hC], by show D ++ cl = _; rw [s4, if_pos (by rw [hbo, hb95]; rfl), hD]; simp⟩
                          ) (by show cs.length - (i + 1) < cs.length - i; omega) ⟨rfl, rfl, rfl, rfl, rfl, rfl, rfl, rfl, trivial⟩ ⟨rfl, rfl, rfl, trivial⟩))
                 · first
                   | exact Bool.noConfusion hb95
                   | (
                    refine nav ?_
                    (refine aC_region ?_
                      <;> refine xL 100 q_move ?_
                      <;> refine xL 101 q_move ?_
                      <;> refine s_apps 201 102 tEl81_LbR fun h102 ho102 => ?_
                      <;> refine xL 9 q_assign ?_
                      <;> refine aL_end (nav ?_) <;> try dsimp only)
                    (refine aC_region ?_
                      <;> refine xL 103 q_add ?_
                      <;> refine xL 70 q_move ?_
                      <;> refine aL_end (nav ?_) <;> try dsimp only)
                    try refine aN_ent (relabel (l := 99) 200 rfl rfl) fun _ => ?_
                    try refine aN_ent (relabel (l := 102) 201 rfl rfl) fun _ => ?_
                    try rw [show C.map pInts ++ [pInts cl] = (C ++ [cl]).map pInts by simp, show C.length + 1 = (C ++ [cl]).length by simp]
                    try rw [show D.map pInt ++ cl.map pInt = (D ++ cl).map pInt by simp, show D.length + cl.length = (D ++ cl).length by simp]
                    first
                      | (exact aN_again (
                          ⟨(i + 1, h99, hdv, C ++ [cl], D), by show i + 1 ≤ cs.length; omega, hod, by show C ++ [cl] = _; rw [s3, if_pos (by rw [hbo]; exact hb95), hC], by show D = _; rw [s4, if_neg (by rw [hbo, hb95]; decide), List.append_nil, hD]⟩
                          ) (by show cs.length - (i + 1) < cs.length - i; omega) ⟨rfl, rfl, rfl, rfl, rfl, rfl, rfl, rfl, trivial⟩ ⟨rfl, rfl, rfl, trivial⟩)
                      | (exact aN_again (
                          ⟨(i + 1, hc, h102, C, D ++ cl), by show i + 1 ≤ cs.length; omega, ho102, by show C = _; rw [s3, if_neg (by rw [hbo, hb95]; decide), List.append_nil, hC], by show D ++ cl = _; rw [s4, if_pos (by rw [hbo, hb95]; rfl), hD]; simp⟩
                          ) (by show cs.length - (i + 1) < cs.length - i; omega) ⟨rfl, rfl, rfl, rfl, rfl, rfl, rfl, rfl, trivial⟩ ⟨rfl, rfl, rfl, trivial⟩))))
           · first
             | exact Bool.noConfusion hb71
             | (
              refine nav ?_
              have hil : i = cs.length := by omega
              have hCe : C = cs.filter (okL n E S F) := by rw [hC, hil, List.take_length]
              have hDe : D = A ++ (cs.filter fun c => !okL n E S F c).flatten := by rw [hD, hil, List.take_length]
              have hDp : 0 < D.length := by rw [hDe, List.length_append]; omega
              obtain ⟨Ds, hDs⟩ : ∃ Ds, Ds = D.mergeSort fun x y => decide (x ≤ y) := ⟨_, rfl⟩
              have hDsl : Ds.length = D.length := by rw [hDs, List.length_mergeSort]
              have hDi : ∀ x ∈ Ds, 0 ≤ x ∧ x < n := fun x hx => by
                rw [hDs, sort_mem, hDe, List.mem_append] at hx
                rcases hx with h | h
                · exact hAi x h
                · obtain ⟨d, hd, hxd⟩ := List.mem_flatten.1 h
                  exact hBi x (hin.1 d (List.mem_filter.1 hd).1 x hxd)
              obtain ⟨rs, hrs⟩ : ∃ rs, rs = Ds :: C := ⟨_, rfl⟩
              have hrm : ∀ c ∈ rs, (∀ x ∈ c, 0 ≤ x ∧ x < l.length) ∧ c.length ≤ 1000000 := fun c hc => by
                rw [hrs, List.mem_cons] at hc
                rw [hl]
                rcases hc with rfl | h
                · exact ⟨hDi, by omega⟩
                · rw [hCe] at h
                  have hm := (List.mem_filter.1 h).1
                  exact ⟨fun x hx => hBi x (hin.1 c hm x hx), by have := hin.2.2.1 c hm; omega⟩
              have hrl : rs.length ≤ 1000000 := by rw [hrs, List.length_cons]; omega
              have hre : rs = loopCs n E S F cs := by rw [hrs, hDs, hDe, hCe, hAe]; rfl
              have e6 : (C.map pInts).length = C.length * 1 := by rw [List.length_map, Nat.mul_one]
              have e7 : (C.map pInts).all En.one = true := by rw [List.all_map, List.all_eq_true]; intro x _; rfl
              (refine aC_region ?_
                <;> refine xL 104 q_move ?_
                <;> (refine s_sortI 201 sortInt_c (Tryz.call71) ?_ hDp; rw [← hDs])
                <;> refine aL_end (nav ?_) <;> try dsimp only)
              refine aC_ent (En.freeze (l := 201) (t := 9) rfl rfl) fun _ => ?_
              rw [share_intl _ _ _ hDsl.symm]
              refine aC_ent (En.freeze (l := 200) (t := 10) rfl rfl) fun _ => ?_
              rw [shr_intss _ _ _ rfl]
              dsimp only [pIntss]
              (refine aC_draw (fun i => ([] : List Nat).elem i) [] (by kernel_rfl) ?_
                <;> (refine yD 0 106 rfl (q_ld tNa71_LbR) fun v106 hv106 => ?_; cases hv106)
                <;> refine xD 1 107 rfl q_move ?_
                <;> refine xD 3 109 rfl q_move ?_
                <;> (refine aD_one 2 (by kernel_rfl) ?_)
                <;> (refine aW_run rfl fun w9 M9 N9 DQ back => ?_)
                <;> refine s_lit1 (kk := 1) 108 tEl92_LbR fun h108 ho108 => ?_
                <;> refine aL_end (back _ (nrm ?_))
                <;> (refine aD_one 4 (by kernel_rfl) ?_)
                <;> (refine aW_run rfl fun w9 M9 N9 DQ back => ?_)
                <;> refine s_apps 108 110 tEl92_LbR fun h110 ho110 => ?_
                <;> refine aL_end (back _ (nrm ?_))
                <;> (refine aD_one 5 (by kernel_rfl) ?_)
                <;> (refine aW_run rfl fun w9 M9 N9 DQ back => ?_)
                <;> (refine aL_ent (En.freeze (l := 110) (t := 110) rfl rfl) fun _ => ?_; rw [show pInts Ds :: C.map pInts = rs.map pInts by rw [hrs]; rfl, shr_intss _ _ _ (by rw [hrs, List.length_cons]; omega)]; by_cases hm : rs.length < 2 <;> first | (refine cP 111 (cA Tryz.call52 (cMade_lt l _ 4 rs hm)) fun va111 vb111 hva111 hvb111 => ?_; cases hvb111) | (refine cP 111 (cA Tryz.call52 (cMade_ge l _ 4 rs (by omega) (fun c hc => (hrm c hc).1) hrl (fun c hc => (hrm c hc).2))) fun va111 vb111 hva111 hvb111 => ?_; cases hvb111))
                <;> refine aL_end (back _ (nrm ?_))
                <;> refine xD 6 112 rfl q_extract ?_
                <;> refine xE 7 113 rfl q_extract ?_
                <;> (refine aD_one 8 (by kernel_rfl) ?_)
                <;> (refine aW_run rfl fun w9 M9 N9 DQ back => ?_)
                <;> refine s_sta 2 tAgg28_LbR ?_
                <;> refine aL_end (back _ (nrm ?_))
                <;> refine xE 9 3 rfl q_assign ?_
                <;> refine aD_end (by kernel_rfl) (nav ?_)
                <;> try dsimp only) <;> (
               refine ret_cs (k := 2) 2 (by kernel_rfl) (Tryz.results21) rfl rfl rfl (Nat.le_of_ble_eq_true rfl) (by decide) rfl (.inr ⟨cs, by rw [← hAe]; exact List.length_pos_iff.1 hAp, by rw [← hBe]; exact hcs, ?_⟩)
               rw [← hre]
               unfold cutP
               first
                 | (rw [if_pos hm]; rfl)
                 | (rw [if_neg hm]; rfl))))))
end Go.Proofs.YtoanjgpdepaciaaGreat
