/-
  Walks: words, edges and automata compared with themselves; whether a pair follows; the relation and the graph of a Dfg.
-/
import Derived.Test.YtebcjijpdhbcdaaGreatMLeG
import Derived.Test.YtebcjijpdhbcdaaGreatMLeR
import Derived.Test.YtebcjijpdhbcdaaGreatLl
import Derived.Test.YtebcjijpdhbcdaaGreatLj
import Derived.Test.YtebcjijpdhbcdaaGreatLc
import Derived.Test.YtebcjijpdhbcdaaGreatMEoH
namespace Go.Proofs.YtebcjijpdhbcdaaGreat
open Go.RowKit Go.Cb Go.En
set_option linter.all false
set_option maxRecDepth 100000

theorem tAgg126_LeV : AggT Tryz.prog 126 3 = true := by kernel_rfl
theorem tAgg28_LeV : AggT Tryz.prog 28 4 = true := by kernel_rfl
theorem tAgg47_LeV : AggT Tryz.prog 47 3 = true := by kernel_rfl
theorem tAgg79_LeV : AggT Tryz.prog 79 2 = true := by kernel_rfl
theorem tAgg85_LeV : AggT Tryz.prog 85 2 = true := by kernel_rfl
theorem tAr85_LeV : ArrT Tryz.prog 85 2 = true := by kernel_rfl
theorem tEl77_LeV : ElT Tryz.prog 77 85 2 16 (.agg #[(.int .i64 0), (.int .i64 0)]) := ⟨Tryz.underlying77, by kernel_rfl, rfl, by decide⟩
theorem tFl28_0_LeV : FldT Tryz.prog 28 0 0 = true := by kernel_rfl
theorem tFl28_3_LeV : FldT Tryz.prog 28 3 3 = true := by kernel_rfl
theorem tFl47_0_LeV : FldT Tryz.prog 47 0 0 = true := by kernel_rfl
theorem tFl47_1_LeV : FldT Tryz.prog 47 1 1 = true := by kernel_rfl
theorem tFl66_0_LeV : FldT Tryz.prog 66 0 0 = true := by kernel_rfl
theorem tFl66_1_LeV : FldT Tryz.prog 66 1 1 = true := by kernel_rfl
theorem tFl66_2_LeV : FldT Tryz.prog 66 2 2 = true := by kernel_rfl
theorem tFl66_3_LeV : FldT Tryz.prog 66 3 3 = true := by kernel_rfl
theorem tFl66_4_LeV : FldT Tryz.prog 66 4 4 = true := by kernel_rfl
theorem tFl79_1_LeV : FldT Tryz.prog 79 1 1 = true := by kernel_rfl
theorem tNa25_LeV : NoAgg Tryz.prog 25 = true := by kernel_rfl
theorem tNa26_LeV : NoAgg Tryz.prog 26 = true := by kernel_rfl
theorem tNa3_LeV : NoAgg Tryz.prog 3 = true := by kernel_rfl
theorem tNa63_LeV : NoAgg Tryz.prog 63 = true := by kernel_rfl
theorem tNa64_LeV : NoAgg Tryz.prog 64 = true := by kernel_rfl
theorem tNa77_LeV : NoAgg Tryz.prog 77 = true := by kernel_rfl
theorem tNa9_LeV : NoAgg Tryz.prog 9 = true := by kernel_rfl
theorem tSl26_LeV : SlT Tryz.prog 26 47 3 = true := by kernel_rfl
theorem tSl51_LeV : SlT Tryz.prog 51 9 1 = true := by kernel_rfl
theorem tSl63_LeV : SlT Tryz.prog 63 3 1 = true := by kernel_rfl
theorem tSl64_LeV : SlT Tryz.prog 64 126 3 = true := by kernel_rfl
theorem tSl77_LeV : SlT Tryz.prog 77 85 2 = true := by kernel_rfl
theorem tSt79_LeV : stInfo Tryz.prog 79 = some ((.agg #[(.int .i64 0), (.slice none 0 0)]), ([0, 1] : List Nat).map fun o => (o, 1)) := by kernel_rfl
theorem tSz77_LeV : (Tryz.prog.info? 77).map (·.size) = some 1 := by kernel_rfl
theorem tZr47_LeV : ZeroT Tryz.prog 47 (.agg #[(.string ByteArray.empty), (.string ByteArray.empty), (.int .i64 0)]) := by unfold ZeroT; kernel_rfl
theorem tZr79_LeV : ZeroT Tryz.prog 79 (.agg #[(.int .i64 0), (.slice none 0 0)]) := by unfold ZeroT; kernel_rfl
theorem tZr85_LeV : ZeroT Tryz.prog 85 (.agg #[(.int .i64 0), (.int .i64 0)]) := by unfold ZeroT; kernel_rfl

theorem r07SameWord_e (l : List Int) : AF Tryz.prog 91 [pInts l, pInts l] (· = pBool true) := by
  refine AF.of_body 26 Tryz.func91 rfl Tryz.ntmps91 (Nat.le_of_ble_eq_true rfl) ?_
  intro w0 M0 vs hl hv
  obtain ⟨v0, v1, rfl⟩ := len2 hl
  clear hl hv
  refine aC_slen 0 rfl fun hlen => ?_
  refine nav ?_
  (refine aC_region ?_
    <;> refine xL 4 q_assign ?_
    <;> refine aL_end (nav ?_) <;> try dsimp only)
  (refine aC_region ?_
    <;> refine xL 6 q_move ?_
    <;> refine xL 7 (q_len tSl63_LeV) ?_
    <;> refine xL 8 q_move ?_
    <;> refine xL 9 (q_len tSl63_LeV) ?_
    <;> refine xL 10 q_neq ?_
    <;> refine aL_end (nav ?_) <;> try dsimp only)
  first | refine cCd (fun hb10 => ?_) (fun hb10 => ?_) | refine cC (fun hb10 => ?_) (fun hb10 => ?_)
  · first
    | exact Bool.noConfusion hb10
    | (
     refine nav ?_
     (refine aC_region ?_
       <;> refine xL 4 q_assign ?_
       <;> refine aL_end (nav ?_) <;> try dsimp only)
     exact absurd rfl hb10)
  · first
    | exact Bool.noConfusion hb10
    | (
     refine nav ?_
     (refine aC_region ?_
       <;> refine xL 5 q_assign ?_
       <;> refine aL_end (nav ?_) <;> try dsimp only)
     refine aC_loop (ι := { k : Nat // k ≤ l.length }) (fun k => ⟨[(0, _, _), (1, _, _), (5, .int .i64 k.1, pInt k.1)], []⟩) (fun k => l.length - k.1) ⟨0, Nat.zero_le _⟩ (fun a w H => H.weaken ⟨rfl, rfl, rfl, trivial⟩ trivial) ?_
     rintro ⟨k, hk⟩
     dsimp only
     refine nav ?_
     (refine aC_region ?_
       <;> refine xL 11 q_move ?_
       <;> refine xL 12 q_move ?_
       <;> refine xL 13 (q_len tSl63_LeV) ?_
       <;> refine xL 14 q_lss ?_
       <;> refine aL_end (nav ?_) <;> try dsimp only)
     first | refine cCd (fun hb14 => ?_) (fun hb14 => ?_) | refine cC (fun hb14 => ?_) (fun hb14 => ?_)
     · first
       | exact Bool.noConfusion hb14
       | (
        obtain ⟨x, hx⟩ := get_some (show k < l.length by omega)
        have e1 := map_at (f := pInt) hx
        refine nav ?_
        (refine aC_draw (fun i => ([] : List Nat).elem i) [] (by kernel_rfl) ?_
          <;> refine xD 0 17 rfl q_move ?_
          <;> refine xD 1 18 rfl q_move ?_
          <;> refine xD 2 19 rfl (q_idxN tSl63_LeV) ?_
          <;> (refine yD 3 20 rfl (q_ld tNa3_LeV) fun v20 hv20 => ?_; cases hv20)
          <;> refine xD 4 21 rfl q_move ?_
          <;> refine xE 5 22 rfl q_move ?_
          <;> refine xE 6 23 rfl (q_idxN tSl63_LeV) ?_
          <;> (refine yE 7 24 rfl (q_ld tNa3_LeV) fun v24 hv24 => ?_; cases hv24)
          <;> refine xE 8 25 rfl q_neq ?_
          <;> refine aD_end (by kernel_rfl) (nav ?_)
          <;> try dsimp only)
        first | refine cCd (fun hb25 => ?_) (fun hb25 => ?_) | refine cC (fun hb25 => ?_) (fun hb25 => ?_)
        · first
          | exact Bool.noConfusion hb25
          | (
           refine nav ?_
           (refine aC_region ?_
             <;> refine xL 4 q_assign ?_
             <;> refine aL_end (nav ?_) <;> try dsimp only)
           exact absurd rfl hb25)
        · first
          | exact Bool.noConfusion hb25
          | (
           refine nav ?_
           (refine aC_region ?_
             <;> refine xL 15 q_move ?_
             <;> refine xL 16 q_add ?_
             <;> refine xL 5 q_assign ?_
             <;> refine aL_end (nav ?_) <;> try dsimp only)
           refine aN_again (
             ⟨k + 1, lt_of_get hx⟩
             ) (by dsimp only; omega) ⟨rfl, rfl, rfl, trivial⟩ trivial))
     · first
       | exact Bool.noConfusion hb14
       | (
        refine nav ?_
        (refine aC_region ?_
          <;> refine xL 4 q_assign ?_
          <;> refine aL_end (nav ?_) <;> try dsimp only)
        exact ret_shr (Tryz.results91) rfl rfl))
theorem uMvS : Tryz.prog.underlying 126 = some (.struct (Tryz.prog.fieldsOf 126)) := by kernel_rfl
theorem hMvS : Tryz.prog.stoodInHeld 126 = false := by kernel_rfl
theorem gMvS : Tryz.prog.eqGuardType Tryz.prog.depth 126 = false := by kernel_rfl
theorem eqMv_run (a b c : Int) (w : World) : (Op.eqFields 9999 [Value.int .i64 a, .int .i64 b, .int .i64 c].toArray [Value.int .i64 a, .int .i64 b, .int .i64 c].toArray (Tryz.prog.fieldsOf 126).toList).run Tryz.prog w = .ok true w := by
  simp only [Program.fieldsOf, Tryz.underlying126]
  simp [Op.eqFields, part, run_equalIn_int w 9998 3 .i64 .i64 a a Tryz.underlying3, run_equalIn_int w 9998 3 .i64 .i64 b b Tryz.underlying3, run_equalIn_int w 9998 3 .i64 .i64 c c Tryz.underlying3]
set_option maxHeartbeats 1000000 in
theorem r07Same_e (a : Aut) (hm : a.moves.length ≤ 1000000) : AF Tryz.prog 40 [pAut a, pAut a] (· = pBool true) := by
  refine AF.of_body 61 Tryz.func40 rfl Tryz.ntmps40 (Nat.le_of_ble_eq_true rfl) ?_
  intro w0 M0 vs hl hv
  obtain ⟨v0, v1, rfl⟩ := len2 hl
  clear hl hv
  refine nav ?_
  (refine aC_region ?_
    <;> refine s_boxa 2 5 fun h2 => ?_
    <;> refine s_boxa 3 5 fun h3 => ?_
    <;> refine xL 4 q_assign ?_
    <;> refine aL_end (nav ?_) <;> try dsimp only)
  (refine aC_region ?_
    <;> refine xL 6 (q_fldo 2 tFl66_0_LeV) ?_
    <;> (refine yL 7 (q_ldo 2 tNa3_LeV) fun v7 hv7 => ?_; cases hv7)
    <;> refine xL 8 (q_fldo 3 tFl66_0_LeV) ?_
    <;> (refine yL 9 (q_ldo 3 tNa3_LeV) fun v9 hv9 => ?_; cases hv9)
    <;> refine xL 10 q_neq ?_
    <;> refine xL 11 q_move ?_
    <;> (refine bLd 11 (fun hb11 => ?_) (fun hb11 => ?_) <;> (first | refine kL 12 ?_ | refine xL 12 (q_fldo 2 tFl66_1_LeV) ?_))
    <;> (first | refine kL 13 ?_ | (refine yL 13 (q_ldo 2 tNa3_LeV) fun v13 hv13 => ?_; cases hv13))
    <;> (first | refine kL 14 ?_ | refine xL 14 (q_fldo 3 tFl66_1_LeV) ?_)
    <;> (first | refine kL 15 ?_ | (refine yL 15 (q_ldo 3 tNa3_LeV) fun v15 hv15 => ?_; cases hv15))
    <;> (first | refine kL 16 ?_ | refine xL 16 q_neq ?_)
    <;> refine xL 17 q_pick ?_
    <;> refine xL 18 q_move ?_
    <;> (first | refine kL 19 ?_ | (refine bLd 18 (fun hb18 => ?_) (fun hb18 => ?_) <;> (first | refine kL 19 ?_ | refine xL 19 (q_fldo 2 tFl66_2_LeV) ?_)))
    <;> (first | refine kL 20 ?_ | (refine yL 20 (q_ldo 2 tNa63_LeV) fun v20 hv20 => ?_; cases hv20))
    <;> (first | refine kL 21 ?_ | refine xL 21 (q_fldo 3 tFl66_2_LeV) ?_)
    <;> (first | refine kL 22 ?_ | (refine yL 22 (q_ldo 3 tNa63_LeV) fun v22 hv22 => ?_; cases hv22))
    <;> (first | refine kL 23 ?_ | (refine cS 23 (cA Tryz.call91 (r07SameWord_e a.start)) fun v23 hv23 => ?_; cases hv23))
    <;> (first | refine kL 24 ?_ | refine xL 24 q_not ?_)
    <;> refine xL 25 q_pick ?_
    <;> refine xL 26 q_move ?_
    <;> (first | refine kL 27 ?_ | refine xL 27 (q_fldo 2 tFl66_3_LeV) ?_)
    <;> (first | refine kL 28 ?_ | (refine yL 28 (q_ldo 2 tNa63_LeV) fun v28 hv28 => ?_; cases hv28))
    <;> (first | refine kL 29 ?_ | refine xL 29 (q_fldo 3 tFl66_3_LeV) ?_)
    <;> (first | refine kL 30 ?_ | (refine yL 30 (q_ldo 3 tNa63_LeV) fun v30 hv30 => ?_; cases hv30))
    <;> (first | refine kL 31 ?_ | (refine cS 31 (cA Tryz.call91 (r07SameWord_e a.fin)) fun v31 hv31 => ?_; cases hv31))
    <;> (first | refine kL 32 ?_ | refine xL 32 q_not ?_)
    <;> refine xL 33 q_pick ?_
    <;> refine xL 34 q_move ?_
    <;> (first | refine kL 35 ?_ | refine xL 35 (q_fldo 2 tFl66_4_LeV) ?_)
    <;> (first | refine kL 36 ?_ | (refine yL 36 (q_ldo 2 tNa64_LeV) fun v36 hv36 => ?_; cases hv36))
    <;> (first | refine kL 37 ?_ | refine xL 37 (q_len tSl64_LeV) ?_)
    <;> (first | refine kL 38 ?_ | refine xL 38 (q_fldo 3 tFl66_4_LeV) ?_)
    <;> (first | refine kL 39 ?_ | (refine yL 39 (q_ldo 3 tNa64_LeV) fun v39 hv39 => ?_; cases hv39))
    <;> (first | refine kL 40 ?_ | refine xL 40 (q_len tSl64_LeV) ?_)
    <;> (first | refine kL 41 ?_ | refine xL 41 q_neq ?_)
    <;> refine xL 42 q_pick ?_
    <;> refine aL_end (nav ?_) <;> try dsimp only) <;> (
   first | refine cCd (fun hb42 => ?_) (fun hb42 => ?_) | refine cC (fun hb42 => ?_) (fun hb42 => ?_)
   · first
     | exact Bool.noConfusion hb42
     | (
      refine nav ?_
      (refine aC_region ?_
        <;> refine xL 4 q_assign ?_
        <;> refine aL_end (nav ?_) <;> try dsimp only)
      first
        | exact absurd rfl hb10
        | exact absurd rfl hb16
        | exact absurd rfl hb41
        | (exfalso; simp_all))
   · first
     | exact Bool.noConfusion hb42
     | (
      refine nav ?_
      (refine aC_region ?_
        <;> refine xL 5 q_assign ?_
        <;> refine aL_end (nav ?_) <;> try dsimp only)
      refine aC_loop (ι := { k : Nat // k ≤ a.moves.length }) (fun k => ⟨[(2, _, _), (3, _, _), (5, .int .i64 k.1, pInt k.1)], [(2, _, _), (3, _, _)]⟩) (fun k => a.moves.length - k.1) ⟨0, Nat.zero_le _⟩ (fun a w H => H.weaken ⟨rfl, rfl, rfl, trivial⟩ ⟨rfl, rfl, trivial⟩) ?_
      rintro ⟨k, hk⟩
      dsimp only
      refine nav ?_
      (refine aC_region ?_
        <;> refine xL 43 q_move ?_
        <;> refine xL 44 (q_fldo 2 tFl66_4_LeV) ?_
        <;> (refine yL 45 (q_ldo 2 tNa64_LeV) fun v45 hv45 => ?_; cases hv45)
        <;> refine xL 46 (q_len tSl64_LeV) ?_
        <;> refine xL 47 q_lss ?_
        <;> refine aL_end (nav ?_) <;> try dsimp only)
      first | refine cCd (fun hb47 => ?_) (fun hb47 => ?_) | refine cC (fun hb47 => ?_) (fun hb47 => ?_)
      · first
        | exact Bool.noConfusion hb47
        | (
         obtain ⟨x, hx⟩ := get_some (show k < a.moves.length by omega)
         have e1 := flat_drop cMv_len a.moves k x hx
         have e2 := flat_fit cMv_len hx
         refine nav ?_
         (refine aC_draw (fun i => ([] : List Nat).elem i) [2, 3] (by kernel_rfl) ?_
           <;> refine xD 0 50 rfl (q_fldo 2 tFl66_4_LeV) ?_
           <;> (refine yD 1 51 rfl (q_ldo 2 tNa64_LeV) fun v51 hv51 => ?_; cases hv51)
           <;> refine xD 2 52 rfl q_move ?_
           <;> refine xD 3 53 rfl (q_idxN tSl64_LeV) ?_
           <;> (refine yD 4 54 rfl (q_lda tAgg126_LeV) fun v54 hv54 => ?_; cases hv54)
           <;> refine xD 5 55 rfl (q_fldo 3 tFl66_4_LeV) ?_
           <;> (refine yD 6 56 rfl (q_ldo 3 tNa64_LeV) fun v56 hv56 => ?_; cases hv56)
           <;> refine xE 7 57 rfl q_move ?_
           <;> refine xE 8 58 rfl (q_idxN tSl64_LeV) ?_
           <;> (refine yE 9 59 rfl (q_lda tAgg126_LeV) fun v59 hv59 => ?_; cases hv59)
           <;> refine xE 10 60 rfl ((q_neS (us := [Value.int .i64 x.src, .int .i64 x.dst, .int .i64 x.sym]) (us' := [Value.int .i64 x.src, .int .i64 x.dst, .int .i64 x.sym]) uMvS hMvS gMvS (eqMv_run x.src x.dst x.sym) rfl rfl)) ?_
           <;> refine aD_end (by kernel_rfl) (nav ?_)
           <;> try dsimp only)
         first | refine cCd (fun hb60 => ?_) (fun hb60 => ?_) | refine cC (fun hb60 => ?_) (fun hb60 => ?_)
         · first
           | exact Bool.noConfusion hb60
           | (
            refine nav ?_
            (refine aC_region ?_
              <;> refine xL 4 q_assign ?_
              <;> refine aL_end (nav ?_) <;> try dsimp only)
            exact absurd rfl hb60)
         · first
           | exact Bool.noConfusion hb60
           | (
            refine nav ?_
            (refine aC_region ?_
              <;> refine xL 48 q_move ?_
              <;> refine xL 49 q_add ?_
              <;> refine xL 5 q_assign ?_
              <;> refine aL_end (nav ?_) <;> try dsimp only)
            refine aN_again (
              ⟨k + 1, lt_of_get hx⟩
              ) (by dsimp only; omega) ⟨rfl, rfl, rfl, trivial⟩ ⟨rfl, rfl, trivial⟩))
      · first
        | exact Bool.noConfusion hb47
        | (
         refine nav ?_
         (refine aC_region ?_
           <;> refine xL 4 q_assign ?_
           <;> refine aL_end (nav ?_) <;> try dsimp only)
         exact ret_shr (Tryz.results40) rfl rfl)))
theorem uA2 : Tryz.prog.underlying 85 = some (.array 2 3) := by kernel_rfl
theorem gA2 : Tryz.prog.eqGuardType Tryz.prog.depth 85 = false := by kernel_rfl
theorem iA2 : (Tryz.prog.info? 3).isSome = true := by kernel_rfl
theorem nA2 : Tryz.prog.cellsOf 3 = 1 := by kernel_rfl
theorem sEqualPr_e (l : List (Nat × Nat)) : AF Tryz.prog 42 [pPIs l, pPIs l] (· = pBool true) := by
  refine AF.of_body 26 Tryz.func42 rfl Tryz.ntmps42 (Nat.le_of_ble_eq_true rfl) ?_
  intro w0 M0 vs hl hv
  obtain ⟨v0, v1, rfl⟩ := len2 hl
  clear hl hv
  refine aC_slen 0 rfl fun hlen => ?_
  refine nav ?_
  (refine aC_region ?_
    <;> refine xL 4 q_assign ?_
    <;> refine aL_end (nav ?_) <;> try dsimp only)
  (refine aC_region ?_
    <;> refine xL 6 q_move ?_
    <;> refine xL 7 (q_len tSl77_LeV) ?_
    <;> refine xL 8 q_move ?_
    <;> refine xL 9 (q_len tSl77_LeV) ?_
    <;> refine xL 10 q_neq ?_
    <;> refine aL_end (nav ?_) <;> try dsimp only)
  first | refine cCd (fun hb10 => ?_) (fun hb10 => ?_) | refine cC (fun hb10 => ?_) (fun hb10 => ?_)
  · first
    | exact Bool.noConfusion hb10
    | (
     refine nav ?_
     (refine aC_region ?_
       <;> refine xL 4 q_assign ?_
       <;> refine aL_end (nav ?_) <;> try dsimp only)
     exact absurd rfl hb10)
  · first
    | exact Bool.noConfusion hb10
    | (
     refine nav ?_
     (refine aC_region ?_
       <;> refine xL 11 q_move ?_
       <;> refine xL 12 (q_len tSl77_LeV) ?_
       <;> refine xL 13 q_move ?_
       <;> refine aL_end (nav ?_) <;> try dsimp only)
     refine aC_loop (ι := { k : Nat // k ≤ l.length }) (fun k => ⟨[(0, _, _), (1, _, _), (11, _, _), (12, _, _), (13, .int .i64 k.1, pInt k.1)], []⟩) (fun k => l.length - k.1) ⟨0, Nat.zero_le _⟩ (fun a w H => H.weaken ⟨rfl, rfl, rfl, rfl, rfl, trivial⟩ trivial) ?_
     rintro ⟨k, hk⟩
     dsimp only
     refine nav ?_
     (refine aC_region ?_
       <;> refine xL 14 q_lss ?_
       <;> refine aL_end (nav ?_) <;> try dsimp only)
     first | refine cCd (fun hb14 => ?_) (fun hb14 => ?_) | refine cC (fun hb14 => ?_) (fun hb14 => ?_)
     · first
       | exact Bool.noConfusion hb14
       | (
        obtain ⟨x, hx⟩ := get_some (show k < l.length by omega)
        have e1 := flat_drop cPI_len l k x hx
        have e2 := flat_fit cPI_len hx
        refine nav ?_
        (refine aC_region ?_
          <;> refine xL 15 q_move ?_
          <;> refine xL 5 q_assign ?_
          <;> refine aL_end (nav ?_) <;> try dsimp only)
        (refine aC_draw (fun i => ([] : List Nat).elem i) [] (by kernel_rfl) ?_
          <;> refine xD 0 16 rfl q_move ?_
          <;> refine xD 1 17 rfl q_move ?_
          <;> refine xD 2 18 rfl (q_idxN tSl77_LeV) ?_
          <;> (refine yD 3 19 rfl (q_lda tAgg85_LeV) fun v19 hv19 => ?_; cases hv19)
          <;> refine xD 4 20 rfl q_move ?_
          <;> refine xE 5 21 rfl q_move ?_
          <;> refine xE 6 22 rfl (q_idxN tSl77_LeV) ?_
          <;> (refine yE 7 23 rfl (q_lda tAgg85_LeV) fun v23 hv23 => ?_; cases hv23)
          <;> refine xE 8 24 rfl ((q_neA2 (a := (x.1 : Nat)) (b := (x.2 : Nat)) (a' := (x.1 : Nat)) (b' := (x.2 : Nat)) uA2 iA2 nA2 Tryz.underlying3 gA2)) ?_
          <;> refine aD_end (by kernel_rfl) (nav ?_)
          <;> try dsimp only)
        first | refine cCd (fun hb24 => ?_) (fun hb24 => ?_) | refine cC (fun hb24 => ?_) (fun hb24 => ?_)
        · first
          | exact Bool.noConfusion hb24
          | (
           refine nav ?_
           (refine aC_region ?_
             <;> refine xL 4 q_assign ?_
             <;> refine aL_end (nav ?_) <;> try dsimp only)
           exfalso; simp at hb24)
        · first
          | exact Bool.noConfusion hb24
          | (
           refine nav ?_
           (refine aC_region ?_
             <;> refine xL 25 q_add ?_
             <;> refine xL 13 q_move ?_
             <;> refine aL_end (nav ?_) <;> try dsimp only)
           refine aN_again (
             ⟨k + 1, lt_of_get hx⟩
             ) (by dsimp only; omega) ⟨rfl, rfl, rfl, rfl, rfl, trivial⟩ trivial))
     · first
       | exact Bool.noConfusion hb14
       | (
        refine nav ?_
        (refine aC_region ?_
          <;> refine xL 4 q_assign ?_
          <;> refine aL_end (nav ?_) <;> try dsimp only)
        exact ret_shr (Tryz.results42) rfl rfl))
theorem r17Has_e (g : Dfg) (a b : ByteArray) (hl : g.follows.length ≤ 140737488355328) : AF Tryz.prog 90 [pDfg g, pStr a, pStr b] (· = pBool (anyF g.follows a b)) := by
  refine AF.of_body 33 Tryz.func90 rfl Tryz.ntmps90 (Nat.le_of_ble_eq_true rfl) ?_
  intro w0 M0 vs hl hv
  obtain ⟨v0, v1, v2, rfl⟩ := len3 hl
  obtain rfl := hv 1 _ _ rfl rfl
  obtain rfl := hv 2 _ _ rfl rfl
  clear hl hv
  refine nav ?_
  (refine aC_region ?_
    <;> refine s_boxa 3 4 fun h3 => ?_
    <;> refine xL 6 q_assign ?_
    <;> refine aL_end (nav ?_) <;> try dsimp only)
  (refine aC_region ?_
    <;> refine xL 7 q_assign ?_
    <;> refine aL_end (nav ?_) <;> try dsimp only)
  refine aC_loop (ι := { k : Nat // k ≤ g.follows.length ∧ anyF (g.follows.take k) a b = false }) (fun k => ⟨[(1, _, _), (2, _, _), (3, _, _), (7, .int .i64 k.1, pInt k.1)], [(3, _, _)]⟩) (fun k => g.follows.length - k.1) ⟨0, Nat.zero_le _, rfl⟩ (fun a w H => H.weaken ⟨rfl, rfl, rfl, rfl, trivial⟩ ⟨rfl, trivial⟩) ?_
  rintro ⟨k, hk, hp⟩
  dsimp only
  refine nav ?_
  (refine aC_region ?_
    <;> refine xL 8 q_move ?_
    <;> refine xL 9 (q_fldo 3 tFl28_3_LeV) ?_
    <;> (refine yL 10 (q_ldo 3 tNa26_LeV) fun v10 hv10 => ?_; cases hv10)
    <;> refine xL 11 (q_len tSl26_LeV) ?_
    <;> refine xL 12 q_lss ?_
    <;> refine aL_end (nav ?_) <;> try dsimp only)
  first | refine cCd (fun hb12 => ?_) (fun hb12 => ?_) | refine cC (fun hb12 => ?_) (fun hb12 => ?_)
  · first
    | exact Bool.noConfusion hb12
    | (
     obtain ⟨x, hx⟩ := get_some (show k < g.follows.length by omega)
     have e1 : (g.follows.flatMap cFlw)[k * 3 + 0]? = some (pStr x.src) := flat_at cFlw_len hx (by decide)
     have e2 : (g.follows.flatMap cFlw)[k * 3 + 1]? = some (pStr x.dst) := flat_at cFlw_len hx (by decide)
     have s1 := anyF_snoc hx a b
     rw [hp, Bool.false_or] at s1
     refine nav ?_
     (refine aC_region ?_
       <;> refine xL 15 (q_fldo 3 tFl28_3_LeV) ?_
       <;> (refine yL 16 (q_ldo 3 tNa26_LeV) fun v16 hv16 => ?_; cases hv16)
       <;> refine xL 17 q_move ?_
       <;> refine xL 18 (q_idxN tSl26_LeV) ?_
       <;> refine xL 19 (q_fld tFl47_0_LeV) ?_
       <;> (refine yL 20 (q_ld tNa9_LeV) fun v20 hv20 => ?_; cases hv20)
       <;> refine xL 21 q_move ?_
       <;> refine xL 22 q_seql ?_
       <;> refine xL 23 q_move ?_
       <;> (refine bL 23 (fun hb23 => ?_) (fun hb23 => ?_) <;> (first | refine kL 24 ?_ | refine xL 24 (q_fldo 3 tFl28_3_LeV) ?_))
       <;> (first | refine kL 25 ?_ | (refine yL 25 (q_ldo 3 tNa26_LeV) fun v25 hv25 => ?_; cases hv25))
       <;> (first | refine kL 26 ?_ | refine xL 26 q_move ?_)
       <;> (first | refine kL 27 ?_ | refine xL 27 (q_idxN tSl26_LeV) ?_)
       <;> (first | refine kL 28 ?_ | refine xL 28 (q_fld tFl47_1_LeV) ?_)
       <;> (first | refine kL 29 ?_ | (refine yL 29 (q_ld tNa9_LeV) fun v29 hv29 => ?_; cases hv29))
       <;> (first | refine kL 30 ?_ | refine xL 30 q_move ?_)
       <;> (first | refine kL 31 ?_ | refine xL 31 q_seql ?_)
       <;> refine xL 32 q_pick ?_
       <;> refine aL_end (nav ?_) <;> try dsimp only) <;> (
      first | refine cCd (fun hb32 => ?_) (fun hb32 => ?_) | refine cC (fun hb32 => ?_) (fun hb32 => ?_)
      · first
        | exact Bool.noConfusion hb32
        | (
         have t1 : (strEq x.src a && strEq x.dst b) = true := by unfold strEq; simp_all
         rw [t1] at s1
         refine nav ?_
         (refine aC_region ?_
           <;> refine xL 6 q_assign ?_
           <;> refine aL_end (nav ?_) <;> try dsimp only)
         refine ret_shr (Tryz.results90) rfl ?_
         rw [show anyF g.follows a b = true by
           unfold anyF at s1 ⊢
           obtain ⟨y, hy, he⟩ := List.any_eq_true.1 s1
           exact List.any_eq_true.2 ⟨y, List.mem_of_mem_take hy, he⟩])
      · first
        | exact Bool.noConfusion hb32
        | (
         have t1 : (strEq x.src a && strEq x.dst b) = false := by unfold strEq; simp_all
         rw [t1] at s1
         refine nav ?_
         (refine aC_region ?_
           <;> refine xL 13 q_move ?_
           <;> refine xL 14 q_add ?_
           <;> refine xL 7 q_assign ?_
           <;> refine aL_end (nav ?_) <;> try dsimp only)
         refine aN_again (
           ⟨k + 1, lt_of_get hx, s1⟩
           ) (by dsimp only; omega) ⟨rfl, rfl, rfl, rfl, trivial⟩ ⟨rfl, trivial⟩)))
  · first
    | exact Bool.noConfusion hb12
    | (
     refine nav ?_
     (refine aC_region ?_
       <;> refine xL 6 q_assign ?_
       <;> refine aL_end (nav ?_) <;> try dsimp only)
     refine ret_shr (Tryz.results90) rfl ?_
     rw [List.take_of_length_le (by omega)] at hp
     rw [hp])
theorem has_idx (l : List ByteArray) (s : ByteArray) : (idx (fun x => strEq x s) l < 0) ↔ hasStr l s = false := by
  have h := idx_any (fun x => strEq x s) l
  cases hs : hasStr l s with
  | true =>
    have h2 := (ixN_of hs).1
    constructor
    · intro h3; omega
    · intro h3; cases h3
  | false =>
    rw [show l.any (fun x => strEq x s) = false from hs] at h
    simp at h
    constructor
    · intro _; rfl
    · intro _; omega
set_option maxHeartbeats 1000000 in
theorem r17Relation_e (g : Dfg) (a b : ByteArray) (hf : fitD g) (ha : g.acts.length ≤ 1000000) : AF Tryz.prog 38 [pDfg g, pStr a, pStr b] (· = .tup [pInt (relR g a b).1, pInt (relR g a b).2]) := by
  have hlf := hf.2.2.2.1
  have i1 := has_idx (cnames g.acts) a
  have i2 := has_idx (cnames g.acts) b
  refine AF.of_body 39 Tryz.func38 rfl Tryz.ntmps38 (Nat.le_of_ble_eq_true rfl) ?_
  intro w0 M0 vs hl hv
  obtain ⟨v0, v1, v2, rfl⟩ := len3 hl
  obtain rfl := hv 1 _ _ rfl rfl
  obtain rfl := hv 2 _ _ rfl rfl
  clear hl hv
  refine nav ?_
  (refine aC_region ?_
    <;> refine s_boxa 3 4 fun h3 => ?_
    <;> refine xL 6 q_assign ?_
    <;> refine xL 7 q_assign ?_
    <;> refine aL_end (nav ?_) <;> try dsimp only)
  (refine aC_region ?_
    <;> (refine yL 9 (q_ldao 3 tAgg28_LeV) fun v9 hv9 => ?_; cases hv9)
    <;> (refine cS 10 (cA Tryz.call37 (r17Valid_e g hf ha)) fun v10 hv10 => ?_; cases hv10)
    <;> refine xL 11 q_not ?_
    <;> refine aL_end (nav ?_) <;> try dsimp only)
  first | refine cCd (fun hb11 => ?_) (fun hb11 => ?_) | refine cC (fun hb11 => ?_) (fun hb11 => ?_)
  · first
    | exact Bool.noConfusion hb11
    | (
     refine nav ?_
     (refine aC_region ?_
       <;> refine xL 6 q_assign ?_
       <;> refine xL 7 q_assign ?_
       <;> refine aL_end (nav ?_) <;> try dsimp only)
     refine ret_ss (Tryz.results38) rfl rfl ?_
     unfold relR
     rw [if_pos (by simpa using hb11)])
  · first
    | exact Bool.noConfusion hb11
    | (
     have hok : dfgOk g = true := by simpa using hb11
     refine nav ?_
     (refine aC_region ?_
       <;> refine xL 12 (q_fldo 3 tFl28_0_LeV) ?_
       <;> (refine yL 13 (q_ldo 3 tNa25_LeV) fun v13 hv13 => ?_; cases hv13)
       <;> (refine cS 14 (cA Tryz.call86 (r17names_e g.acts ha)) fun v14 hv14 => ?_; cases hv14)
       <;> refine xL 15 q_move ?_
       <;> (refine cS 16 (cA Tryz.call89 (rIndex_e (cnames g.acts) a)) fun v16 hv16 => ?_; cases hv16)
       <;> refine xL 17 q_lss ?_
       <;> refine xL 18 q_move ?_
       <;> (refine bLd 18 (fun hb18 => ?_) (fun hb18 => ?_) <;> (first | refine kL 19 ?_ | refine xL 19 (q_fldo 3 tFl28_0_LeV) ?_))
       <;> (first | refine kL 20 ?_ | (refine yL 20 (q_ldo 3 tNa25_LeV) fun v20 hv20 => ?_; cases hv20))
       <;> (first | refine kL 21 ?_ | (refine cS 21 (cA Tryz.call86 (r17names_e g.acts ha)) fun v21 hv21 => ?_; cases hv21))
       <;> (first | refine kL 22 ?_ | refine xL 22 q_move ?_)
       <;> (first | refine kL 23 ?_ | (refine cS 23 (cA Tryz.call89 (rIndex_e (cnames g.acts) b)) fun v23 hv23 => ?_; cases hv23))
       <;> (first | refine kL 24 ?_ | refine xL 24 q_lss ?_)
       <;> refine xL 25 q_pick ?_
       <;> refine aL_end (nav ?_) <;> try dsimp only) <;> (
      first | refine cCd (fun hb25 => ?_) (fun hb25 => ?_) | refine cC (fun hb25 => ?_) (fun hb25 => ?_)
      · first
        | exact Bool.noConfusion hb25
        | (
         have hin : (hasStr (cnames g.acts) a && hasStr (cnames g.acts) b) = false := by cases h1 : hasStr (cnames g.acts) a <;> cases h2 : hasStr (cnames g.acts) b <;> simp_all
         refine nav ?_
         (refine aC_region ?_
           <;> refine xL 6 q_assign ?_
           <;> refine xL 7 q_assign ?_
           <;> refine aL_end (nav ?_) <;> try dsimp only)
         refine ret_ss (Tryz.results38) rfl rfl ?_
         unfold relR
         rw [if_neg (by rw [hok]; decide), if_pos hin])
      · first
        | exact Bool.noConfusion hb25
        | (
         have hin : (hasStr (cnames g.acts) a && hasStr (cnames g.acts) b) = true := by cases h1 : hasStr (cnames g.acts) a <;> cases h2 : hasStr (cnames g.acts) b <;> simp_all
         have hr : relR g a b = (relV (anyF g.follows a b) (anyF g.follows b a), 0) := by unfold relR; rw [if_neg (by rw [hok]; decide), if_neg (by rw [hin]; decide)]
         refine nav ?_
         (refine aC_region ?_
           <;> refine xL 8 q_assign ?_
           <;> refine aL_end (nav ?_) <;> try dsimp only)
         (refine aC_region ?_
           <;> (refine yL 26 (q_ldao 3 tAgg28_LeV) fun v26 hv26 => ?_; cases hv26)
           <;> refine xL 27 q_move ?_
           <;> refine xL 28 q_move ?_
           <;> (refine cS 29 (cA Tryz.call90 (r17Has_e g a b hlf)) fun v29 hv29 => ?_; cases hv29)
           <;> refine aL_end (nav ?_) <;> try dsimp only)
         first | refine cCd (fun hb29 => ?_) (fun hb29 => ?_) | refine cC (fun hb29 => ?_) (fun hb29 => ?_)
         · first
           | exact Bool.noConfusion hb29
           | (
            refine nav ?_
            (refine aC_region ?_
              <;> refine xL 30 q_move ?_
              <;> refine xL 31 q_add ?_
              <;> refine xL 8 q_assign ?_
              <;> refine aL_end (nav ?_) <;> try dsimp only)
            (refine aC_region ?_
              <;> (refine yL 32 (q_ldao 3 tAgg28_LeV) fun v32 hv32 => ?_; cases hv32)
              <;> refine xL 33 q_move ?_
              <;> refine xL 34 q_move ?_
              <;> (refine cS 35 (cA Tryz.call90 (r17Has_e g b a hlf)) fun v35 hv35 => ?_; cases hv35)
              <;> refine aL_end (nav ?_) <;> try dsimp only)
            first | refine cCd (fun hb35 => ?_) (fun hb35 => ?_) | refine cC (fun hb35 => ?_) (fun hb35 => ?_)
            · first
              | exact Bool.noConfusion hb35
              | (
               refine nav ?_
               (refine aC_region ?_
                 <;> refine xL 36 q_move ?_
                 <;> refine xL 37 q_add ?_
                 <;> refine xL 8 q_assign ?_
                 <;> refine aL_end (nav ?_) <;> try dsimp only)
               (refine aC_region ?_
                 <;> refine xL 38 q_move ?_
                 <;> refine xL 6 q_assign ?_
                 <;> refine xL 7 q_assign ?_
                 <;> refine aL_end (nav ?_) <;> try dsimp only)
               refine ret_ss (Tryz.results38) rfl rfl ?_
               rw [hr]
               first
                 | (rw [hb29, hb35]; rfl)
                 | (simp [hb29, hb35, relV]; done)
                 | (simp only [hb29, hb35, relV]; rfl))
            · first
              | exact Bool.noConfusion hb35
              | (
               refine nav ?_
               (refine aC_region ?_
                 <;> refine xL 38 q_move ?_
                 <;> refine xL 6 q_assign ?_
                 <;> refine xL 7 q_assign ?_
                 <;> refine aL_end (nav ?_) <;> try dsimp only)
               refine ret_ss (Tryz.results38) rfl rfl ?_
               rw [hr]
               first
                 | (rw [hb29, hb35]; rfl)
                 | (simp [hb29, hb35, relV]; done)
                 | (simp only [hb29, hb35, relV]; rfl)))
         · first
           | exact Bool.noConfusion hb29
           | (
            refine nav ?_
            (refine aC_region ?_
              <;> (refine yL 32 (q_ldao 3 tAgg28_LeV) fun v32 hv32 => ?_; cases hv32)
              <;> refine xL 33 q_move ?_
              <;> refine xL 34 q_move ?_
              <;> (refine cS 35 (cA Tryz.call90 (r17Has_e g b a hlf)) fun v35 hv35 => ?_; cases hv35)
              <;> refine aL_end (nav ?_) <;> try dsimp only)
            first | refine cCd (fun hb35 => ?_) (fun hb35 => ?_) | refine cC (fun hb35 => ?_) (fun hb35 => ?_)
            · first
              | exact Bool.noConfusion hb35
              | (
               refine nav ?_
               (refine aC_region ?_
                 <;> refine xL 36 q_move ?_
                 <;> refine xL 37 q_add ?_
                 <;> refine xL 8 q_assign ?_
                 <;> refine aL_end (nav ?_) <;> try dsimp only)
               (refine aC_region ?_
                 <;> refine xL 38 q_move ?_
                 <;> refine xL 6 q_assign ?_
                 <;> refine xL 7 q_assign ?_
                 <;> refine aL_end (nav ?_) <;> try dsimp only)
               refine ret_ss (Tryz.results38) rfl rfl ?_
               rw [hr]
               first
                 | (rw [hb29, hb35]; rfl)
                 | (simp [hb29, hb35, relV]; done)
                 | (simp only [hb29, hb35, relV]; rfl))
            · first
              | exact Bool.noConfusion hb35
              | (
               refine nav ?_
               (refine aC_region ?_
                 <;> refine xL 38 q_move ?_
                 <;> refine xL 6 q_assign ?_
                 <;> refine xL 7 q_assign ?_
                 <;> refine aL_end (nav ?_) <;> try dsimp only)
               refine ret_ss (Tryz.results38) rfl rfl ?_
               rw [hr]
               first
                 | (rw [hb29, hb35]; rfl)
                 | (simp [hb29, hb35, relV]; done)
                 | (simp only [hb29, hb35, relV]; rfl))))))
def zeroG : PV := .agg [.val (.int .i64 0), .val (.slice none 0 0)]
def RGraphW (g : Dfg) (p : PV) : Prop := (dfgOk g = false ∧ p = .tup [zeroG, pInt 1]) ∨ (dfgOk g = true ∧ p = .tup [pGraphG g, pInt 0])
set_option maxHeartbeats 2000000 in
theorem dGraphW_e (g : Dfg) (hf : fitD g) (ha : g.acts.length ≤ 1000000) (hs : g.starts.length ≤ 1000000) (he : g.ends.length ≤ 1000000) : AF Tryz.prog 39 [pDfg g] (RGraphW g) := by
  have hna : (cnames g.acts).length = g.acts.length := by simp [cnames]
  refine AF.of_body 41 Tryz.func39 rfl Tryz.ntmps39 (Nat.le_of_ble_eq_true rfl) ?_
  intro w0 M0 vs hl hv
  obtain ⟨v0, rfl⟩ := len1 hl
  clear hl hv
  refine nav ?_
  (refine aC_region ?_
    <;> refine s_boxa 1 4 fun h1 => ?_
    <;> refine s_alloc [(.int .i64 0), (.slice none 0 0)] 2 2 tZr79_LeV fun h2 => ?_
    <;> refine xL 3 q_assign ?_
    <;> refine aL_end (nav ?_) <;> try dsimp only)
  (refine aC_region ?_
    <;> (refine yL 8 (q_ldao 1 tAgg28_LeV) fun v8 hv8 => ?_; cases hv8)
    <;> (refine cS 9 (cA Tryz.call16 (dValid_e g hf ha hs he)) fun v9 hv9 => ?_; cases hv9)
    <;> refine xL 10 q_not ?_
    <;> refine aL_end (nav ?_) <;> try dsimp only)
  first | refine cCd (fun hb10 => ?_) (fun hb10 => ?_) | refine cC (fun hb10 => ?_) (fun hb10 => ?_)
  · first
    | exact Bool.noConfusion hb10
    | (
     refine nav ?_
     (refine aC_region ?_
       <;> refine xL 11 (q_build tSt79_LeV) ?_
       <;> refine s_sta 2 tAgg79_LeV ?_
       <;> refine xL 3 q_assign ?_
       <;> refine aL_end (nav ?_) <;> try dsimp only)
     exact ret_cs (k := 2) 2 (by kernel_rfl) (Tryz.results39) rfl rfl rfl (Nat.le_of_ble_eq_true rfl) (by decide) rfl (.inl ⟨by simpa using hb10, rfl⟩))
  · first
    | exact Bool.noConfusion hb10
    | (
     have hok : dfgOk g = true := by simpa using hb10
     have hG := gok_of hok
     have h40 := hG.n40
     have hfl := hG.flen
     refine nav ?_
     (refine aC_region ?_
       <;> refine xL 12 (q_fldo 1 tFl28_0_LeV) ?_
       <;> (refine yL 13 (q_ldo 1 tNa25_LeV) fun v13 hv13 => ?_; cases hv13)
       <;> (refine cS 14 (cA Tryz.call53 (dNames_e g.acts ha)) fun v14 hv14 => ?_; cases hv14)
       <;> refine xL 4 q_assign ?_
       <;> refine aL_end (nav ?_) <;> try dsimp only)
     (refine aC_region ?_
       <;> refine xL 15 q_move ?_
       <;> refine xL 16 (q_len tSl51_LeV) ?_
       <;> refine xL 17 (q_build tSt79_LeV) ?_
       <;> refine s_alloc [(.int .i64 0), (.slice none 0 0)] 2 5 tZr79_LeV fun h5 => ?_
       <;> refine s_sta 5 tAgg79_LeV ?_
       <;> refine aL_end (nav ?_) <;> try dsimp only)
     (refine aC_region ?_
       <;> refine xL 18 (q_fldo 1 tFl28_3_LeV) ?_
       <;> (refine yL 19 (q_ldo 1 tNa26_LeV) fun v19 hv19 => ?_; cases hv19)
       <;> refine xL 20 (q_len tSl26_LeV) ?_
       <;> refine xL 21 q_move ?_
       <;> refine aL_end (nav ?_) <;> try dsimp only)
     refine aC_ent (nilOwn 200 85 2 rfl) fun _ => ?_
     rw [hna]
     refine aC_loop (ι := { x : Nat × Value // x.1 ≤ g.follows.length ∧ x.2.oneCell' = true }) (fun k => ⟨[(1, _, _), (2, _, _), (4, _, _), (5, _, _), (19, _, _), (20, _, _), (21, .int .i64 k.1.1, pInt k.1.1)], [(1, _, _), (2, _, _), (5, h5, .own 79 2 1 [pInt (g.acts.length : Nat), .val k.1.2]), (200, k.1.2, .own 85 2 (edgeL (cnames g.acts) (g.follows.take k.1.1)).length ((edgeL (cnames g.acts) (g.follows.take k.1.1)).flatMap cPI))]⟩) (fun k => g.follows.length - k.1.1) ⟨(0, .slice none 0 0), Nat.zero_le _, rfl⟩ (fun a w H => H.weaken ⟨rfl, rfl, rfl, rfl, rfl, rfl, rfl, trivial⟩ ⟨rfl, rfl, rfl, rfl, trivial⟩) ?_
     rintro ⟨⟨k, hv⟩, hk, hvo⟩
     dsimp only
     dsimp only at hk hvo
     have hel : (edgeL (cnames g.acts) (g.follows.take k)).length ≤ 1600 := by unfold edgeL; rw [List.length_map, List.length_take]; omega
     refine nav ?_
     (refine aC_region ?_
       <;> refine xL 22 q_lss ?_
       <;> refine aL_end (nav ?_) <;> try dsimp only)
     first | refine cCd (fun hb22 => ?_) (fun hb22 => ?_) | refine cC (fun hb22 => ?_) (fun hb22 => ?_)
     · first
       | exact Bool.noConfusion hb22
       | (
        obtain ⟨x, hx⟩ := get_some (show k < g.follows.length by omega)
        have e1 := flat_drop cFlw_len g.follows k x hx
        have e2 := flat_fit cFlw_len hx
        have hxa := (hG.fl x (List.mem_of_getElem? hx)).1
        have hxb := (hG.fl x (List.mem_of_getElem? hx)).2
        have hia := hG.ix hxa
        have hib := hG.ix hxb
        refine nav ?_
        (refine aC_region ?_
          <;> refine xL 23 (q_idxN tSl26_LeV) ?_
          <;> (refine yL 24 (q_lda tAgg47_LeV) fun v24 hv24 => ?_; cases hv24)
          <;> refine s_alloc [(.string ByteArray.empty), (.string ByteArray.empty), (.int .i64 0)] 3 7 tZr47_LeV fun h7 => ?_
          <;> refine s_sta 7 tAgg47_LeV ?_
          <;> refine aL_end (nav ?_) <;> try dsimp only)
        (refine aC_draw (fun i => ([14] : List Nat).elem i) [1, 5, 7] (by kernel_rfl) ?_
          <;> refine xD 0 25 rfl (q_fldo 5 tFl79_1_LeV) ?_
          <;> (refine yD 1 26 rfl (q_ldo 5 tNa77_LeV) fun v26 hv26 => ?_; cases hv26)
          <;> refine xD 2 27 rfl q_move ?_
          <;> refine xD 3 28 rfl (q_fldo 7 tFl47_0_LeV) ?_
          <;> (refine yD 4 29 rfl (q_ldo 7 tNa9_LeV) fun v29 hv29 => ?_; cases hv29)
          <;> refine xD 6 31 rfl q_move ?_
          <;> refine xD 7 32 rfl (q_fldo 7 tFl47_1_LeV) ?_
          <;> (refine yD 8 33 rfl (q_ldo 7 tNa9_LeV) fun v33 hv33 => ?_; cases hv33)
          <;> (refine aD_one 5 (by kernel_rfl) ?_)
          <;> (refine aW_call (d := 30) rfl (cA Tryz.call33 (sIndexN_e (cnames g.acts) x.src hxa)) fun v30 hv30 => ?_; cases hv30)
          <;> (refine aD_one 9 (by kernel_rfl) ?_)
          <;> (refine aW_call (d := 34) rfl (cA Tryz.call33 (sIndexN_e (cnames g.acts) x.dst hxb)) fun v34 hv34 => ?_; cases hv34)
          <;> refine xE 10 35 rfl (q_build2 tAr85_LeV tZr85_LeV) ?_
          <;> (refine aD_one 11 (by kernel_rfl) ?_)
          <;> (refine aW_run rfl fun w9 M9 N9 DQ back => ?_)
          <;> refine s_lit1a 36 tEl77_LeV fun h36 ho36 => ?_
          <;> refine aL_end (back _ (nrm ?_))
          <;> (refine aD_one 12 (by kernel_rfl) ?_)
          <;> (refine aW_run rfl fun w9 M9 N9 DQ back => ?_)
          <;> refine s_app 200 36 37 tEl77_LeV fun h37 ho37 => ?_
          <;> refine aL_end (back _ (nrm ?_))
          <;> refine xE 13 38 rfl (q_fldo 5 tFl79_1_LeV) ?_
          <;> (refine aD_one 14 (by kernel_rfl) ?_)
          <;> (refine aW_last rfl rfl (by kernel_rfl) fun DQ back => ?_)
          <;> refine s_st 5 tNa77_LeV tSz77_LeV ?_
          <;> refine aL_end (back _ (nav ?_))
          <;> try dsimp only)
        (refine aC_region ?_
          <;> refine xL 39 q_add ?_
          <;> refine xL 21 q_move ?_
          <;> refine aL_end (nav ?_) <;> try dsimp only)
        refine aN_ent (relabel (l := 37) 200 rfl rfl) fun _ => ?_
        refine aN_ent (recast (l := 200) (p' := .own 85 2 (edgeL (cnames g.acts) (g.follows.take (k + 1))).length ((edgeL (cnames g.acts) (g.follows.take (k + 1))).flatMap cPI)) rfl (by rw [edgeL_step hx]; exact snoc_pis _ _ (ixN (cnames g.acts) x.src, ixN (cnames g.acts) x.dst))) fun _ => ?_
        refine aN_again (
          ⟨(k + 1, h37), lt_of_get hx, ho37⟩
          ) (by dsimp only; omega) ⟨rfl, rfl, rfl, rfl, rfl, rfl, rfl, trivial⟩ ⟨rfl, rfl, rfl, rfl, trivial⟩)
     · first
       | exact Bool.noConfusion hb22
       | (
        have hkE : k = g.follows.length := by omega
        subst hkE
        rw [List.take_length]
        refine aC_ent (freezeCell (l := 5) (l' := 200) (j := 1) rfl rfl rfl rfl) fun _ => ?_
        rw [share_pis _ _ _ rfl]
        dsimp only [List.set]
        refine nav ?_
        (refine aC_region ?_
          <;> (refine yL 40 (q_ldao 5 tAgg79_LeV) fun v40 hv40 => ?_; cases hv40)
          <;> refine s_sta 2 tAgg79_LeV ?_
          <;> refine xL 3 q_assign ?_
          <;> refine aL_end (nav ?_) <;> try dsimp only)
        exact ret_cs (k := 2) 2 (by kernel_rfl) (Tryz.results39) rfl rfl rfl (Nat.le_of_ble_eq_true rfl) (by decide) rfl (.inr ⟨hok, rfl⟩)))
end Go.Proofs.YtebcjijpdhbcdaaGreat
