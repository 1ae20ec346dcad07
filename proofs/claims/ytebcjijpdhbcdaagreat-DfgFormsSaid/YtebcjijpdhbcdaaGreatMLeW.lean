/-
  'casebooklaw17.DfgForms' returns true for all graphs and names, and changes nothing that was handed to it.
-/
import Derived.Test.YtebcjijpdhbcdaaGreatRows
import Derived.Test.YtebcjijpdhbcdaaGreatLn
import Derived.Test.YtebcjijpdhbcdaaGreatMLeNs
import Derived.Test.YtebcjijpdhbcdaaGreatMLeV
import Derived.Test.YtebcjijpdhbcdaaGreatLm
import Derived.Test.YtebcjijpdhbcdaaGreatMEoF
namespace Go.Proofs.YtebcjijpdhbcdaaGreat
open Go.RowKit Go.Cb Go.En Go.ChangeShapes Go.WideShapes Go.ChangeAt
set_option linter.all false
set_option maxRecDepth 100000

theorem tAgg28_LeW : AggT Tryz.prog 28 4 = true := by kernel_rfl
theorem tAgg66_LeW : AggT Tryz.prog 66 5 = true := by kernel_rfl
theorem tAgg79_LeW : AggT Tryz.prog 79 2 = true := by kernel_rfl
theorem tFl79_0_LeW : FldT Tryz.prog 79 0 0 = true := by kernel_rfl
theorem tFl79_1_LeW : FldT Tryz.prog 79 1 1 = true := by kernel_rfl
theorem tNa3_LeW : NoAgg Tryz.prog 3 = true := by kernel_rfl
theorem tNa77_LeW : NoAgg Tryz.prog 77 = true := by kernel_rfl
theorem tSl77_LeW : SlT Tryz.prog 77 85 2 = true := by kernel_rfl
theorem tSt66_LeW : stInfo Tryz.prog 66 = some ((.agg #[(.int .i64 0), (.int .i64 0), (.slice none 0 0), (.slice none 0 0), (.slice none 0 0)]), ([0, 1, 2, 3, 4] : List Nat).map fun o => (o, 1)) := by kernel_rfl
theorem tZr66_LeW : ZeroT Tryz.prog 66 (.agg #[(.int .i64 0), (.int .i64 0), (.slice none 0 0), (.slice none 0 0), (.slice none 0 0)]) := by unfold ZeroT; kernel_rfl
theorem tZr79_LeW : ZeroT Tryz.prog 79 (.agg #[(.int .i64 0), (.slice none 0 0)]) := by unfold ZeroT; kernel_rfl

def aut0 : Aut := ⟨0, 0, [], [], []⟩
theorem rr_zeroA : Rr zeroA (pAut aut0) := Rr.agg rfl fun i a b ha hb => by
  match i with
  | 0 => cases ha; cases hb; exact Rr.rfl' _
  | 1 => cases ha; cases hb; exact Rr.rfl' _
  | 2 => cases ha; cases hb; exact Rr.nil
  | 3 => cases ha; cases hb; exact Rr.nil
  | 4 => cases ha; cases hb; exact Rr.nil
  | i + 5 => simp [zeroA] at ha
theorem rr_zeroG : Rr zeroG (.agg [pInt 0, pPIs []]) := Rr.agg rfl fun i a b ha hb => by
  match i with
  | 0 => cases ha; cases hb; exact Rr.rfl' _
  | 1 => cases ha; cases hb; exact Rr.nil
  | i + 2 => simp [zeroG] at ha
set_option maxHeartbeats 2000000 in
theorem dfgForms_no (g : Dfg) (a b : ByteArray) (hf : fitD g) (hok : dfgOk g = false) : AF Tryz.prog 10 [pDfg g, pStr a, pStr b] (· = pBool true) := by
  refine AF.of_body 121 Tryz.func10 rfl Tryz.ntmps10 (Nat.le_of_ble_eq_true rfl) ?_
  intro w0 M0 vs hl hv
  obtain ⟨v0, v1, v2, rfl⟩ := len3 hl
  obtain rfl := hv 1 _ _ rfl rfl
  obtain rfl := hv 2 _ _ rfl rfl
  clear hl hv
  refine nav ?_
  (refine aC_region ?_
    <;> refine s_boxa 3 4 fun h3 => ?_
    <;> refine xL 6 q_assign ?_
    <;> refine aL_end (nav ?_) <;> try dsimp only)
  (refine aC_region ?_
    <;> (refine cS 17 (cA Tryz.call11 (awake17_e)) fun v17 hv17 => ?_; cases hv17)
    <;> refine xL 18 q_not ?_
    <;> refine aL_end (nav ?_) <;> try dsimp only)
  refine cCf ?_
  refine nav ?_
  (refine aC_region ?_
    <;> (refine yL 19 (q_ldao 3 tAgg28_LeW) fun v19 hv19 => ?_; cases hv19)
    <;> (refine cS 20 (cA Tryz.call17 (great17_e g)) fun v20 hv20 => ?_; cases hv20)
    <;> refine xL 21 q_move ?_
    <;> (refine bL 21 (fun hb21 => ?_) (fun hb21 => ?_) <;> (first | refine kL 22 ?_ | refine xL 22 q_move ?_))
    <;> (first | refine kL 23 ?_ | (refine cS 23 (cA Tryz.call36 (long17_e a)) fun v23 hv23 => ?_; cases hv23))
    <;> refine xL 24 q_pick ?_
    <;> refine xL 25 q_move ?_
    <;> (first | refine kL 26 ?_ | (refine bLd 25 (fun hb25 => ?_) (fun hb25 => ?_) <;> (first | refine kL 26 ?_ | refine xL 26 q_move ?_)))
    <;> (first | refine kL 27 ?_ | (refine cS 27 (cA Tryz.call36 (long17_e b)) fun v27 hv27 => ?_; cases hv27))
    <;> refine xL 28 q_pick ?_
    <;> refine aL_end (nav ?_) <;> try dsimp only) <;> (
   first | refine cCd (fun hb28 => ?_) (fun hb28 => ?_) | refine cC (fun hb28 => ?_) (fun hb28 => ?_)
   · first
     | exact Bool.noConfusion hb28
     | (
      refine nav ?_
      (refine aC_region ?_
        <;> refine xL 6 q_assign ?_
        <;> refine aL_end (nav ?_) <;> try dsimp only)
      exact ret_shr Tryz.results10 rfl rfl)
   · first
     | exact Bool.noConfusion hb28
     | (
      have hga : greatB g = false := by cases h1 : greatB g <;> simp_all
      have hla := great_lens' hga
      have hR := dRelation_e g a b hf (by omega) (by omega) (by omega)
      have hR2 := r17Relation_e g a b hf (by omega)
      have hV := (r17Valid_e g hf (by omega)).mono (R' := (· = pBool false)) fun p hp => by rw [hp, hok]
      have hD := (dValid_e g hf (by omega) (by omega) (by omega)).mono (R' := (· = pBool false)) fun p hp => by rw [hp, hok]
      have hX : AF Tryz.prog 39 [pDfg g] (· = .tup [.agg [pInt 0, pPIs []], pInt 1]) := AF.reread (p := .tup [zeroG, pInt 1]) ((dGraphW_e g hf (by omega) (by omega) (by omega)).mono fun p hp => by
        rcases hp with ⟨_, hp⟩ | ⟨h1, _⟩
        · exact hp
        · rw [hok] at h1; cases h1) rfl (Rr.tup2 rr_zeroG)
      have hY : AF Tryz.prog 32 [pDfg g] (· = .tup [pAut aut0, pInt 1]) := AF.reread (p := .tup [zeroA, pInt 1]) ((dAuto_e g hf (by omega) (by omega) (by omega) (by omega)).mono fun p hp => by
        rcases hp with ⟨_, hp⟩ | ⟨h1, _⟩
        · exact hp
        · rw [hok] at h1; cases h1) rfl (Rr.tup2 rr_zeroA)
      refine nav ?_
      (refine aC_region ?_
        <;> (refine yL 29 (q_ldao 3 tAgg28_LeW) fun v29 hv29 => ?_; cases hv29)
        <;> (refine cS 30 (cA Tryz.call37 (hV)) fun v30 hv30 => ?_; cases hv30)
        <;> refine xL 7 q_assign ?_
        <;> refine aL_end (nav ?_) <;> try dsimp only)
      (refine aC_region ?_
        <;> (refine yL 32 (q_ldao 3 tAgg28_LeW) fun v32 hv32 => ?_; cases hv32)
        <;> refine xL 33 q_move ?_
        <;> refine xL 34 q_move ?_
        <;> (refine cP 35 (cA Tryz.call34 (hR)) fun va35 vb35 hva35 hvb35 => ?_; cases hva35; cases hvb35)
        <;> refine xL 31 q_move ?_
        <;> refine xL 36 q_extract ?_
        <;> refine xL 37 q_extract ?_
        <;> refine xL 8 q_assign ?_
        <;> refine xL 9 q_assign ?_
        <;> refine aL_end (nav ?_) <;> try dsimp only)
      (refine aC_region ?_
        <;> (refine yL 39 (q_ldao 3 tAgg28_LeW) fun v39 hv39 => ?_; cases hv39)
        <;> refine xL 40 q_move ?_
        <;> refine xL 41 q_move ?_
        <;> (refine cP 42 (cA Tryz.call38 (hR2)) fun va42 vb42 hva42 hvb42 => ?_; cases hva42; cases hvb42)
        <;> refine xL 38 q_move ?_
        <;> refine xL 43 q_extract ?_
        <;> refine xL 44 q_extract ?_
        <;> refine xL 10 q_assign ?_
        <;> refine xL 11 q_assign ?_
        <;> refine aL_end (nav ?_) <;> try dsimp only)
      (refine aC_region ?_
        <;> (refine yL 45 (q_ldao 3 tAgg28_LeW) fun v45 hv45 => ?_; cases hv45)
        <;> (refine cS 46 (cA Tryz.call16 (hD)) fun v46 hv46 => ?_; cases hv46)
        <;> refine xL 47 q_move ?_
        <;> refine xL 48 (q_bneq Tryz.underlying4) ?_
        <;> refine xL 49 q_move ?_
        <;> refine xL 50 q_move ?_
        <;> refine xL 51 q_move ?_
        <;> refine xL 52 q_neq ?_
        <;> refine xL 53 q_pick ?_
        <;> refine xL 54 q_move ?_
        <;> (refine bLd 54 (fun hb54 => ?_) (fun hb54 => ?_) <;> (first | refine kL 55 ?_ | refine xL 55 q_move ?_))
        <;> (first | refine kL 56 ?_ | refine xL 56 q_move ?_)
        <;> (first | refine kL 57 ?_ | refine xL 57 q_neq ?_)
        <;> refine xL 58 q_pick ?_
        <;> refine aL_end (nav ?_) <;> try dsimp only) <;> (
       first | refine cCd (fun hb58 => ?_) (fun hb58 => ?_) | refine cC (fun hb58 => ?_) (fun hb58 => ?_)
       · first
         | exact Bool.noConfusion hb58
         | (
          refine nav ?_
          (refine aC_region ?_
            <;> refine xL 6 q_assign ?_
            <;> refine aL_end (nav ?_) <;> try dsimp only)
          first
            | exact absurd rfl hb52
            | exact absurd rfl hb57
            | (exfalso; simp_all))
       · first
         | exact Bool.noConfusion hb58
         | (
          refine nav ?_
          (refine aC_region ?_
            <;> (refine yL 60 (q_ldao 3 tAgg28_LeW) fun v60 hv60 => ?_; cases hv60)
            <;> (refine cP 61 (cA Tryz.call39 (hX)) fun va61 vb61 hva61 hvb61 => ?_; cases hvb61)
            <;> refine xL 59 q_move ?_
            <;> refine xL 62 q_extract ?_
            <;> refine xL 63 q_extract ?_
            <;> refine s_alloc [(.int .i64 0), (.slice none 0 0)] 2 12 tZr79_LeW fun h12 => ?_
            <;> refine s_sta 12 tAgg79_LeW ?_
            <;> refine xL 13 q_assign ?_
            <;> refine aL_end (nav ?_) <;> try dsimp only)
          (refine aC_region ?_
            <;> (refine yL 65 (q_ldao 3 tAgg28_LeW) fun v65 hv65 => ?_; cases hv65)
            <;> (refine cP 66 (cA Tryz.call32 (hY)) fun va66 vb66 hva66 hvb66 => ?_; cases hvb66)
            <;> refine xL 64 q_move ?_
            <;> refine xL 67 q_extract ?_
            <;> refine xL 68 q_extract ?_
            <;> refine s_alloc [(.int .i64 0), (.int .i64 0), (.slice none 0 0), (.slice none 0 0), (.slice none 0 0)] 5 14 tZr66_LeW fun h14 => ?_
            <;> refine s_sta 14 tAgg66_LeW ?_
            <;> refine xL 15 q_assign ?_
            <;> refine aL_end (nav ?_) <;> try dsimp only)
          (refine aC_region ?_
            <;> refine xL 69 q_move ?_
            <;> refine xL 70 q_not ?_
            <;> refine aL_end (nav ?_) <;> try dsimp only)
          refine cCt ?_
          refine nav ?_
          (refine aC_region ?_
            <;> refine xL 71 q_move ?_
            <;> refine xL 72 q_eql ?_
            <;> refine xL 73 q_move ?_
            <;> refine xL 74 q_move ?_
            <;> refine xL 75 q_eql ?_
            <;> refine xL 76 q_pick ?_
            <;> refine xL 77 q_move ?_
            <;> refine xL 78 (q_fldo 12 tFl79_0_LeW) ?_
            <;> (refine yL 79 (q_ldo 12 tNa3_LeW) fun v79 hv79 => ?_; cases hv79)
            <;> refine xL 80 q_eql ?_
            <;> refine xL 81 q_pick ?_
            <;> refine xL 82 q_move ?_
            <;> refine xL 83 (q_fldo 12 tFl79_1_LeW) ?_
            <;> (refine yL 84 (q_ldo 12 tNa77_LeW) fun v84 hv84 => ?_; cases hv84)
            <;> refine xL 85 (q_len tSl77_LeW) ?_
            <;> refine xL 86 q_eql ?_
            <;> refine xL 87 q_pick ?_
            <;> refine xL 88 q_move ?_
            <;> (refine yL 89 (q_ldao 14 tAgg66_LeW) fun v89 hv89 => ?_; cases hv89)
            <;> refine xL 90 (q_build tSt66_LeW) ?_
            <;> (refine aL_ent (rslot (t := 90) (p' := pAut aut0) rfl rr_zeroA) fun _ => ?_; refine cS 91 (cA Tryz.call40 (r07Same_e aut0 (Nat.zero_le _))) fun v91 hv91 => ?_; cases hv91)
            <;> refine xL 92 q_pick ?_
            <;> refine xL 6 q_assign ?_
            <;> refine aL_end (nav ?_) <;> try dsimp only) <;> (
           exact ret_shr (Tryz.results10) rfl rfl)))))
set_option maxHeartbeats 2000000 in
theorem dfgForms_ok (g : Dfg) (a b : ByteArray) (hf : fitD g) (hok : dfgOk g = true) : AF Tryz.prog 10 [pDfg g, pStr a, pStr b] (· = pBool true) := by
  have hG := gok_of hok
  obtain ⟨q1, q2, q3, q4, q5⟩ := dfg_fit hok
  refine AF.of_body 121 Tryz.func10 rfl Tryz.ntmps10 (Nat.le_of_ble_eq_true rfl) ?_
  intro w0 M0 vs hl hv
  obtain ⟨v0, v1, v2, rfl⟩ := len3 hl
  obtain rfl := hv 1 _ _ rfl rfl
  obtain rfl := hv 2 _ _ rfl rfl
  clear hl hv
  refine nav ?_
  (refine aC_region ?_
    <;> refine s_boxa 3 4 fun h3 => ?_
    <;> refine xL 6 q_assign ?_
    <;> refine aL_end (nav ?_) <;> try dsimp only)
  (refine aC_region ?_
    <;> (refine cS 17 (cA Tryz.call11 (awake17_e)) fun v17 hv17 => ?_; cases hv17)
    <;> refine xL 18 q_not ?_
    <;> refine aL_end (nav ?_) <;> try dsimp only)
  refine cCf ?_
  refine nav ?_
  (refine aC_region ?_
    <;> (refine yL 19 (q_ldao 3 tAgg28_LeW) fun v19 hv19 => ?_; cases hv19)
    <;> (refine cS 20 (cA Tryz.call17 (great17_e g)) fun v20 hv20 => ?_; cases hv20)
    <;> refine xL 21 q_move ?_
    <;> (refine bL 21 (fun hb21 => ?_) (fun hb21 => ?_) <;> (first | refine kL 22 ?_ | refine xL 22 q_move ?_))
    <;> (first | refine kL 23 ?_ | (refine cS 23 (cA Tryz.call36 (long17_e a)) fun v23 hv23 => ?_; cases hv23))
    <;> refine xL 24 q_pick ?_
    <;> refine xL 25 q_move ?_
    <;> (first | refine kL 26 ?_ | (refine bLd 25 (fun hb25 => ?_) (fun hb25 => ?_) <;> (first | refine kL 26 ?_ | refine xL 26 q_move ?_)))
    <;> (first | refine kL 27 ?_ | (refine cS 27 (cA Tryz.call36 (long17_e b)) fun v27 hv27 => ?_; cases hv27))
    <;> refine xL 28 q_pick ?_
    <;> refine aL_end (nav ?_) <;> try dsimp only) <;> (
   first | refine cCd (fun hb28 => ?_) (fun hb28 => ?_) | refine cC (fun hb28 => ?_) (fun hb28 => ?_)
   · first
     | exact Bool.noConfusion hb28
     | (
      refine nav ?_
      (refine aC_region ?_
        <;> refine xL 6 q_assign ?_
        <;> refine aL_end (nav ?_) <;> try dsimp only)
      exact ret_shr Tryz.results10 rfl rfl)
   · first
     | exact Bool.noConfusion hb28
     | (
      have hga : greatB g = false := by cases h1 : greatB g <;> simp_all
      have hla := great_lens' hga
      have hml : (autG g).moves.length ≤ 1000000 := by unfold autG; rw [List.length_append, List.length_map, List.length_map]; omega
      have hR := dRelation_e g a b hf (by omega) (by omega) (by omega)
      have hR2 := r17Relation_e g a b hf (by omega)
      have hV := (r17Valid_e g hf (by omega)).mono (R' := (· = pBool true)) fun p hp => by rw [hp, hok]
      have hD := (dValid_e g hf (by omega) (by omega) (by omega)).mono (R' := (· = pBool true)) fun p hp => by rw [hp, hok]
      have hX : AF Tryz.prog 39 [pDfg g] (· = .tup [pGraphG g, pInt 0]) := (dGraphW_e g hf (by omega) (by omega) (by omega)).mono fun p hp => by
        rcases hp with ⟨h1, _⟩ | ⟨_, hp⟩
        · rw [hok] at h1; cases h1
        · exact hp
      have hY : AF Tryz.prog 32 [pDfg g] (· = .tup [pAut (autG g), pInt 0]) := (dAuto_e g hf (by omega) (by omega) (by omega) (by omega)).mono fun p hp => by
        rcases hp with ⟨h1, _⟩ | ⟨_, hp⟩
        · rw [hok] at h1; cases h1
        · exact hp
      refine nav ?_
      (refine aC_region ?_
        <;> (refine yL 29 (q_ldao 3 tAgg28_LeW) fun v29 hv29 => ?_; cases hv29)
        <;> (refine cS 30 (cA Tryz.call37 (hV)) fun v30 hv30 => ?_; cases hv30)
        <;> refine xL 7 q_assign ?_
        <;> refine aL_end (nav ?_) <;> try dsimp only)
      (refine aC_region ?_
        <;> (refine yL 32 (q_ldao 3 tAgg28_LeW) fun v32 hv32 => ?_; cases hv32)
        <;> refine xL 33 q_move ?_
        <;> refine xL 34 q_move ?_
        <;> (refine cP 35 (cA Tryz.call34 (hR)) fun va35 vb35 hva35 hvb35 => ?_; cases hva35; cases hvb35)
        <;> refine xL 31 q_move ?_
        <;> refine xL 36 q_extract ?_
        <;> refine xL 37 q_extract ?_
        <;> refine xL 8 q_assign ?_
        <;> refine xL 9 q_assign ?_
        <;> refine aL_end (nav ?_) <;> try dsimp only)
      (refine aC_region ?_
        <;> (refine yL 39 (q_ldao 3 tAgg28_LeW) fun v39 hv39 => ?_; cases hv39)
        <;> refine xL 40 q_move ?_
        <;> refine xL 41 q_move ?_
        <;> (refine cP 42 (cA Tryz.call38 (hR2)) fun va42 vb42 hva42 hvb42 => ?_; cases hva42; cases hvb42)
        <;> refine xL 38 q_move ?_
        <;> refine xL 43 q_extract ?_
        <;> refine xL 44 q_extract ?_
        <;> refine xL 10 q_assign ?_
        <;> refine xL 11 q_assign ?_
        <;> refine aL_end (nav ?_) <;> try dsimp only)
      (refine aC_region ?_
        <;> (refine yL 45 (q_ldao 3 tAgg28_LeW) fun v45 hv45 => ?_; cases hv45)
        <;> (refine cS 46 (cA Tryz.call16 (hD)) fun v46 hv46 => ?_; cases hv46)
        <;> refine xL 47 q_move ?_
        <;> refine xL 48 (q_bneq Tryz.underlying4) ?_
        <;> refine xL 49 q_move ?_
        <;> refine xL 50 q_move ?_
        <;> refine xL 51 q_move ?_
        <;> refine xL 52 q_neq ?_
        <;> refine xL 53 q_pick ?_
        <;> refine xL 54 q_move ?_
        <;> (refine bLd 54 (fun hb54 => ?_) (fun hb54 => ?_) <;> (first | refine kL 55 ?_ | refine xL 55 q_move ?_))
        <;> (first | refine kL 56 ?_ | refine xL 56 q_move ?_)
        <;> (first | refine kL 57 ?_ | refine xL 57 q_neq ?_)
        <;> refine xL 58 q_pick ?_
        <;> refine aL_end (nav ?_) <;> try dsimp only) <;> (
       first | refine cCd (fun hb58 => ?_) (fun hb58 => ?_) | refine cC (fun hb58 => ?_) (fun hb58 => ?_)
       · first
         | exact Bool.noConfusion hb58
         | (
          refine nav ?_
          (refine aC_region ?_
            <;> refine xL 6 q_assign ?_
            <;> refine aL_end (nav ?_) <;> try dsimp only)
          first
            | exact absurd rfl hb52
            | exact absurd rfl hb57
            | (exfalso; simp_all))
       · first
         | exact Bool.noConfusion hb58
         | (
          refine nav ?_
          (refine aC_region ?_
            <;> (refine yL 60 (q_ldao 3 tAgg28_LeW) fun v60 hv60 => ?_; cases hv60)
            <;> (refine cP 61 (cA Tryz.call39 (hX)) fun va61 vb61 hva61 hvb61 => ?_; cases hvb61)
            <;> refine xL 59 q_move ?_
            <;> refine xL 62 q_extract ?_
            <;> refine xL 63 q_extract ?_
            <;> refine s_alloc [(.int .i64 0), (.slice none 0 0)] 2 12 tZr79_LeW fun h12 => ?_
            <;> refine s_sta 12 tAgg79_LeW ?_
            <;> refine xL 13 q_assign ?_
            <;> refine aL_end (nav ?_) <;> try dsimp only)
          (refine aC_region ?_
            <;> (refine yL 65 (q_ldao 3 tAgg28_LeW) fun v65 hv65 => ?_; cases hv65)
            <;> (refine cP 66 (cA Tryz.call32 (hY)) fun va66 vb66 hva66 hvb66 => ?_; cases hvb66)
            <;> refine xL 64 q_move ?_
            <;> refine xL 67 q_extract ?_
            <;> refine xL 68 q_extract ?_
            <;> refine s_alloc [(.int .i64 0), (.int .i64 0), (.slice none 0 0), (.slice none 0 0), (.slice none 0 0)] 5 14 tZr66_LeW fun h14 => ?_
            <;> refine s_sta 14 tAgg66_LeW ?_
            <;> refine xL 15 q_assign ?_
            <;> refine aL_end (nav ?_) <;> try dsimp only)
          (refine aC_region ?_
            <;> refine xL 69 q_move ?_
            <;> refine xL 70 q_not ?_
            <;> refine aL_end (nav ?_) <;> try dsimp only)
          refine cCf ?_
          refine nav ?_
          (refine aC_region ?_
            <;> (refine yL 93 (q_ldao 3 tAgg28_LeW) fun v93 hv93 => ?_; cases hv93)
            <;> (refine cD 94 (cA Tryz.call41 (r17Graph_e g hG)) fun v94 hv94 => ?_; clear hv94)
            <;> refine s_alloc [(.int .i64 0), (.slice none 0 0)] 2 16 tZr79_LeW fun h16 => ?_
            <;> refine s_sta 16 tAgg79_LeW ?_
            <;> refine aL_end (nav ?_) <;> try dsimp only)
          (refine aC_draw (fun i => ([] : List Nat).elem i) [3, 12, 14, 16] (by kernel_rfl) ?_
            <;> refine xE 0 95 rfl q_move ?_
            <;> refine xE 1 96 rfl q_eqlT ?_
            <;> refine xE 2 97 rfl q_move ?_
            <;> refine xD 3 98 rfl q_move ?_
            <;> refine xD 4 99 rfl q_eqlT ?_
            <;> refine xE 5 100 rfl q_pick ?_
            <;> refine xE 6 101 rfl q_move ?_
            <;> refine xD 7 102 rfl (q_fldo 12 tFl79_0_LeW) ?_
            <;> (refine yD 8 103 rfl (q_ldo 12 tNa3_LeW) fun v103 hv103 => ?_; cases hv103)
            <;> refine xD 9 104 rfl (q_fldo 16 tFl79_0_LeW) ?_
            <;> (refine yD 10 105 rfl (q_ldo 16 tNa3_LeW) fun v105 hv105 => ?_; cases hv105)
            <;> refine xD 11 106 rfl q_eqlT ?_
            <;> refine xE 12 107 rfl q_pick ?_
            <;> refine xE 13 108 rfl q_move ?_
            <;> refine xD 14 109 rfl (q_fldo 12 tFl79_1_LeW) ?_
            <;> (refine yD 15 110 rfl (q_ldo 12 tNa77_LeW) fun v110 hv110 => ?_; cases hv110)
            <;> refine xD 16 111 rfl (q_fldo 16 tFl79_1_LeW) ?_
            <;> (refine yD 17 112 rfl (q_ldo 16 tNa77_LeW) fun v112 hv112 => ?_; cases hv112)
            <;> (refine aD_one 18 (by kernel_rfl) ?_)
            <;> (first | (refine aW_call (d := 113) rfl (cA Tryz.call42 (sEqualPr_e (edgeL (cnames g.acts) g.follows))) fun v113 hv113 => ?_; cases hv113) | (refine aW_run rfl fun w9 M9 N9 DQ back => ?_; refine kL 113 ?_; refine aL_end (back _ (nrm ?_))))
            <;> refine xE 19 114 rfl q_pick ?_
            <;> refine xE 20 115 rfl q_move ?_
            <;> (refine yD 21 116 rfl (q_ldao 14 tAgg66_LeW) fun v116 hv116 => ?_; cases hv116)
            <;> (refine yD 22 117 rfl (q_ldao 3 tAgg28_LeW) fun v117 hv117 => ?_; cases hv117)
            <;> (refine aD_one 23 (by kernel_rfl) ?_)
            <;> (first | (refine aW_call (d := 118) rfl (cA Tryz.call43 (r17Auto_e g hG)) fun v118 hv118 => ?_; cases hv118) | (refine aW_run rfl fun w9 M9 N9 DQ back => ?_; refine kL 118 ?_; refine aL_end (back _ (nrm ?_))))
            <;> (refine aD_one 24 (by kernel_rfl) ?_)
            <;> (first | (refine aW_call (d := 119) rfl (cA Tryz.call40 (r07Same_e (autG g) hml)) fun v119 hv119 => ?_; cases hv119) | (refine aW_run rfl fun w9 M9 N9 DQ back => ?_; refine kL 119 ?_; refine aL_end (back _ (nrm ?_))))
            <;> refine xE 25 120 rfl q_pick ?_
            <;> refine xE 26 6 rfl q_assign ?_
            <;> refine aD_end (by kernel_rfl) (nav ?_)
            <;> try dsimp only) <;> (
           exact ret_shr (Tryz.results10) rfl rfl)))))
theorem dfgForms_e (g : Dfg) (a b : ByteArray) (hf : fitD g) (hfa : a.size ≤ 140737488355328) (hfb : b.size ≤ 140737488355328) : AF Tryz.prog 10 [pDfg g, pStr a, pStr b] (· = pBool true) := by
  cases h : dfgOk g with
  | false => exact dfgForms_no g a b hf h
  | true => exact dfgForms_ok g a b hf h
theorem own : ownKnob Tryz.prog.godebug = none := by kernel_rfl
theorem laidOut : laidOutB Tryz.prog = true := by kernel_rfl
theorem lifted (os : Os) (started : os.Started) (H : Type) (enc : TypeId × Value → H) :
    ReturnsInHanded {} Tryz.checked os 10 .any (Rows.dfgFormsSpec.pre6 enc Tryz.prog Tryz.f10 Rows.dfgFormsRow.domain false) (Rows.dfgFormsSpec.post enc Tryz.prog Tryz.f10 false true false false) := by
  refine returnsInHanded_of_change_sized (C := Tryz.checked) own started (by kernel_rfl) Tryz.func10
    (ChangeSpec.witness6 (enc := enc) (C := Tryz.checked) false ⟨#[], #[(.agg #[(.slice none 0 0), (.slice none 0 0), (.slice none 0 0), (.slice none 0 0)]), (.string ByteArray.empty), (.string ByteArray.empty)], []⟩ 8 (by kernel_rfl) (by kernel_rfl) (by kernel_rfl) (by kernel_rfl)) ?_
  intro W base args ds gs before hval0 hW hcnd hsz _
  have hval : ∀ (j : Nat) t v, Tryz.f10.params[j]? = some t → args[j]? = some v → Value.okWide Tryz.prog W .any base t v := hval0
  have hW' := hW
  obtain ⟨p, q, hA0, hV, rfl, hfz, hnd⟩ := hW
  have hA : DataW.TrodAll enc Tryz.prog W 0 (fun _ => true) true Tryz.f10.params.toList args.toList ds p := hA0
  have hsz' : ∀ n ∈ DataW.weightsEach Tryz.prog (Tryz.f10.params.toList ++ Rows.dfgFormsSpec.plain.varTypes Tryz.prog) (ds ++ gs), n ≤ reachBytes := fun n hn => by
    have := List.all_eq_true.1 hsz n hn
    exact of_decide_eq_true this
  have hK := hA
  rw [Tryz.params10] at hA hval hsz'
  obtain ⟨v0, vs0, d0, ds0, p0, q0, hargs, rfl, rfl, h0, r0⟩ := trodAll_cons hA
  obtain ⟨v1, vs1, d1, ds1, p1, q1, rfl, rfl, rfl, h1, r1⟩ := trodAll_cons r0
  obtain ⟨v2, vs2, d2, ds2, p2, q2, rfl, rfl, rfl, h2, r2⟩ := trodAll_cons r1
  obtain ⟨rfl, rfl, rfl⟩ := trodAll_nil r2
  obtain rfl : args = #[v0, v1, v2] := by cases args; simp_all
  obtain ⟨rfl, rfl⟩ := trodVars_none hV
  obtain ⟨xg, hxg, s0⟩ := argA dDfg (by kernel_rfl) (hval 0 _ v0 rfl rfl) h0 (fun n hn => hsz' n (weightsEach_mem _ 0 rfl rfl hn))
  obtain ⟨xa, hxa, s1⟩ := arg1 dStr (by kernel_rfl) (hval 1 _ v1 rfl rfl) h1 (fun n hn => hsz' n (weightsEach_mem _ 1 rfl rfl hn))
  obtain ⟨xb, hxb, s2⟩ := arg1 dStr (by kernel_rfl) (hval 2 _ v2 rfl rfl) h2 (fun n hn => hsz' n (weightsEach_mem _ 2 rfl rfl hn))
  refine ((dfgForms_e xg xa xb hxg hxa hxb).law (vs := [v0, v1, v2]) rfl (fun i v p hv hp => ?_)).mono fun e W' ⟨he, bel⟩ => ?_
  · match i with
    | 0 => simp at hv hp; subst hv hp; exact s0
    | 1 => simp at hv hp; subst hv hp; exact s1
    | 2 => simp at hv hp; subst hv hp; exact s2
    | i + 3 => simp at hv
  subst he
  exact ⟨_, rfl, _, _, _, [], _, [], hW', trodAll_mk1 (shut_bool Tryz.underlying4 _), trodAll_back laidOut bel (by kernel_rfl) hK, rfl, bel.frame _, fun h => by cases h⟩

theorem over : Rows.dfgFormsRow.holds Tryz.pinned (OpenSpec.ofChange Rows.dfgFormsSpec) :=
  OpenClaim.holds_of_wide 10 Tryz.f10 rfl rfl rfl rfl rfl rfl rfl ⟨rfl, rfl, rfl, rfl, rfl⟩ rfl rfl rfl rfl rfl (by kernel_rfl) Tryz.func10 (by kernel_rfl)
    (of_decide_eq_true (by kernel_rfl)) (by unfold Func.isWrapper; first | (rw [if_pos (by decide +kernel)]; kernel_rfl) | (rw [if_neg (by decide +kernel)]; exact ⟨rfl, rfl⟩))
    (fun os started H enc _ => lifted os started H enc)

theorem dfgForms_holds : Rows.DfgFormsSaid := over
end Go.Proofs.YtebcjijpdhbcdaaGreat
