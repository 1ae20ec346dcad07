/-
  Walk: the reference's variants with a further word; what sums of made graphs are.
-/
import Derived.Test.YtebcjijpdhbcdaaGreatMLeNs
import Derived.Test.YtebcjijpdhbcdaaGreatMLpV
namespace Go.Proofs.YtebcjijpdhbcdaaGreat
open Go.RowKit Go.Cb Go.En
set_option linter.all false
set_option maxRecDepth 100000

theorem tEl22_LeT : ElT Tryz.prog 22 60 2 32 (.agg #[(.slice none 0 0), (.int .i64 0)]) := ⟨Tryz.underlying22, by kernel_rfl, rfl, by decide⟩
theorem tFl60_0_LeT : FldT Tryz.prog 60 0 0 = true := by kernel_rfl
theorem tFl60_1_LeT : FldT Tryz.prog 60 1 1 = true := by kernel_rfl
theorem tNa3_LeT : NoAgg Tryz.prog 3 = true := by kernel_rfl
theorem tNa51_LeT : NoAgg Tryz.prog 51 = true := by kernel_rfl
theorem tSl22_LeT : SlT Tryz.prog 22 60 2 = true := by kernel_rfl
theorem tSt60_LeT : stInfo Tryz.prog 60 = some ((.agg #[(.slice none 0 0), (.int .i64 0)]), ([0, 1] : List Nat).map fun o => (o, 1)) := by kernel_rfl

theorem cVar_one (L : List Var) : (L.flatMap cVar).all En.one = true := by rw [List.all_flatMap, List.all_eq_true]; intro x _; rfl
theorem share_vars (e n : Nat) (l : List Var) (hn : n = l.length) : share (.own e 2 n (l.flatMap cVar)) = pVars l := by
  subst hn
  rw [share, shares_eq, List.map_flatMap]; rfl
set_option maxHeartbeats 1000000 in
theorem r12Add_e (L : List Var) (w : List ByteArray) (n : Int) (hl : L.length ≤ 1000000) (hb : ∀ x ∈ L, 0 ≤ x.count + n ∧ x.count + n ≤ 4611686018427387904) : AF Tryz.prog 31 [pVars L, pStrs w, pInt n] (· = .own 60 2 (addV L w n).length ((addV L w n).flatMap cVar)) := by
  have f5 : (L.flatMap cVar).length = L.length * 2 := flat_len cVar_len L
  refine AF.of_body 69 Tryz.func31 rfl Tryz.ntmps31 (Nat.le_of_ble_eq_true rfl) ?_
  intro w0 M0 vs hl hv
  obtain ⟨v0, v1, v2, rfl⟩ := len3 hl
  obtain rfl := hv 2 _ _ rfl rfl
  clear hl hv
  refine nav ?_
  (refine aC_region ?_
    <;> refine xL 6 q_assign ?_
    <;> refine aL_end (nav ?_) <;> try dsimp only)
  (refine aC_region ?_
    <;> refine xL 7 q_assign ?_
    <;> refine aL_end (nav ?_) <;> try dsimp only)
  refine aC_loop (ι := { k : Nat // k ≤ L.length ∧ ∀ j x, j < k → L[j]? = some x → cmpStrs x.acts w < 0 }) (fun k => ⟨[(0, _, _), (1, _, _), (2, _, _), (7, .int .i64 k.1, pInt k.1)], []⟩) (fun k => L.length - k.1) ⟨0, Nat.zero_le _, fun j x h => absurd h (Nat.not_lt_zero j)⟩ (fun a w H => H.weaken ⟨rfl, rfl, rfl, rfl, trivial⟩ trivial) ?_
  rintro ⟨k, hk, hkp⟩
  dsimp only
  obtain ⟨x, hx0⟩ : ∃ x, x = L[k]?.getD ⟨w, 0⟩ := ⟨_, rfl⟩
  have hd : k < L.length → L[k]? = some x := fun h => by obtain ⟨y, hy⟩ := get_some h; rw [hx0, hy]; rfl
  have e1 : k < L.length → (L.flatMap cVar)[k * 2 + 0]? = some (pStrs x.acts) := fun h => by rw [flat_at cVar_len (hd h) (j := 0) (by decide)]; rfl
  have e2 : k < L.length → (L.flatMap cVar)[k * 2 + 1]? = some (pInt x.count) := fun h => by rw [flat_at cVar_len (hd h) (j := 1) (by decide)]; rfl
  clear hx0
  refine nav ?_
  (refine aC_region ?_
    <;> refine xL 9 q_move ?_
    <;> refine xL 10 q_move ?_
    <;> refine xL 11 (q_len tSl22_LeT) ?_
    <;> refine xL 12 q_lss ?_
    <;> refine xL 13 q_move ?_
    <;> (refine bLd 13 (fun hb13 => ?_) (fun hb13 => ?_) <;> (first | refine kL 14 ?_ | refine xL 14 q_move ?_))
    <;> (first | refine kL 15 ?_ | refine xL 15 q_move ?_)
    <;> (first | refine kL 16 ?_ | refine xL 16 (q_idxN tSl22_LeT) ?_)
    <;> (first | refine kL 17 ?_ | refine xL 17 (q_fld tFl60_0_LeT) ?_)
    <;> (first | refine kL 18 ?_ | (refine yL 18 (q_ld tNa51_LeT (hp := e1 (by omega))) fun v18 hv18 => ?_; cases hv18))
    <;> (first | refine kL 19 ?_ | refine xL 19 q_move ?_)
    <;> (first | refine kL 20 ?_ | (refine cS 20 (cA Tryz.call78 (rCompare_e x.acts w)) fun v20 hv20 => ?_; cases hv20))
    <;> (first | refine kL 21 ?_ | refine xL 21 q_lss ?_)
    <;> refine xL 22 q_pick ?_
    <;> refine aL_end (nav ?_) <;> try dsimp only) <;> (
   first | refine cCd (fun hb22 => ?_) (fun hb22 => ?_) | refine cC (fun hb22 => ?_) (fun hb22 => ?_)
   · first
     | exact Bool.noConfusion hb22
     | (
      refine nav ?_
      (refine aC_region ?_
        <;> refine xL 23 q_move ?_
        <;> refine xL 24 q_add ?_
        <;> refine xL 7 q_assign ?_
        <;> refine aL_end (nav ?_) <;> try dsimp only)
      refine aN_again (
        ⟨k + 1, by omega, fun j y hj hy => by
          by_cases e : j = k
          · subst e; rw [hd (by omega)] at hy; cases hy; exact hb22
          · exact hkp j y (by omega) hy⟩
        ) (by dsimp only; omega) ⟨rfl, rfl, rfl, rfl, trivial⟩ trivial)
   · first
     | exact Bool.noConfusion hb22
     | (
      refine nav ?_
      have hnl : ∀ y, L[k]? = some y → ¬ cmpStrs y.acts w < 0 := fun y hy => by
        have hlt := lt_of_get hy
        rw [hd hlt] at hy; cases hy
        first
          | exact hb22
          | (exfalso; omega)
      have f1 : (((L.flatMap cVar).drop (0 * 2)).take ((k - 0) * 2)).length = (k - 0) * 2 := by rw [flat_head cVar_len, flat_len cVar_len, List.length_take]; omega
      have f2 : (((L.flatMap cVar).drop (0 * 2)).take ((k - 0) * 2)).all En.one = true := by rw [flat_head cVar_len]; exact cVar_one _
      (refine aC_region ?_
        <;> refine s_lit0 25 tEl22_LeT fun h25 ho25 => ?_
        <;> refine xL 26 q_move ?_
        <;> refine xL 27 q_move ?_
        <;> refine xL 28 (y_slc_shr (i := 0) (j := k) tSl22_LeT rfl rfl rfl rfl (Nat.zero_le _) hk f5) ?_
        <;> refine s_apps 25 29 tEl22_LeT (fun h29 ho29 => ?_) f1 f2
        <;> refine xL 8 q_assign ?_
        <;> refine aL_end (nav ?_) <;> try dsimp only)
      (refine aC_region ?_
        <;> refine xL 30 q_move ?_
        <;> refine xL 31 q_move ?_
        <;> refine xL 32 (q_len tSl22_LeT) ?_
        <;> refine xL 33 q_lss ?_
        <;> refine xL 34 q_move ?_
        <;> (refine bLd 34 (fun hb34 => ?_) (fun hb34 => ?_) <;> (first | refine kL 35 ?_ | refine xL 35 q_move ?_))
        <;> (first | refine kL 36 ?_ | refine xL 36 q_move ?_)
        <;> (first | refine kL 37 ?_ | refine xL 37 (q_idxN tSl22_LeT) ?_)
        <;> (first | refine kL 38 ?_ | refine xL 38 (q_fld tFl60_0_LeT) ?_)
        <;> (first | refine kL 39 ?_ | (refine yL 39 (q_ld tNa51_LeT (hp := e1 (by omega))) fun v39 hv39 => ?_; cases hv39))
        <;> (first | refine kL 40 ?_ | refine xL 40 q_move ?_)
        <;> (first | refine kL 41 ?_ | (refine cS 41 (cA Tryz.call78 (rCompare_e x.acts w)) fun v41 hv41 => ?_; cases hv41))
        <;> (first | refine kL 42 ?_ | refine xL 42 q_eql ?_)
        <;> refine xL 43 q_pick ?_
        <;> refine aL_end (nav ?_) <;> try dsimp only) <;> (
       first | refine cCd (fun hb43 => ?_) (fun hb43 => ?_) | refine cC (fun hb43 => ?_) (fun hb43 => ?_)
       · first
         | exact Bool.noConfusion hb43
         | (
          have hkl : k < L.length := by omega
          have hx := hd hkl
          have hbx := hb x (List.mem_of_getElem? hx)
          have e3 := e2 hkl
          have f3 : (((L.flatMap cVar).drop ((k + 1) * 2)).take ((L.length - (k + 1)) * 2)).length = (L.length - (k + 1)) * 2 := by rw [flat_tail cVar_len, flat_len cVar_len, List.length_drop]
          have f4 : (((L.flatMap cVar).drop ((k + 1) * 2)).take ((L.length - (k + 1)) * 2)).all En.one = true := by rw [flat_tail cVar_len]; exact cVar_one _
          have r1 := addV_old (n := n) hkp hx hb43
          refine nav ?_
          (refine aC_region ?_
            <;> refine xL 44 q_move ?_
            <;> refine xL 45 q_move ?_
            <;> refine xL 46 q_move ?_
            <;> refine xL 47 q_move ?_
            <;> refine xL 48 (q_idxN tSl22_LeT) ?_
            <;> refine xL 49 (q_fld tFl60_1_LeT) ?_
            <;> (refine yL 50 (q_ld tNa3_LeT) fun v50 hv50 => ?_; cases hv50)
            <;> refine xL 51 q_move ?_
            <;> refine xL 52 q_add ?_
            <;> refine xL 53 (q_build tSt60_LeT) ?_
            <;> refine s_lit1a 54 tEl22_LeT fun h54 ho54 => ?_
            <;> refine s_app 29 54 55 tEl22_LeT fun h55 ho55 => ?_
            <;> refine xL 8 q_assign ?_
            <;> refine aL_end (nav ?_) <;> try dsimp only)
          (refine aC_region ?_
            <;> refine xL 56 q_move ?_
            <;> refine xL 57 q_add ?_
            <;> refine xL 7 q_assign ?_
            <;> refine aL_end (nav ?_) <;> try dsimp only)
          (refine aC_region ?_
            <;> refine xL 64 q_move ?_
            <;> refine xL 65 q_move ?_
            <;> refine xL 66 q_move ?_
            <;> (first | refine xL 67 (y_slc_shr (i := k + 1) (j := L.length) tSl22_LeT rfl rfl rfl rfl (by omega) (Nat.le_refl _) f5) ?_ | refine xL 67 (y_slc_shr (i := k) (j := L.length) tSl22_LeT rfl rfl rfl rfl hk (Nat.le_refl _) f5) ?_)
            <;> (first | refine s_apps 55 68 tEl22_LeT (fun h68 ho68 => ?_) f3 f4 | refine s_apps 63 68 tEl22_LeT (fun h68 ho68 => ?_) f3 f4)
            <;> refine xL 6 q_assign ?_
            <;> refine aL_end (nav ?_) <;> try dsimp only)
          refine ret_own 68 (Tryz.results31) rfl rfl ?_
          rw [r1, flat_head cVar_len, flat_tail cVar_len]
          show PV.own _ _ _ _ = PV.own _ _ _ _
          congr 1
          · simp; omega
          · simp [List.flatMap_append, cVar]; rfl)
       · first
         | exact Bool.noConfusion hb43
         | (
          have hne : ∀ y, L[k]? = some y → ¬ cmpStrs y.acts w < 0 ∧ cmpStrs y.acts w ≠ 0 := fun y hy => ⟨hnl y hy, fun he => by
            have hlt := lt_of_get hy
            rw [hd hlt] at hy; cases hy
            first
              | exact hb43 he
              | (exfalso; omega)⟩
          have f3 : (((L.flatMap cVar).drop (k * 2)).take ((L.length - k) * 2)).length = (L.length - k) * 2 := by rw [flat_tail cVar_len, flat_len cVar_len, List.length_drop]
          have f4 : (((L.flatMap cVar).drop (k * 2)).take ((L.length - k) * 2)).all En.one = true := by rw [flat_tail cVar_len]; exact cVar_one _
          have r1 := addV_new (n := n) hkp hk hne
          refine nav ?_
          (refine aC_region ?_
            <;> refine xL 58 q_move ?_
            <;> refine xL 59 q_move ?_
            <;> refine xL 60 q_move ?_
            <;> refine xL 61 (q_build tSt60_LeT) ?_
            <;> refine s_lit1a 62 tEl22_LeT fun h62 ho62 => ?_
            <;> refine s_app 29 62 63 tEl22_LeT fun h63 ho63 => ?_
            <;> refine xL 8 q_assign ?_
            <;> refine aL_end (nav ?_) <;> try dsimp only)
          (refine aC_region ?_
            <;> refine xL 64 q_move ?_
            <;> refine xL 65 q_move ?_
            <;> refine xL 66 q_move ?_
            <;> (first | refine xL 67 (y_slc_shr (i := k + 1) (j := L.length) tSl22_LeT rfl rfl rfl rfl (by omega) (Nat.le_refl _) f5) ?_ | refine xL 67 (y_slc_shr (i := k) (j := L.length) tSl22_LeT rfl rfl rfl rfl hk (Nat.le_refl _) f5) ?_)
            <;> (first | refine s_apps 55 68 tEl22_LeT (fun h68 ho68 => ?_) f3 f4 | refine s_apps 63 68 tEl22_LeT (fun h68 ho68 => ?_) f3 f4)
            <;> refine xL 6 q_assign ?_
            <;> refine aL_end (nav ?_) <;> try dsimp only)
          refine ret_own 68 (Tryz.results31) rfl rfl ?_
          rw [r1, flat_head cVar_len, flat_tail cVar_len]
          show PV.own _ _ _ _ = PV.own _ _ _ _
          congr 1
          · simp; omega
          · simp [List.flatMap_append, cVar]; rfl))))
section
variable {κ : Type} [DecidableEq κ]
theorem both_perm {G A B mA mB mG : List (κ × Int)} {b c : Int} (hG : LOk G b) (hS : LOk (addsK (addsK [] A) B) c) (hA : A.Perm mA) (hB : B.Perm mB) (nA : (A.map (·.1)).Nodup) (nB : (B.map (·.1)).Nodup) (pG : G.Perm mG) (h : ∀ k, iget mG k = iget mA k + iget mB k) : G.Perm (addsK (addsK [] A) B) :=
  perm_of_iget hG.nd hS.nd hG.lo hS.lo fun k => by rw [iget_permV pG hG.nd, h, two_iget hA hB nA nB]
end
theorem adds_same {l m both : List Var} {ga gb gc : Dfg} (hw : ∀ f, wtV f both = wtV f l + wtV f m) (hA : SameG ga (makeM l)) (hB : SameG gb (makeM m)) (hC : SameG gc (makeM both)) (oa : dfgOk ga = true) (ob : dfgOk gb = true) (oc : dfgOk gc = true) : SameG gc (sumM ga gb) := by
  have ka := glk_of oa
  have kb := glk_of ob
  have kc := glk_of oc
  have hs := sum_sok oa ob
  refine ⟨sameC_un hC.1 (both_perm kc.a hs.a (sameC_perm hA.1) (sameC_perm hB.1) ka.a.nd kb.a.nd (sameC_perm hC.1) fun k => ?_), sameC_un hC.2.1 (both_perm kc.s hs.s (sameC_perm hA.2.1) (sameC_perm hB.2.1) ka.s.nd kb.s.nd (sameC_perm hC.2.1) fun k => ?_), sameC_un hC.2.2.1 (both_perm kc.f hs.f (sameC_perm hA.2.2.1) (sameC_perm hB.2.2.1) ka.f.nd kb.f.nd (sameC_perm hC.2.2.1) fun k => ?_), sameF_un hC.2.2.2 (both_perm kc.q hs.q (sameF_perm hA.2.2.2) (sameF_perm hB.2.2.2) ka.q.nd kb.q.nd (sameF_perm hC.2.2.2) fun k => ?_)⟩
  · rw [make_a, make_a, make_a, hw]
  · rw [make_s, make_s, make_s, hw]
  · rw [make_f, make_f, make_f, hw]
  · rw [make_q, make_q, make_q, hw]
theorem adds_res {ga gb gc : Dfg} (oa : dfgOk ga = true) (ob : dfgOk gb = true) (oc : dfgOk gc = true) (h : SameG gc (sumM ga gb)) : SumRes ga gb gc 0 := by
  have h40 := (gok_of oc).n40
  have hl := (sameC_perm h.1).length_eq
  rw [List.length_map] at hl
  exact .inr (.inr ⟨oa, ob, by omega, gc, h, .inr ⟨oc, rfl, rfl⟩⟩)
end Go.Proofs.YtebcjijpdhbcdaaGreat
