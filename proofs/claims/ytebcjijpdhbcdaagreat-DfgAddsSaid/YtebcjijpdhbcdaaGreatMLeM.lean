/-
  Walks: dfg.Sum: the walk.
-/
import Derived.Test.YtebcjijpdhbcdaaGreatMLeL
namespace Go.Proofs.YtebcjijpdhbcdaaGreat
open Go.RowKit Go.Cb Go.En
set_option linter.all false
set_option maxRecDepth 100000

theorem tAgg28_LeM : AggT Tryz.prog 28 4 = true := by kernel_rfl
theorem tAgg44_LeM : AggT Tryz.prog 44 2 = true := by kernel_rfl
theorem tAgg47_LeM : AggT Tryz.prog 47 3 = true := by kernel_rfl
theorem tAr97_LeM : ArrT Tryz.prog 97 2 = true := by kernel_rfl
theorem tEl121_LeM : ElT Tryz.prog 121 28 4 96 (.agg #[(.slice none 0 0), (.slice none 0 0), (.slice none 0 0), (.slice none 0 0)]) := ⟨Tryz.underlying121, by kernel_rfl, rfl, by decide⟩
theorem tFl28_0_LeM : FldT Tryz.prog 28 0 0 = true := by kernel_rfl
theorem tFl28_1_LeM : FldT Tryz.prog 28 1 1 = true := by kernel_rfl
theorem tFl28_2_LeM : FldT Tryz.prog 28 2 2 = true := by kernel_rfl
theorem tFl28_3_LeM : FldT Tryz.prog 28 3 3 = true := by kernel_rfl
theorem tFl44_0_LeM : FldT Tryz.prog 44 0 0 = true := by kernel_rfl
theorem tFl44_1_LeM : FldT Tryz.prog 44 1 1 = true := by kernel_rfl
theorem tFl47_0_LeM : FldT Tryz.prog 47 0 0 = true := by kernel_rfl
theorem tFl47_1_LeM : FldT Tryz.prog 47 1 1 = true := by kernel_rfl
theorem tFl47_2_LeM : FldT Tryz.prog 47 2 2 = true := by kernel_rfl
theorem tFl96_0_LeM : FldT Tryz.prog 96 0 0 = true := by kernel_rfl
theorem tFl96_1_LeM : FldT Tryz.prog 96 1 1 = true := by kernel_rfl
theorem tFl96_2_LeM : FldT Tryz.prog 96 2 2 = true := by kernel_rfl
theorem tFl96_3_LeM : FldT Tryz.prog 96 3 3 = true := by kernel_rfl
theorem tMp93_LeM : MpT Tryz.prog 93 9 3 .string (.int .i64 0) := ⟨Tryz.underlying93, Tryz.underlying9, .inl rfl, by show ZeroT _ _ _; unfold ZeroT; kernel_rfl⟩
theorem tNa25_LeM : NoAgg Tryz.prog 25 = true := by kernel_rfl
theorem tNa26_LeM : NoAgg Tryz.prog 26 = true := by kernel_rfl
theorem tNa3_LeM : NoAgg Tryz.prog 3 = true := by kernel_rfl
theorem tNa93_LeM : NoAgg Tryz.prog 93 = true := by kernel_rfl
theorem tNa94_LeM : NoAgg Tryz.prog 94 = true := by kernel_rfl
theorem tNa9_LeM : NoAgg Tryz.prog 9 = true := by kernel_rfl
theorem tPk94_LeM : PkT Tryz.prog 94 97 9 3 (.int .i64 0) := ⟨Tryz.underlying94, Tryz.underlying97, Tryz.underlying9, by kernel_rfl, by kernel_rfl, by kernel_rfl, by kernel_rfl, by kernel_rfl, fun a b => by kernel_rfl, ⟨Tryz.prog.types.size - 1, by kernel_rfl⟩, by show ZeroT _ _ _; unfold ZeroT; kernel_rfl⟩
theorem tSl121_LeM : SlT Tryz.prog 121 28 4 = true := by kernel_rfl
theorem tSl25_LeM : SlT Tryz.prog 25 44 2 = true := by kernel_rfl
theorem tSl26_LeM : SlT Tryz.prog 26 47 3 = true := by kernel_rfl
theorem tSt28_LeM : stInfo Tryz.prog 28 = some ((.agg #[(.slice none 0 0), (.slice none 0 0), (.slice none 0 0), (.slice none 0 0)]), ([0, 1, 2, 3] : List Nat).map fun o => (o, 1)) := by kernel_rfl
theorem tZr28_LeM : ZeroT Tryz.prog 28 (.agg #[(.slice none 0 0), (.slice none 0 0), (.slice none 0 0), (.slice none 0 0)]) := by unfold ZeroT; kernel_rfl
theorem tZr44_LeM : ZeroT Tryz.prog 44 (.agg #[(.string ByteArray.empty), (.int .i64 0)]) := by unfold ZeroT; kernel_rfl
theorem tZr47_LeM : ZeroT Tryz.prog 47 (.agg #[(.string ByteArray.empty), (.string ByteArray.empty), (.int .i64 0)]) := by unfold ZeroT; kernel_rfl
theorem tZr97_LeM : ZeroT Tryz.prog 97 (.agg #[(.string ByteArray.empty), (.string ByteArray.empty)]) := by unfold ZeroT; kernel_rfl

set_option maxHeartbeats 8000000 in
theorem dSum_e (a b : Dfg) (hfa : fitD a) (hfb : fitD b) (ha1 : a.acts.length ≤ 1000000) (ha2 : a.starts.length ≤ 1000000) (ha3 : a.ends.length ≤ 1000000) (hb1 : b.acts.length ≤ 1000000) (hb2 : b.starts.length ≤ 1000000) (hb3 : b.ends.length ≤ 1000000) : AF Tryz.prog 27 [pDfg a, pDfg b] (RSum a b) := by
  refine AF.of_body 128 Tryz.func27 rfl Tryz.ntmps27 (Nat.le_of_ble_eq_true rfl) ?_
  intro w0 M0 vs hl hv
  obtain ⟨v0, v1, rfl⟩ := len2 hl
  clear hl hv
  refine nav ?_
  (refine aC_region ?_
    <;> refine s_boxa 2 4 fun h2 => ?_
    <;> refine s_boxa 3 4 fun h3 => ?_
    <;> refine s_alloc [(.slice none 0 0), (.slice none 0 0), (.slice none 0 0), (.slice none 0 0)] 4 4 tZr28_LeM fun h4 => ?_
    <;> refine xL 5 q_assign ?_
    <;> refine aL_end (nav ?_) <;> try dsimp only)
  (refine aC_region ?_
    <;> (refine yL 18 (q_ldao 2 tAgg28_LeM) fun v18 hv18 => ?_; cases hv18)
    <;> (refine cS 19 (cA Tryz.call16 (dValid_e a hfa ha1 ha2 ha3)) fun v19 hv19 => ?_; cases hv19)
    <;> refine xL 20 q_not ?_
    <;> refine xL 21 q_move ?_
    <;> (refine bL 21 (fun hb21 => ?_) (fun hb21 => ?_) <;> (first | refine kL 22 ?_ | (refine yL 22 (q_ldao 3 tAgg28_LeM) fun v22 hv22 => ?_; cases hv22)))
    <;> (first | refine kL 23 ?_ | (refine cS 23 (cA Tryz.call16 (dValid_e b hfb hb1 hb2 hb3)) fun v23 hv23 => ?_; cases hv23))
    <;> (first | refine kL 24 ?_ | refine xL 24 q_not ?_)
    <;> refine xL 25 q_pick ?_
    <;> refine aL_end (nav ?_) <;> try dsimp only) <;> (
   first | refine cCd (fun hb25 => ?_) (fun hb25 => ?_) | refine cC (fun hb25 => ?_) (fun hb25 => ?_)
   · first
     | exact Bool.noConfusion hb25
     | (
      refine nav ?_
      (refine aC_region ?_
        <;> refine xL 26 (q_build tSt28_LeM) ?_
        <;> refine s_sta 4 tAgg28_LeM ?_
        <;> refine xL 5 q_assign ?_
        <;> refine aL_end (nav ?_) <;> try dsimp only)
      exact ret_cs (k := 4) 4 (by kernel_rfl) (Tryz.results27) rfl rfl rfl (Nat.le_of_ble_eq_true rfl) (by decide) rfl (.inl ⟨by cases h1 : dfgOk a <;> cases h2 : dfgOk b <;> simp_all, rfl⟩))
   · first
     | exact Bool.noConfusion hb25
     | (
      have hA : dfgOk a = true := by cases h1 : dfgOk a <;> simp_all
      have hB : dfgOk b = true := by cases h1 : dfgOk b <;> simp_all
      have hgs : ∀ g ∈ [a, b], dfgOk g = true := fun g hg => by
        simp only [List.mem_cons, List.not_mem_nil, or_false] at hg
        rcases hg with rfl | rfl <;> assumption
      have hszs := sumM_sz hA hB
      refine nav ?_
      (refine aC_region ?_
        <;> refine cO 27 (cA Tryz.call48 (dNewCounter_e)) fun v27 ho27 => ?_
        <;> refine xL 6 q_assign ?_
        <;> refine aL_end (nav ?_) <;> try dsimp only)
      refine aC_ent (openBox (l := 27) rfl) fun i => ?_
      obtain ⟨h27, hv27⟩ := i
      subst hv27
      refine aC_ent (focusO (l := 27) (l' := 301) (j := 0) rfl rfl rfl rfl) fun i => ?_
      obtain ⟨m1, hm1⟩ := i
      refine aC_ent (focusO (l := 27) (l' := 302) (j := 1) rfl rfl rfl rfl) fun i => ?_
      obtain ⟨m2, hm2⟩ := i
      refine aC_ent (focusO (l := 27) (l' := 303) (j := 2) rfl rfl rfl rfl) fun i => ?_
      obtain ⟨m3, hm3⟩ := i
      refine aC_ent (focusO (l := 27) (l' := 304) (j := 3) rfl rfl rfl rfl) fun i => ?_
      obtain ⟨m4, hm4⟩ := i
      dsimp only [List.set]
      (refine aC_region ?_
        <;> (refine yL 28 (q_ldao 2 tAgg28_LeM) fun v28 hv28 => ?_; cases hv28)
        <;> (refine yL 29 (q_ldao 3 tAgg28_LeM) fun v29 hv29 => ?_; cases hv29)
        <;> (refine s_lita (kk := 4) (xs := [_, _]) (cs := [[_, _, _, _], [_, _, _, _]]) 30 tEl121_LeM fun h30 ho30 => ?_; refine aL_ent (En.freeze (l := 30) (t := 30) rfl rfl) fun _ => ?_; refine aL_ent (reslot (t := 30) (p' := .sl 2 ([a, b].flatMap cDg)) rfl rfl) fun _ => ?_)
        <;> refine xL 31 (q_len tSl121_LeM) ?_
        <;> refine xL 32 q_move ?_
        <;> refine aL_end (nav ?_) <;> try dsimp only)
      refine aC_loop (ι := { k : Nat // k ≤ 2 }) (fun k => ⟨[(4, _, _), (6, _, _), (30, _, _), (31, _, _), (32, .int .i64 k.1, pInt k.1)], [(4, _, _), (27, h27, .own 96 4 1 [.val m1, .val m2, .val m3, .val m4]), (301, m1, .omap (skv (ivals (stG [a, b] k.1).a))), (302, m2, .omap (skv (ivals (stG [a, b] k.1).s))), (303, m3, .omap (skv (ivals (stG [a, b] k.1).f))), (304, m4, .omap (akv (ivals (stG [a, b] k.1).q)))]⟩) (fun k => 2 - k.1) ⟨0, Nat.zero_le _⟩ (fun a w H => H.weaken ⟨rfl, rfl, rfl, rfl, rfl, trivial⟩ ⟨rfl, rfl, rfl, rfl, rfl, rfl, trivial⟩) ?_
      rintro ⟨k, hk⟩
      dsimp only
      have hSk := stG_ok hgs k hk
      obtain ⟨st, hst⟩ : ∃ st, st = stG [a, b] k := ⟨_, rfl⟩
      rw [← hst] at hSk ⊢
      refine nav ?_
      (refine aC_region ?_
        <;> refine xL 33 q_lss ?_
        <;> refine aL_end (nav ?_) <;> try dsimp only)
      first | refine cCd (fun hb33 => ?_) (fun hb33 => ?_) | refine cC (fun hb33 => ?_) (fun hb33 => ?_)
      · first
        | exact Bool.noConfusion hb33
        | (
         obtain ⟨x, hx⟩ := get_some (l := [a, b]) (i := k) (by show k < 2; omega)
         have e1 := flat_drop cDg_len [a, b] k x hx
         have e2 := flat_fit cDg_len hx
         have hxo := hgs x (List.mem_of_getElem? hx)
         have hlx := glens hxo
         have hkx := glk_of hxo
         have hnx := stG_step hx
         rw [← hst] at hnx
         have hkb : (k : Int) * 4503599627370496 ≤ 9007199254740992 := by omega
         refine nav ?_
         (refine aC_region ?_
           <;> refine xL 34 (q_idxN tSl121_LeM) ?_
           <;> (refine yL 35 (q_lda tAgg28_LeM) fun v35 hv35 => ?_; cases hv35)
           <;> refine s_alloc [(.slice none 0 0), (.slice none 0 0), (.slice none 0 0), (.slice none 0 0)] 4 8 tZr28_LeM fun h8 => ?_
           <;> refine s_sta 8 tAgg28_LeM ?_
           <;> refine aL_end (nav ?_) <;> try dsimp only)
         (refine aC_region ?_
           <;> refine xL 36 (q_fldo 8 tFl28_0_LeM) ?_
           <;> (refine yL 37 (q_ldo 8 tNa25_LeM) fun v37 hv37 => ?_; cases hv37)
           <;> refine xL 38 (q_len tSl25_LeM) ?_
           <;> refine xL 39 q_move ?_
           <;> refine aL_end (nav ?_) <;> try dsimp only)
         refine aC_loop (ι := { j : Nat // j ≤ x.acts.length }) (fun k => ⟨[(4, _, _), (6, _, _), (8, _, _), (30, _, _), (31, _, _), (32, _, _), (37, _, _), (38, _, _), (39, .int .i64 k.1, pInt k.1)], [(4, _, _), (8, _, _), (27, _, _), (302, _, _), (303, _, _), (304, _, _), (301, m1, .omap (skv (ivals (addsK st.a ((x.acts.take k.1).map unC)))))]⟩) (fun k => x.acts.length - k.1) ⟨0, Nat.zero_le _⟩ (fun a w H => H.weaken ⟨rfl, rfl, rfl, rfl, rfl, rfl, rfl, rfl, rfl, trivial⟩ ⟨rfl, rfl, rfl, rfl, rfl, rfl, rfl, trivial⟩) ?_
         rintro ⟨j, hj⟩
         dsimp only
         refine nav ?_
         (refine aC_region ?_
           <;> refine xL 40 q_lss ?_
           <;> refine aL_end (nav ?_) <;> try dsimp only)
         first | refine cCd (fun hb40 => ?_) (fun hb40 => ?_) | refine cC (fun hb40 => ?_) (fun hb40 => ?_)
         · first
           | exact Bool.noConfusion hb40
           | (
            obtain ⟨c, hc⟩ := get_some (show j < x.acts.length by omega)
            have e3 := flat_drop cCnt_len x.acts j c hc
            have e4 := flat_fit cCnt_len hc
            have hgn := getC_new hSk.a (by omega) hkx.a.nd hc
            have hc1 : 1 ≤ c.n := hkx.a.lo (unC c) (List.mem_map.2 ⟨c, List.mem_of_getElem? hc, rfl⟩)
            have hc2 : c.n ≤ 4503599627370496 := hkx.a.hi (unC c) (List.mem_map.2 ⟨c, List.mem_of_getElem? hc, rfl⟩)
            have hsn := name_sz (hkx.nm c (List.mem_of_getElem? hc))
            refine nav ?_
            (refine aC_region ?_
              <;> refine xL 41 (q_idxN tSl25_LeM) ?_
              <;> (refine yL 42 (q_lda tAgg44_LeM) fun v42 hv42 => ?_; cases hv42)
              <;> refine s_alloc [(.string ByteArray.empty), (.int .i64 0)] 2 10 tZr44_LeM fun h10 => ?_
              <;> refine s_sta 10 tAgg44_LeM ?_
              <;> refine aL_end (nav ?_) <;> try dsimp only)
            (refine aC_draw (fun i => ([10] : List Nat).elem i) [10, 27, 301] (by kernel_rfl) ?_
              <;> refine xD 0 43 rfl q_move ?_
              <;> refine xD 1 44 rfl (q_nilo 27) ?_
              <;> refine xD 2 45 rfl (q_fldo 27 tFl96_0_LeM) ?_
              <;> (refine yD 3 46 rfl (q_ldo 27 tNa93_LeM) fun v46 hv46 => ?_; cases hv46)
              <;> refine xD 4 47 rfl (q_fldo 10 tFl44_0_LeM) ?_
              <;> (refine yD 5 48 rfl (q_ldo 10 tNa9_LeM) fun v48 hv48 => ?_; cases hv48)
              <;> refine xD 6 49 rfl (q_lookoE 301 tMp93_LeM (hk := kok_skv _ _) (hu := mget_i _ _)) ?_
              <;> refine xE 7 50 rfl (q_fldo 10 tFl44_1_LeM) ?_
              <;> (refine yE 8 51 rfl (q_ldo 10 tNa3_LeM) fun v51 hv51 => ?_; cases hv51)
              <;> refine xE 9 52 rfl q_add ?_
              <;> (refine aD_one 10 (by kernel_rfl) ?_)
              <;> (refine aW_last rfl rfl (by kernel_rfl) fun DQ back => ?_)
              <;> refine s_mput 301 tMp93_LeM ?_
              <;> refine aL_end (back _ (nav ?_))
              <;> try dsimp only)
            rw [mput_i, ← addsC_step hc]
            (refine aC_region ?_
              <;> refine xL 53 q_add ?_
              <;> refine xL 39 q_move ?_
              <;> refine aL_end (nav ?_) <;> try dsimp only)
            refine aN_again (
              ⟨j + 1, lt_of_get hc⟩
              ) (by dsimp only; omega) ⟨rfl, rfl, rfl, rfl, rfl, rfl, rfl, rfl, rfl, trivial⟩ ⟨rfl, rfl, rfl, rfl, rfl, rfl, rfl, trivial⟩)
         · first
           | exact Bool.noConfusion hb40
           | (
            obtain rfl : j = x.acts.length := by omega
            rw [List.take_length]
            refine nav ?_
            (refine aC_region ?_
              <;> refine xL 54 (q_fldo 8 tFl28_1_LeM) ?_
              <;> (refine yL 55 (q_ldo 8 tNa25_LeM) fun v55 hv55 => ?_; cases hv55)
              <;> refine xL 56 (q_len tSl25_LeM) ?_
              <;> refine xL 57 q_move ?_
              <;> refine aL_end (nav ?_) <;> try dsimp only)
            refine aC_loop (ι := { j : Nat // j ≤ x.starts.length }) (fun k => ⟨[(4, _, _), (6, _, _), (8, _, _), (30, _, _), (31, _, _), (32, _, _), (55, _, _), (56, _, _), (57, .int .i64 k.1, pInt k.1)], [(4, _, _), (8, _, _), (27, _, _), (301, _, _), (303, _, _), (304, _, _), (302, m2, .omap (skv (ivals (addsK st.s ((x.starts.take k.1).map unC)))))]⟩) (fun k => x.starts.length - k.1) ⟨0, Nat.zero_le _⟩ (fun a w H => H.weaken ⟨rfl, rfl, rfl, rfl, rfl, rfl, rfl, rfl, rfl, trivial⟩ ⟨rfl, rfl, rfl, rfl, rfl, rfl, rfl, trivial⟩) ?_
            rintro ⟨j2, hj2⟩
            dsimp only
            refine nav ?_
            (refine aC_region ?_
              <;> refine xL 58 q_lss ?_
              <;> refine aL_end (nav ?_) <;> try dsimp only)
            first | refine cCd (fun hb58 => ?_) (fun hb58 => ?_) | refine cC (fun hb58 => ?_) (fun hb58 => ?_)
            · first
              | exact Bool.noConfusion hb58
              | (
               obtain ⟨c, hc⟩ := get_some (show j2 < x.starts.length by omega)
               have e3 := flat_drop cCnt_len x.starts j2 c hc
               have e4 := flat_fit cCnt_len hc
               have hgn := getC_new hSk.s (by omega) hkx.s.nd hc
               have hc1 : 1 ≤ c.n := hkx.s.lo (unC c) (List.mem_map.2 ⟨c, List.mem_of_getElem? hc, rfl⟩)
               have hc2 : c.n ≤ 4503599627370496 := hkx.s.hi (unC c) (List.mem_map.2 ⟨c, List.mem_of_getElem? hc, rfl⟩)
               have hsn := name_sz (hkx.sn c (List.mem_of_getElem? hc))
               refine nav ?_
               (refine aC_region ?_
                 <;> refine xL 59 (q_idxN tSl25_LeM) ?_
                 <;> (refine yL 60 (q_lda tAgg44_LeM) fun v60 hv60 => ?_; cases hv60)
                 <;> refine s_alloc [(.string ByteArray.empty), (.int .i64 0)] 2 12 tZr44_LeM fun h12 => ?_
                 <;> refine s_sta 12 tAgg44_LeM ?_
                 <;> refine aL_end (nav ?_) <;> try dsimp only)
               (refine aC_draw (fun i => ([10] : List Nat).elem i) [12, 27, 302] (by kernel_rfl) ?_
                 <;> refine xD 0 61 rfl q_move ?_
                 <;> refine xD 1 62 rfl (q_nilo 27) ?_
                 <;> refine xD 2 63 rfl (q_fldo 27 tFl96_1_LeM) ?_
                 <;> (refine yD 3 64 rfl (q_ldo 27 tNa93_LeM) fun v64 hv64 => ?_; cases hv64)
                 <;> refine xD 4 65 rfl (q_fldo 12 tFl44_0_LeM) ?_
                 <;> (refine yD 5 66 rfl (q_ldo 12 tNa9_LeM) fun v66 hv66 => ?_; cases hv66)
                 <;> refine xD 6 67 rfl (q_lookoE 302 tMp93_LeM (hk := kok_skv _ _) (hu := mget_i _ _)) ?_
                 <;> refine xE 7 68 rfl (q_fldo 12 tFl44_1_LeM) ?_
                 <;> (refine yE 8 69 rfl (q_ldo 12 tNa3_LeM) fun v69 hv69 => ?_; cases hv69)
                 <;> refine xE 9 70 rfl q_add ?_
                 <;> (refine aD_one 10 (by kernel_rfl) ?_)
                 <;> (refine aW_last rfl rfl (by kernel_rfl) fun DQ back => ?_)
                 <;> refine s_mput 302 tMp93_LeM ?_
                 <;> refine aL_end (back _ (nav ?_))
                 <;> try dsimp only)
               rw [mput_i, ← addsC_step hc]
               (refine aC_region ?_
                 <;> refine xL 71 q_add ?_
                 <;> refine xL 57 q_move ?_
                 <;> refine aL_end (nav ?_) <;> try dsimp only)
               refine aN_again (
                 ⟨j2 + 1, lt_of_get hc⟩
                 ) (by dsimp only; omega) ⟨rfl, rfl, rfl, rfl, rfl, rfl, rfl, rfl, rfl, trivial⟩ ⟨rfl, rfl, rfl, rfl, rfl, rfl, rfl, trivial⟩)
            · first
              | exact Bool.noConfusion hb58
              | (
               obtain rfl : j2 = x.starts.length := by omega
               rw [List.take_length]
               refine nav ?_
               (refine aC_region ?_
                 <;> refine xL 72 (q_fldo 8 tFl28_2_LeM) ?_
                 <;> (refine yL 73 (q_ldo 8 tNa25_LeM) fun v73 hv73 => ?_; cases hv73)
                 <;> refine xL 74 (q_len tSl25_LeM) ?_
                 <;> refine xL 75 q_move ?_
                 <;> refine aL_end (nav ?_) <;> try dsimp only)
               refine aC_loop (ι := { j : Nat // j ≤ x.ends.length }) (fun k => ⟨[(4, _, _), (6, _, _), (8, _, _), (30, _, _), (31, _, _), (32, _, _), (73, _, _), (74, _, _), (75, .int .i64 k.1, pInt k.1)], [(4, _, _), (8, _, _), (27, _, _), (301, _, _), (302, _, _), (304, _, _), (303, m3, .omap (skv (ivals (addsK st.f ((x.ends.take k.1).map unC)))))]⟩) (fun k => x.ends.length - k.1) ⟨0, Nat.zero_le _⟩ (fun a w H => H.weaken ⟨rfl, rfl, rfl, rfl, rfl, rfl, rfl, rfl, rfl, trivial⟩ ⟨rfl, rfl, rfl, rfl, rfl, rfl, rfl, trivial⟩) ?_
               rintro ⟨j3, hj3⟩
               dsimp only
               refine nav ?_
               (refine aC_region ?_
                 <;> refine xL 76 q_lss ?_
                 <;> refine aL_end (nav ?_) <;> try dsimp only)
               first | refine cCd (fun hb76 => ?_) (fun hb76 => ?_) | refine cC (fun hb76 => ?_) (fun hb76 => ?_)
               · first
                 | exact Bool.noConfusion hb76
                 | (
                  obtain ⟨c, hc⟩ := get_some (show j3 < x.ends.length by omega)
                  have e3 := flat_drop cCnt_len x.ends j3 c hc
                  have e4 := flat_fit cCnt_len hc
                  have hgn := getC_new hSk.f (by omega) hkx.f.nd hc
                  have hc1 : 1 ≤ c.n := hkx.f.lo (unC c) (List.mem_map.2 ⟨c, List.mem_of_getElem? hc, rfl⟩)
                  have hc2 : c.n ≤ 4503599627370496 := hkx.f.hi (unC c) (List.mem_map.2 ⟨c, List.mem_of_getElem? hc, rfl⟩)
                  have hsn := name_sz (hkx.en c (List.mem_of_getElem? hc))
                  refine nav ?_
                  (refine aC_region ?_
                    <;> refine xL 77 (q_idxN tSl25_LeM) ?_
                    <;> (refine yL 78 (q_lda tAgg44_LeM) fun v78 hv78 => ?_; cases hv78)
                    <;> refine s_alloc [(.string ByteArray.empty), (.int .i64 0)] 2 14 tZr44_LeM fun h14 => ?_
                    <;> refine s_sta 14 tAgg44_LeM ?_
                    <;> refine aL_end (nav ?_) <;> try dsimp only)
                  (refine aC_draw (fun i => ([10] : List Nat).elem i) [14, 27, 303] (by kernel_rfl) ?_
                    <;> refine xD 0 79 rfl q_move ?_
                    <;> refine xD 1 80 rfl (q_nilo 27) ?_
                    <;> refine xD 2 81 rfl (q_fldo 27 tFl96_2_LeM) ?_
                    <;> (refine yD 3 82 rfl (q_ldo 27 tNa93_LeM) fun v82 hv82 => ?_; cases hv82)
                    <;> refine xD 4 83 rfl (q_fldo 14 tFl44_0_LeM) ?_
                    <;> (refine yD 5 84 rfl (q_ldo 14 tNa9_LeM) fun v84 hv84 => ?_; cases hv84)
                    <;> refine xD 6 85 rfl (q_lookoE 303 tMp93_LeM (hk := kok_skv _ _) (hu := mget_i _ _)) ?_
                    <;> refine xE 7 86 rfl (q_fldo 14 tFl44_1_LeM) ?_
                    <;> (refine yE 8 87 rfl (q_ldo 14 tNa3_LeM) fun v87 hv87 => ?_; cases hv87)
                    <;> refine xE 9 88 rfl q_add ?_
                    <;> (refine aD_one 10 (by kernel_rfl) ?_)
                    <;> (refine aW_last rfl rfl (by kernel_rfl) fun DQ back => ?_)
                    <;> refine s_mput 303 tMp93_LeM ?_
                    <;> refine aL_end (back _ (nav ?_))
                    <;> try dsimp only)
                  rw [mput_i, ← addsC_step hc]
                  (refine aC_region ?_
                    <;> refine xL 89 q_add ?_
                    <;> refine xL 75 q_move ?_
                    <;> refine aL_end (nav ?_) <;> try dsimp only)
                  refine aN_again (
                    ⟨j3 + 1, lt_of_get hc⟩
                    ) (by dsimp only; omega) ⟨rfl, rfl, rfl, rfl, rfl, rfl, rfl, rfl, rfl, trivial⟩ ⟨rfl, rfl, rfl, rfl, rfl, rfl, rfl, trivial⟩)
               · first
                 | exact Bool.noConfusion hb76
                 | (
                  obtain rfl : j3 = x.ends.length := by omega
                  rw [List.take_length]
                  refine nav ?_
                  (refine aC_region ?_
                    <;> refine xL 90 (q_fldo 8 tFl28_3_LeM) ?_
                    <;> (refine yL 91 (q_ldo 8 tNa26_LeM) fun v91 hv91 => ?_; cases hv91)
                    <;> refine xL 92 (q_len tSl26_LeM) ?_
                    <;> refine xL 93 q_move ?_
                    <;> refine aL_end (nav ?_) <;> try dsimp only)
                  refine aC_loop (ι := { j : Nat // j ≤ x.follows.length }) (fun k => ⟨[(4, _, _), (6, _, _), (8, _, _), (30, _, _), (31, _, _), (32, _, _), (91, _, _), (92, _, _), (93, .int .i64 k.1, pInt k.1)], [(4, _, _), (8, _, _), (27, _, _), (301, _, _), (302, _, _), (303, _, _), (304, m4, .omap (akv (ivals (addsK st.q ((x.follows.take k.1).map unF)))))]⟩) (fun k => x.follows.length - k.1) ⟨0, Nat.zero_le _⟩ (fun a w H => H.weaken ⟨rfl, rfl, rfl, rfl, rfl, rfl, rfl, rfl, rfl, trivial⟩ ⟨rfl, rfl, rfl, rfl, rfl, rfl, rfl, trivial⟩) ?_
                  rintro ⟨j4, hj4⟩
                  dsimp only
                  refine nav ?_
                  (refine aC_region ?_
                    <;> refine xL 94 q_lss ?_
                    <;> refine aL_end (nav ?_) <;> try dsimp only)
                  first | refine cCd (fun hb94 => ?_) (fun hb94 => ?_) | refine cC (fun hb94 => ?_) (fun hb94 => ?_)
                  · first
                    | exact Bool.noConfusion hb94
                    | (
                     obtain ⟨c, hc⟩ := get_some (show j4 < x.follows.length by omega)
                     have e3 := flat_drop cFlw_len x.follows j4 c hc
                     have e4 := flat_fit cFlw_len hc
                     have hgn := getF_new hSk.q (by omega) hkx.q.nd hc
                     have hc1 : 1 ≤ c.n := hkx.q.lo (unF c) (List.mem_map.2 ⟨c, List.mem_of_getElem? hc, rfl⟩)
                     have hc2 : c.n ≤ 4503599627370496 := hkx.q.hi (unF c) (List.mem_map.2 ⟨c, List.mem_of_getElem? hc, rfl⟩)
                     have hqn := hkx.qn c (List.mem_of_getElem? hc)
                     have hsn1 := name_sz hqn.1
                     have hsn2 := name_sz hqn.2
                     have hpr := prOk_of hxo (List.mem_of_getElem? hc)
                     have hQk := ivals_all (addsK_keys (p := prOk) hSk.pk fun y hy => unF_pr hxo y (by rw [List.map_take] at hy; exact List.mem_of_mem_take hy) : ∀ y ∈ addsK st.q ((x.follows.take j4).map unF), prOk y.1)
                     have hQn : ((ivals (addsK st.q ((x.follows.take j4).map unF))).map (·.1)).Nodup := by rw [ivals_keys]; exact addsK_nd hSk.q.nd
                     have hQg := aget_ivals (addsK st.q ((x.follows.take j4).map unF)) (c.src, c.dst)
                     refine nav ?_
                     (refine aC_region ?_
                       <;> refine xL 95 (q_idxN tSl26_LeM) ?_
                       <;> (refine yL 96 (q_lda tAgg47_LeM) fun v96 hv96 => ?_; cases hv96)
                       <;> refine s_alloc [(.string ByteArray.empty), (.string ByteArray.empty), (.int .i64 0)] 3 16 tZr47_LeM fun h16 => ?_
                       <;> refine s_sta 16 tAgg47_LeM ?_
                       <;> refine aL_end (nav ?_) <;> try dsimp only)
                     (refine aC_draw (fun i => ([15] : List Nat).elem i) [16, 27] (by kernel_rfl) ?_
                       <;> refine xD 0 97 rfl q_move ?_
                       <;> refine xD 1 98 rfl (q_nilo 27) ?_
                       <;> refine xD 2 99 rfl (q_fldo 27 tFl96_3_LeM) ?_
                       <;> (refine yD 3 100 rfl (q_ldo 27 tNa94_LeM) fun v100 hv100 => ?_; cases hv100)
                       <;> refine xD 4 101 rfl (q_fldo 16 tFl47_0_LeM) ?_
                       <;> (refine yD 5 102 rfl (q_ldo 16 tNa9_LeM) fun v102 hv102 => ?_; cases hv102)
                       <;> refine xD 6 103 rfl (q_fldo 16 tFl47_1_LeM) ?_
                       <;> (refine yD 7 104 rfl (q_ldo 16 tNa9_LeM) fun v104 hv104 => ?_; cases hv104)
                       <;> refine xD 8 105 rfl (q_build2 tAr97_LeM tZr97_LeM) ?_
                       <;> refine xD 10 107 rfl (q_fldo 16 tFl47_2_LeM) ?_
                       <;> (refine yD 11 108 rfl (q_ldo 16 tNa3_LeM) fun v108 hv108 => ?_; cases hv108)
                       <;> (refine aD_two 9 13 (by kernel_rfl) ?_ ?_; rotate_right; (focus ((refine aW_run rfl fun w9 M9 N9 DQ back => ?_) <;> (refine aL_mentryP 304 110 (k := (c.src, c.dst)) tPk94_LeM hQk hQn hpr (fun b110 c110 n110 es110 hm110 hw110 he110 hj110 => ?_); subst hm110) <;> refine aL_end (back _ (nrm ?_)) <;> refine xD 14 111 rfl q_extract ?_ <;> (refine aD_one 9 (by kernel_rfl) ?_) <;> (refine aW_run rfl fun w9 M9 N9 DQ back => ?_) <;> (first | refine xL 106 (q_lookP 304 (k := (c.src, c.dst)) (u := .int .i64 (iget (addsK st.q ((x.follows.take j4).map unF)) (c.src, c.dst))) tPk94_LeM hQk hQn hpr hQg) ?_ | refine xL 106 (q_lookPB 304 (k := (c.src, c.dst)) (u := .int .i64 (iget (addsK st.q ((x.follows.take j4).map unF)) (c.src, c.dst))) tPk94_LeM he110 (aput_all hQk hpr) (aput_nodup hQn) hpr (by rw [aget_aput]; exact hQg)) ?_) <;> refine aL_end (back _ (nrm ?_)) <;> refine xE 12 109 rfl q_add ?_ <;> (refine aD_one 15 (by kernel_rfl) ?_) <;> (refine aW_last rfl rfl (by kernel_rfl) fun DQ back => ?_) <;> (refine aL_estoreP 304 hw110 he110 (aput_nodup hQn) hj110 ?_; rw [aput_aput, aput_ivals]) <;> refine aL_end (back _ (nav ?_)))); rotate_right; (focus ((refine aW_run rfl fun w9 M9 N9 DQ back => ?_) <;> (first | refine xL 106 (q_lookP 304 (k := (c.src, c.dst)) (u := .int .i64 (iget (addsK st.q ((x.follows.take j4).map unF)) (c.src, c.dst))) tPk94_LeM hQk hQn hpr hQg) ?_ | refine xL 106 (q_lookPB 304 (k := (c.src, c.dst)) (u := .int .i64 (iget (addsK st.q ((x.follows.take j4).map unF)) (c.src, c.dst))) tPk94_LeM he110 (aput_all hQk hpr) (aput_nodup hQn) hpr (by rw [aget_aput]; exact hQg)) ?_) <;> refine aL_end (back _ (nrm ?_)) <;> refine xD 12 109 rfl q_add ?_ <;> (refine aD_one 13 (by kernel_rfl) ?_) <;> (refine aW_run rfl fun w9 M9 N9 DQ back => ?_) <;> (refine aL_mentryP 304 110 (k := (c.src, c.dst)) tPk94_LeM hQk hQn hpr (fun b110 c110 n110 es110 hm110 hw110 he110 hj110 => ?_); subst hm110) <;> refine aL_end (back _ (nrm ?_)) <;> refine xE 14 111 rfl q_extract ?_ <;> (refine aD_one 15 (by kernel_rfl) ?_) <;> (refine aW_last rfl rfl (by kernel_rfl) fun DQ back => ?_) <;> (refine aL_estoreP 304 hw110 he110 (aput_nodup hQn) hj110 ?_; rw [aput_aput, aput_ivals]) <;> refine aL_end (back _ (nav ?_)))))
                       <;> try dsimp only) <;> (
                      (refine aC_region ?_
                        <;> refine xL 112 q_add ?_
                        <;> refine xL 93 q_move ?_
                        <;> refine aL_end (nav ?_) <;> try dsimp only)
                      rw [← addsF_step hc]
                      refine aN_again (
                        ⟨j4 + 1, lt_of_get hc⟩
                        ) (by dsimp only; omega) ⟨rfl, rfl, rfl, rfl, rfl, rfl, rfl, rfl, rfl, trivial⟩ ⟨rfl, rfl, rfl, rfl, rfl, rfl, rfl, trivial⟩))
                  · first
                    | exact Bool.noConfusion hb94
                    | (
                     obtain rfl : j4 = x.follows.length := by omega
                     rw [List.take_length]
                     refine nav ?_
                     (refine aC_region ?_
                       <;> refine xL 113 q_add ?_
                       <;> refine xL 32 q_move ?_
                       <;> refine aL_end (nav ?_) <;> try dsimp only)
                     rw [show addsK st.a (x.acts.map unC) = (stG [a, b] (k + 1)).a by rw [hnx]; rfl]
                     rw [show addsK st.s (x.starts.map unC) = (stG [a, b] (k + 1)).s by rw [hnx]; rfl]
                     rw [show addsK st.f (x.ends.map unC) = (stG [a, b] (k + 1)).f by rw [hnx]; rfl]
                     rw [show addsK st.q (x.follows.map unF) = (stG [a, b] (k + 1)).q by rw [hnx]; rfl]
                     refine aN_again (
                       ⟨k + 1, by omega⟩
                       ) (by dsimp only; omega) ⟨rfl, rfl, rfl, rfl, rfl, trivial⟩ ⟨rfl, rfl, rfl, rfl, rfl, rfl, trivial⟩)))))
      · first
        | exact Bool.noConfusion hb33
        | (
         obtain rfl : k = 2 := by omega
         have hst2 : st = sumM a b := hst
         clear hst
         subst hst2
         have sl1 := hSk.la
         have sl2 := hSk.ls
         have sl3 := hSk.lf
         have sl4 := hSk.lq
         refine nav ?_
         (refine aC_region ?_
           <;> refine xL 114 q_move ?_
           <;> refine xL 115 (q_nilo 27) ?_
           <;> refine xL 116 (q_fldo 27 tFl96_0_LeM) ?_
           <;> (refine yL 117 (q_ldo 27 tNa93_LeM) fun v117 hv117 => ?_; cases hv117)
           <;> refine xL 118 (q_mleno 301 Tryz.underlying93) ?_
           <;> refine xL 119 q_gtr ?_
           <;> refine aL_end (nav ?_) <;> try dsimp only)
         first | refine cCd (fun hb119 => ?_) (fun hb119 => ?_) | refine cC (fun hb119 => ?_) (fun hb119 => ?_)
         · first
           | exact Bool.noConfusion hb119
           | (
            refine nav ?_
            (refine aC_region ?_
              <;> refine xL 120 (q_build tSt28_LeM) ?_
              <;> refine s_sta 4 tAgg28_LeM ?_
              <;> refine xL 5 q_assign ?_
              <;> refine aL_end (nav ?_) <;> try dsimp only)
            exact ret_cs (k := 4) 4 (by kernel_rfl) (Tryz.results27) rfl rfl rfl (Nat.le_of_ble_eq_true rfl) (by decide) rfl (.inr (.inl ⟨hA, hB, by unfold skv ivals at hb119; simp only [List.length_map] at hb119; omega, rfl⟩)))
         · first
           | exact Bool.noConfusion hb119
           | (
            refine nav ?_
            have h40 : (sumM a b).a.length ≤ 40 := by unfold skv ivals at hb119; simp only [List.length_map] at hb119; omega
            refine aC_ent (fold (l := 27) (l' := 301) (j := 0) rfl rfl rfl rfl) fun _ => ?_
            refine aC_ent (fold (l := 27) (l' := 302) (j := 1) rfl rfl rfl rfl) fun _ => ?_
            refine aC_ent (fold (l := 27) (l' := 303) (j := 2) rfl rfl rfl rfl) fun _ => ?_
            refine aC_ent (fold (l := 27) (l' := 304) (j := 3) rfl rfl rfl rfl) fun _ => ?_
            refine aC_ent (freezeP (l := 27) (t := 6) (j := 0) rfl Nat.one_pos rfl) fun _ => ?_
            dsimp only [shares, share, List.set]
            (refine aC_region ?_
              <;> refine xL 121 q_move ?_
              <;> (refine cDx 122 (cA Tryz.call49 ((dGraphL_e (sumM a b) hSk.a.nd hSk.s.nd hSk.f.nd hSk.q.nd (by omega) (by omega) (by omega) (by omega)).mono (R' := fun p => ∃ i : { g // SameG g (sumM a b) }, p = pDfg i.1) fun p ⟨g, h1, h2⟩ => ⟨⟨g, h1⟩, h2⟩)) (fun i v122 hv122 => ?_) (fun _ => rfl); obtain ⟨g, hg⟩ := i; dsimp only [pDfg]; obtain ⟨q1, q2, q3, q4, q5⟩ := sum_fit hSk (by omega) (by omega) hszs.1 hszs.2.1 hszs.2.2.1 hszs.2.2.2 hg)
              <;> refine s_alloc [(.slice none 0 0), (.slice none 0 0), (.slice none 0 0), (.slice none 0 0)] 4 17 tZr28_LeM fun h17 => ?_
              <;> refine s_sta 17 tAgg28_LeM ?_
              <;> refine aL_end (nav ?_) <;> try dsimp only)
            (refine aC_region ?_
              <;> (refine yL 123 (q_ldao 17 tAgg28_LeM) fun v123 hv123 => ?_; cases hv123)
              <;> (refine cS 124 (cA Tryz.call16 (dValid_e g q1 q2 q3 q4)) fun v124 hv124 => ?_; cases hv124)
              <;> refine xL 125 q_not ?_
              <;> refine aL_end (nav ?_) <;> try dsimp only)
            first | refine cCd (fun hb125 => ?_) (fun hb125 => ?_) | refine cC (fun hb125 => ?_) (fun hb125 => ?_)
            · first
              | exact Bool.noConfusion hb125
              | (
               refine nav ?_
               (refine aC_region ?_
                 <;> refine xL 126 (q_build tSt28_LeM) ?_
                 <;> refine s_sta 4 tAgg28_LeM ?_
                 <;> refine xL 5 q_assign ?_
                 <;> refine aL_end (nav ?_) <;> try dsimp only)
               exact ret_cs (k := 4) 4 (by kernel_rfl) (Tryz.results27) rfl rfl rfl (Nat.le_of_ble_eq_true rfl) (by decide) rfl (.inr (.inr ⟨hA, hB, h40, g, hg, .inl ⟨by simpa using hb125, rfl⟩⟩)))
            · first
              | exact Bool.noConfusion hb125
              | (
               refine nav ?_
               (refine aC_region ?_
                 <;> (refine yL 127 (q_ldao 17 tAgg28_LeM) fun v127 hv127 => ?_; cases hv127)
                 <;> refine s_sta 4 tAgg28_LeM ?_
                 <;> refine xL 5 q_assign ?_
                 <;> refine aL_end (nav ?_) <;> try dsimp only)
               exact ret_cs (k := 4) 4 (by kernel_rfl) (Tryz.results27) rfl rfl rfl (Nat.le_of_ble_eq_true rfl) (by decide) rfl (.inr (.inr ⟨hA, hB, h40, g, hg, .inr ⟨by simpa using hb125, rfl⟩⟩)))))))
end Go.Proofs.YtebcjijpdhbcdaaGreat
