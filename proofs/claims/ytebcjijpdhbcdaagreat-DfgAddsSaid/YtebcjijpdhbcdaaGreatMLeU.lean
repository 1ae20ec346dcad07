/-
  'casebooklaw17.DfgAdds' returns true for every two lists of variants, and changes nothing that was handed to it.
-/
import Derived.Test.YtebcjijpdhbcdaaGreatRows
import Derived.Test.YtebcjijpdhbcdaaGreatLn
import Derived.Test.YtebcjijpdhbcdaaGreatMLeT
import Derived.Test.YtebcjijpdhbcdaaGreatLp
namespace Go.Proofs.YtebcjijpdhbcdaaGreat
open Go.RowKit Go.Cb Go.En Go.ChangeShapes Go.WideShapes Go.ChangeAt
set_option linter.all false
set_option maxRecDepth 100000

theorem tAgg28_LeU : AggT Tryz.prog 28 4 = true := by kernel_rfl
theorem tAgg60_LeU : AggT Tryz.prog 60 2 = true := by kernel_rfl
theorem tFl60_0_LeU : FldT Tryz.prog 60 0 0 = true := by kernel_rfl
theorem tFl60_1_LeU : FldT Tryz.prog 60 1 1 = true := by kernel_rfl
theorem tNa3_LeU : NoAgg Tryz.prog 3 = true := by kernel_rfl
theorem tNa51_LeU : NoAgg Tryz.prog 51 = true := by kernel_rfl
theorem tSl22_LeU : SlT Tryz.prog 22 60 2 = true := by kernel_rfl
theorem tZr28_LeU : ZeroT Tryz.prog 28 (.agg #[(.slice none 0 0), (.slice none 0 0), (.slice none 0 0), (.slice none 0 0)]) := by unfold ZeroT; kernel_rfl
theorem tZr60_LeU : ZeroT Tryz.prog 60 (.agg #[(.slice none 0 0), (.int .i64 0)]) := by unfold ZeroT; kernel_rfl

theorem bv_of {l : List Var} (hf : fitV l) (hv : validVars l = true) (hm : manyB l = false) : BV l 12 1048576 := by
  refine ⟨?_, fun x hx => ⟨(hf.2 x hx).1, ?_⟩⟩
  · unfold manyB at hm
    rw [Bool.or_eq_false_iff, decide_eq_false_iff_not] at hm
    omega
  · have h := okVars hv x hx
    unfold okVar at h
    simp only [Bool.and_eq_true, decide_eq_true_eq] at h
    exact ⟨h.1.2, h.2⟩
theorem bv_adds {l m : List Var} (hl : BV l 12 1048576) (hm : BV m 12 1048576) : ∀ k, k ≤ m.length → BV (addsV l (m.take k)) (12 + k) (1048576 + (k : Nat) * 1048576)
  | 0, _ => by
    rw [List.take_zero]
    exact ⟨hl.1, fun x hx => by have := hl.2 x hx; exact ⟨this.1, this.2.1, by omega⟩⟩
  | k + 1, hk => by
    obtain ⟨x, hx⟩ := get_some (show k < m.length by omega)
    have h := hm.2 x (List.mem_of_getElem? hx)
    have ih := bv_adds hl hm k (by omega)
    rw [addsV_snoc hx]
    have := BV.add h.1 h.2.1 h.2.2 (by omega) ih
    refine ⟨this.1, fun y hy => ?_⟩
    have := this.2 y hy
    exact ⟨this.1, this.2.1, by omega⟩
set_option maxHeartbeats 2000000 in
theorem dfgAdds_e (l m : List Var) (hf : fitV l) (hg : fitV m) : AF Tryz.prog 8 [pVars l, pVars m] (· = pBool true) := by
  obtain ⟨ga, ea, ma⟩ := made_ex l
  obtain ⟨gb, eb, mb⟩ := made_ex m
  obtain ⟨gc, ec, mc⟩ := made_ex (addsV l m)
  have hA := made_af (dMake_e l hf) ma
  have hB := made_af (dMake_e m hg) mb
  have hl1 := made_len ma
  have hl2 := made_len mb
  have hl3 := made_len mc
  refine AF.of_body 103 Tryz.func8 rfl Tryz.ntmps8 (Nat.le_of_ble_eq_true rfl) ?_
  intro w0 M0 vs hl hv
  obtain ⟨v0, v1, rfl⟩ := len2 hl
  clear hl hv
  refine nav ?_
  (refine aC_region ?_
    <;> refine xL 4 q_assign ?_
    <;> refine aL_end (nav ?_) <;> try dsimp only)
  (refine aC_region ?_
    <;> (refine cS 18 (cA Tryz.call11 (awake17_e)) fun v18 hv18 => ?_; cases hv18)
    <;> refine xL 19 q_not ?_
    <;> refine aL_end (nav ?_) <;> try dsimp only)
  refine cCf ?_
  refine nav ?_
  (refine aC_region ?_
    <;> refine xL 20 q_move ?_
    <;> (refine cS 21 (cA Tryz.call12 (many17_e l)) fun v21 hv21 => ?_; cases hv21)
    <;> refine xL 22 q_move ?_
    <;> (refine bL 22 (fun hb22 => ?_) (fun hb22 => ?_) <;> (first | refine kL 23 ?_ | refine xL 23 q_move ?_))
    <;> (first | refine kL 24 ?_ | (refine cS 24 (cA Tryz.call12 (many17_e m)) fun v24 hv24 => ?_; cases hv24))
    <;> refine xL 25 q_pick ?_
    <;> refine xL 26 q_move ?_
    <;> (first | refine kL 27 ?_ | (refine bL 26 (fun hb26 => ?_) (fun hb26 => ?_) <;> (first | refine kL 27 ?_ | refine xL 27 q_move ?_)))
    <;> (first | refine kL 28 ?_ | (refine cS 28 (cA Tryz.call30 (rValidVariants_e l hf)) fun v28 hv28 => ?_; cases hv28))
    <;> (first | refine kL 29 ?_ | refine xL 29 q_not ?_)
    <;> refine xL 30 q_pick ?_
    <;> refine xL 31 q_move ?_
    <;> (first | refine kL 32 ?_ | (refine bL 31 (fun hb31 => ?_) (fun hb31 => ?_) <;> (first | refine kL 32 ?_ | refine xL 32 q_move ?_)))
    <;> (first | refine kL 33 ?_ | (refine cS 33 (cA Tryz.call30 (rValidVariants_e m hg)) fun v33 hv33 => ?_; cases hv33))
    <;> (first | refine kL 34 ?_ | refine xL 34 q_not ?_)
    <;> refine xL 35 q_pick ?_
    <;> refine aL_end (nav ?_) <;> try dsimp only) <;> (
   first | refine cCd (fun hb35 => ?_) (fun hb35 => ?_) | refine cC (fun hb35 => ?_) (fun hb35 => ?_)
   · first
     | exact Bool.noConfusion hb35
     | (
      refine nav ?_
      (refine aC_region ?_
        <;> refine xL 4 q_assign ?_
        <;> refine aL_end (nav ?_) <;> try dsimp only)
      exact ret_shr Tryz.results8 rfl rfl)
   · first
     | exact Bool.noConfusion hb35
     | (
      have h1 : manyB l = false := by cases h : manyB l <;> simp_all
      have h2 : manyB m = false := by cases h : manyB m <;> simp_all
      have h3 : validVars l = true := by cases h : validVars l <;> simp_all
      have h4 : validVars m = true := by cases h : validVars m <;> simp_all
      have b1 := bv_of hf h3 h1
      have b2 := bv_of hg h4 h2
      have b3 := bv_adds b1 b2
      have hm12 := b2.1
      have b4 := b3 m.length (Nat.le_refl _)
      rw [List.take_length] at b4
      have hfc : fitV (addsV l m) := ⟨by have := b4.1; omega, fun x hx => by have := b4.2 x hx; exact ⟨this.1, by omega, by omega⟩⟩
      have hC := made_af (dMake_e (addsV l m) hfc) mc
      refine nav ?_
      (refine aC_region ?_
        <;> refine xL 36 q_move ?_
        <;> refine xL 5 q_assign ?_
        <;> refine aL_end (nav ?_) <;> try dsimp only)
      (refine aC_region ?_
        <;> refine xL 37 q_move ?_
        <;> refine xL 38 (q_len tSl22_LeU) ?_
        <;> refine xL 39 q_move ?_
        <;> refine aL_end (nav ?_) <;> try dsimp only)
      refine aC_loop (ι := { q : Nat × Value // q.1 ≤ m.length }) (fun k => ⟨[(0, _, _), (1, _, _), (37, _, _), (38, _, _), (5, k.1.2, pVars (addsV l (m.take k.1.1))), (39, .int .i64 k.1.1, pInt k.1.1)], []⟩) (fun k => m.length - k.1.1) ⟨(0, v0), Nat.zero_le _⟩ (fun a w H => H.weaken ⟨rfl, rfl, rfl, rfl, rfl, rfl, trivial⟩ trivial) ?_
      rintro ⟨⟨k, v⟩, hk⟩
      dsimp only
      dsimp only at hk
      have bk := b3 k hk
      refine nav ?_
      (refine aC_region ?_
        <;> refine xL 40 q_lss ?_
        <;> refine aL_end (nav ?_) <;> try dsimp only)
      first | refine cCd (fun hb40 => ?_) (fun hb40 => ?_) | refine cC (fun hb40 => ?_) (fun hb40 => ?_)
      · first
        | exact Bool.noConfusion hb40
        | (
         obtain ⟨x, hx⟩ := get_some (show k < m.length by omega)
         have e3 := flat_drop cVar_len m k x hx
         have e4 := flat_fit cVar_len hx
         have hxb := b2.2 x (List.mem_of_getElem? hx)
         refine nav ?_
         (refine aC_region ?_
           <;> refine xL 41 (q_idxN tSl22_LeU) ?_
           <;> (refine yL 42 (q_lda tAgg60_LeU) fun v42 hv42 => ?_; cases hv42)
           <;> refine s_alloc [(.slice none 0 0), (.int .i64 0)] 2 7 tZr60_LeU fun h7 => ?_
           <;> refine s_sta 7 tAgg60_LeU ?_
           <;> refine aL_end (nav ?_) <;> try dsimp only)
         (refine aC_region ?_
           <;> refine xL 43 q_move ?_
           <;> refine xL 44 (q_fldo 7 tFl60_0_LeU) ?_
           <;> (refine yL 45 (q_ldo 7 tNa51_LeU) fun v45 hv45 => ?_; cases hv45)
           <;> refine xL 46 (q_fldo 7 tFl60_1_LeU) ?_
           <;> (refine yL 47 (q_ldo 7 tNa3_LeU) fun v47 hv47 => ?_; cases hv47)
           <;> (refine cO 48 (cA Tryz.call31 (r12Add_e (addsV l (m.take k)) x.acts x.count (by have := bk.1; omega) (fun c hc => by have := bk.2 c hc; omega))) fun v48 ho48 => ?_; refine aL_ent (En.freeze (l := 48) (t := 48) rfl rfl) fun _ => ?_; rw [share_vars _ _ _ rfl])
           <;> refine xL 5 q_assign ?_
           <;> refine aL_end (nav ?_) <;> try dsimp only)
         (refine aC_region ?_
           <;> refine xL 49 q_add ?_
           <;> refine xL 39 q_move ?_
           <;> refine aL_end (nav ?_) <;> try dsimp only)
         rw [← addsV_snoc hx]
         refine aN_again (
           ⟨(k + 1, v48), lt_of_get hx⟩
           ) (by dsimp only; omega) ⟨rfl, rfl, rfl, rfl, rfl, rfl, trivial⟩ trivial)
      · first
        | exact Bool.noConfusion hb40
        | (
         obtain rfl : k = m.length := by omega
         rw [List.take_length]
         refine nav ?_
         (refine aC_region ?_
           <;> refine xL 51 q_move ?_
           <;> (refine cP 52 (cA Tryz.call13 (hA)) fun va52 vb52 hva52 hvb52 => ?_; cases hvb52)
           <;> refine xL 50 q_move ?_
           <;> refine xL 53 q_extract ?_
           <;> refine xL 54 q_extract ?_
           <;> refine s_alloc [(.slice none 0 0), (.slice none 0 0), (.slice none 0 0), (.slice none 0 0)] 4 8 tZr28_LeU fun h8 => ?_
           <;> refine s_sta 8 tAgg28_LeU ?_
           <;> refine xL 9 q_assign ?_
           <;> refine aL_end (nav ?_) <;> try dsimp only)
         (refine aC_region ?_
           <;> refine xL 56 q_move ?_
           <;> (refine cP 57 (cA Tryz.call13 (hB)) fun va57 vb57 hva57 hvb57 => ?_; cases hvb57)
           <;> refine xL 55 q_move ?_
           <;> refine xL 58 q_extract ?_
           <;> refine xL 59 q_extract ?_
           <;> refine s_alloc [(.slice none 0 0), (.slice none 0 0), (.slice none 0 0), (.slice none 0 0)] 4 10 tZr28_LeU fun h10 => ?_
           <;> refine s_sta 10 tAgg28_LeU ?_
           <;> refine xL 11 q_assign ?_
           <;> refine aL_end (nav ?_) <;> try dsimp only)
         (refine aC_region ?_
           <;> refine xL 61 q_move ?_
           <;> (refine cP 62 (cA Tryz.call13 (hC)) fun va62 vb62 hva62 hvb62 => ?_; cases hvb62)
           <;> refine xL 60 q_move ?_
           <;> refine xL 63 q_extract ?_
           <;> refine xL 64 q_extract ?_
           <;> refine s_alloc [(.slice none 0 0), (.slice none 0 0), (.slice none 0 0), (.slice none 0 0)] 4 12 tZr28_LeU fun h12 => ?_
           <;> refine s_sta 12 tAgg28_LeU ?_
           <;> refine xL 13 q_assign ?_
           <;> refine aL_end (nav ?_) <;> try dsimp only)
         (refine aC_region ?_
           <;> refine xL 65 q_move ?_
           <;> refine xL 66 q_neq ?_
           <;> refine xL 67 q_move ?_
           <;> (refine bLd 67 (fun hb67 => ?_) (fun hb67 => ?_) <;> (first | refine kL 68 ?_ | refine xL 68 q_move ?_))
           <;> (first | refine kL 69 ?_ | refine xL 69 q_neq ?_)
           <;> refine xL 70 q_pick ?_
           <;> refine xL 71 q_move ?_
           <;> (first | refine kL 72 ?_ | (refine bLd 71 (fun hb71 => ?_) (fun hb71 => ?_) <;> (first | refine kL 72 ?_ | refine xL 72 q_move ?_)))
           <;> (first | refine kL 73 ?_ | refine xL 73 q_neq ?_)
           <;> refine xL 74 q_pick ?_
           <;> refine aL_end (nav ?_) <;> try dsimp only) <;> (
          first | refine cCd (fun hb74 => ?_) (fun hb74 => ?_) | refine cC (fun hb74 => ?_) (fun hb74 => ?_)
          · first
            | exact Bool.noConfusion hb74
            | (
             refine nav ?_
             (refine aC_region ?_
               <;> refine xL 4 q_assign ?_
               <;> refine aL_end (nav ?_) <;> try dsimp only)
             exact ret_shr Tryz.results8 rfl rfl)
          · first
            | exact Bool.noConfusion hb74
            | (
             have z1 : ea = 0 := by simp_all
             have z2 : eb = 0 := by simp_all
             have z3 : ec = 0 := by simp_all
             subst z1; subst z2; subst z3
             obtain ⟨oa, _, sa⟩ := made_gok ma
             obtain ⟨ob, _, sb⟩ := made_gok mb
             obtain ⟨oc, _, sc⟩ := made_gok mc
             have hw : ∀ f, wtV f (addsV l m) = wtV f l + wtV f m := fun f => wtV_addsV (fun _ _ => cmpStrs_zero.1) f m l
             have s1 := adds_same hw sa sb sc oa ob oc
             have s2 := adds_same (fun f => (hw f).trans (Int.add_comm _ _)) sb sa sc ob oa oc
             obtain ⟨f1, f2, f3, f4, f5⟩ := dfg_fit oa
             obtain ⟨t1, t2, t3, t4, t5⟩ := dfg_fit ob
             have hX := sum_af (dSum_e ga gb f1 t1 f2 f3 f4 t2 t3 t4) (adds_res oa ob oc s1)
             have hY := sum_af (dSum_e gb ga t1 f1 t2 t3 t4 f2 f3 f4) (adds_res ob oa oc s2)
             refine nav ?_
             (refine aC_region ?_
               <;> (refine yL 76 (q_ldao 8 tAgg28_LeU) fun v76 hv76 => ?_; cases hv76)
               <;> (refine yL 77 (q_ldao 10 tAgg28_LeU) fun v77 hv77 => ?_; cases hv77)
               <;> (refine cP 78 (cA Tryz.call27 (hX)) fun va78 vb78 hva78 hvb78 => ?_; cases hvb78)
               <;> refine xL 75 q_move ?_
               <;> refine xL 79 q_extract ?_
               <;> refine xL 80 q_extract ?_
               <;> refine s_alloc [(.slice none 0 0), (.slice none 0 0), (.slice none 0 0), (.slice none 0 0)] 4 14 tZr28_LeU fun h14 => ?_
               <;> refine s_sta 14 tAgg28_LeU ?_
               <;> refine xL 15 q_assign ?_
               <;> refine aL_end (nav ?_) <;> try dsimp only)
             (refine aC_region ?_
               <;> (refine yL 82 (q_ldao 10 tAgg28_LeU) fun v82 hv82 => ?_; cases hv82)
               <;> (refine yL 83 (q_ldao 8 tAgg28_LeU) fun v83 hv83 => ?_; cases hv83)
               <;> (refine cP 84 (cA Tryz.call27 (hY)) fun va84 vb84 hva84 hvb84 => ?_; cases hvb84)
               <;> refine xL 81 q_move ?_
               <;> refine xL 85 q_extract ?_
               <;> refine xL 86 q_extract ?_
               <;> refine s_alloc [(.slice none 0 0), (.slice none 0 0), (.slice none 0 0), (.slice none 0 0)] 4 16 tZr28_LeU fun h16 => ?_
               <;> refine s_sta 16 tAgg28_LeU ?_
               <;> refine xL 17 q_assign ?_
               <;> refine aL_end (nav ?_) <;> try dsimp only)
             (refine aC_region ?_
               <;> refine xL 87 q_move ?_
               <;> refine xL 88 q_eql ?_
               <;> refine xL 89 q_move ?_
               <;> refine xL 90 q_move ?_
               <;> refine xL 91 q_eql ?_
               <;> refine xL 92 q_pick ?_
               <;> refine xL 93 q_move ?_
               <;> (refine yL 94 (q_ldao 14 tAgg28_LeU) fun v94 hv94 => ?_; cases hv94)
               <;> (refine yL 95 (q_ldao 12 tAgg28_LeU) fun v95 hv95 => ?_; cases hv95)
               <;> (refine cS 96 (cA Tryz.call15 ((r17Same_e gc gc (by omega) (by omega)).mono (R' := (· = pBool true)) fun p hp => by rw [hp, dfgEq_self])) fun v96 hv96 => ?_; cases hv96)
               <;> refine xL 97 q_pick ?_
               <;> refine xL 98 q_move ?_
               <;> (refine yL 99 (q_ldao 16 tAgg28_LeU) fun v99 hv99 => ?_; cases hv99)
               <;> (refine yL 100 (q_ldao 12 tAgg28_LeU) fun v100 hv100 => ?_; cases hv100)
               <;> (refine cS 101 (cA Tryz.call15 ((r17Same_e gc gc (by omega) (by omega)).mono (R' := (· = pBool true)) fun p hp => by rw [hp, dfgEq_self])) fun v101 hv101 => ?_; cases hv101)
               <;> refine xL 102 q_pick ?_
               <;> refine xL 4 q_assign ?_
               <;> refine aL_end (nav ?_) <;> try dsimp only) <;> (
              first
                | exact ret_shr (Tryz.results8) rfl rfl
                | (refine ret_shr (Tryz.results8) rfl ?_; simp)))))))
theorem own : ownKnob Tryz.prog.godebug = none := by kernel_rfl
theorem laidOut : laidOutB Tryz.prog = true := by kernel_rfl
theorem lifted (os : Os) (started : os.Started) (H : Type) (enc : TypeId × Value → H) :
    ReturnsInHanded {} Tryz.checked os 8 .any (Rows.dfgAddsSpec.pre6 enc Tryz.prog Tryz.f8 Rows.dfgAddsRow.domain false) (Rows.dfgAddsSpec.post enc Tryz.prog Tryz.f8 false true false false) := by
  refine returnsInHanded_of_change_sized (C := Tryz.checked) own started (by kernel_rfl) Tryz.func8
    (ChangeSpec.witness6 (enc := enc) (C := Tryz.checked) false ⟨#[], #[(.slice none 0 0), (.slice none 0 0)], []⟩ 8 (by kernel_rfl) (by kernel_rfl) (by kernel_rfl) (by kernel_rfl)) ?_
  intro W base args ds gs before hval0 hW hcnd hsz _
  have hval : ∀ (j : Nat) t v, Tryz.f8.params[j]? = some t → args[j]? = some v → Value.okWide Tryz.prog W .any base t v := hval0
  have hW' := hW
  obtain ⟨p, q, hA0, hV, rfl, hfz, hnd⟩ := hW
  have hA : DataW.TrodAll enc Tryz.prog W 0 (fun _ => true) true Tryz.f8.params.toList args.toList ds p := hA0
  have hsz' : ∀ n ∈ DataW.weightsEach Tryz.prog (Tryz.f8.params.toList ++ Rows.dfgAddsSpec.plain.varTypes Tryz.prog) (ds ++ gs), n ≤ reachBytes := fun n hn => by
    have := List.all_eq_true.1 hsz n hn
    exact of_decide_eq_true this
  have hK := hA
  rw [Tryz.params8] at hA hval hsz'
  obtain ⟨v0, vs0, d0, ds0, p0, q0, hargs, rfl, rfl, h0, r0⟩ := trodAll_cons hA
  obtain ⟨v1, vs1, d1, ds1, p1, q1, rfl, rfl, rfl, h1, r1⟩ := trodAll_cons r0
  obtain ⟨rfl, rfl, rfl⟩ := trodAll_nil r1
  obtain rfl : args = #[v0, v1] := by cases args; simp_all
  obtain ⟨rfl, rfl⟩ := trodVars_none hV
  obtain ⟨xl, hxl, s0⟩ := arg1 dVars (by kernel_rfl) (hval 0 _ v0 rfl rfl) h0 (fun n hn => hsz' n (weightsEach_mem _ 0 rfl rfl hn))
  obtain ⟨xm, hxm, s1⟩ := arg1 dVars (by kernel_rfl) (hval 1 _ v1 rfl rfl) h1 (fun n hn => hsz' n (weightsEach_mem _ 1 rfl rfl hn))
  refine ((dfgAdds_e xl xm hxl hxm).law (vs := [v0, v1]) rfl (fun i v p hv hp => ?_)).mono fun e W' ⟨he, bel⟩ => ?_
  · match i with
    | 0 => simp at hv hp; subst hv hp; exact s0
    | 1 => simp at hv hp; subst hv hp; exact s1
    | i + 2 => simp at hv
  subst he
  exact ⟨_, rfl, _, _, _, [], _, [], hW', trodAll_mk1 (shut_bool Tryz.underlying4 _), trodAll_back laidOut bel (by kernel_rfl) hK, rfl, bel.frame _, fun h => by cases h⟩

theorem over : Rows.dfgAddsRow.holds Tryz.pinned (OpenSpec.ofChange Rows.dfgAddsSpec) :=
  OpenClaim.holds_of_wide 8 Tryz.f8 rfl rfl rfl rfl rfl rfl rfl ⟨rfl, rfl, rfl, rfl, rfl⟩ rfl rfl rfl rfl rfl (by kernel_rfl) Tryz.func8 (by kernel_rfl)
    (of_decide_eq_true (by kernel_rfl)) (by unfold Func.isWrapper; first | (rw [if_pos (by decide +kernel)]; kernel_rfl) | (rw [if_neg (by decide +kernel)]; exact ⟨rfl, rfl⟩))
    (fun os started H enc _ => lifted os started H enc)

theorem dfgAdds_holds : Rows.DfgAddsSaid := over
end Go.Proofs.YtebcjijpdhbcdaaGreat
