/-
  'casebooklaw17.DfgMakes' returns true for every list of variants, and changes nothing that was handed to it.
-/
import Derived.Test.YtebcjijpdhbcdaaGreatRows
import Derived.Test.YtebcjijpdhbcdaaGreatLn
namespace Go.Proofs.YtebcjijpdhbcdaaGreat
open Go.RowKit Go.Cb Go.En Go.ChangeShapes Go.WideShapes Go.ChangeAt
set_option linter.all false
set_option maxRecDepth 100000

theorem tAgg28_LeD : AggT Tryz.prog 28 4 = true := by kernel_rfl
theorem tZr28_LeD : ZeroT Tryz.prog 28 (.agg #[(.slice none 0 0), (.slice none 0 0), (.slice none 0 0), (.slice none 0 0)]) := by unfold ZeroT; kernel_rfl

set_option maxHeartbeats 2000000 in
theorem dfgMakes_e (l : List Var) (hf : fitV l) : AF Tryz.prog 3 [pVars l] (· = pBool true) := by
  obtain ⟨g, e, hm⟩ := made_ex l
  have hA := made_af (dMake_e l hf) hm
  have hB := made_af (r17Make_e l hf) hm
  have hl := made_len hm
  have hv0 : e = 0 → AF Tryz.prog 16 [pDfg g] (· = pBool true) := fun h0 => by
    subst h0
    obtain ⟨hok, _, _⟩ := made_gok hm
    obtain ⟨f1, f2, f3, f4, f5⟩ := dfg_fit hok
    exact (dValid_e g f1 f2 f3 f4).mono fun p hp => by rw [hp, hok]
  refine AF.of_body 37 Tryz.func3 rfl Tryz.ntmps3 (Nat.le_of_ble_eq_true rfl) ?_
  intro w0 M0 vs hl hv
  obtain ⟨v0, rfl⟩ := len1 hl
  clear hl hv
  refine nav ?_
  (refine aC_region ?_
    <;> refine xL 2 q_assign ?_
    <;> refine aL_end (nav ?_) <;> try dsimp only)
  (refine aC_region ?_
    <;> (refine cS 7 (cA Tryz.call11 (awake17_e)) fun v7 hv7 => ?_; cases hv7)
    <;> refine xL 8 q_not ?_
    <;> refine aL_end (nav ?_) <;> try dsimp only)
  refine cCf ?_
  refine nav ?_
  (refine aC_region ?_
    <;> refine xL 9 q_move ?_
    <;> (refine cS 10 (cA Tryz.call12 (many17_e l)) fun v10 hv10 => ?_; cases hv10)
    <;> refine aL_end (nav ?_) <;> try dsimp only)
  first | refine cCd (fun hb10 => ?_) (fun hb10 => ?_) | refine cC (fun hb10 => ?_) (fun hb10 => ?_)
  · first
    | exact Bool.noConfusion hb10
    | (
     refine nav ?_
     (refine aC_region ?_
       <;> refine xL 2 q_assign ?_
       <;> refine aL_end (nav ?_) <;> try dsimp only)
     exact ret_shr Tryz.results3 rfl rfl)
  · first
    | exact Bool.noConfusion hb10
    | (
     refine nav ?_
     (refine aC_region ?_
       <;> refine xL 12 q_move ?_
       <;> (refine cP 13 (cA Tryz.call13 (hA)) fun va13 vb13 hva13 hvb13 => ?_; cases hvb13)
       <;> refine xL 11 q_move ?_
       <;> refine xL 14 q_extract ?_
       <;> refine xL 15 q_extract ?_
       <;> refine s_alloc [(.slice none 0 0), (.slice none 0 0), (.slice none 0 0), (.slice none 0 0)] 4 3 tZr28_LeD fun h3 => ?_
       <;> refine s_sta 3 tAgg28_LeD ?_
       <;> refine xL 4 q_assign ?_
       <;> refine aL_end (nav ?_) <;> try dsimp only)
     (refine aC_region ?_
       <;> refine xL 17 q_move ?_
       <;> (refine cP 18 (cA Tryz.call14 (hB)) fun va18 vb18 hva18 hvb18 => ?_; cases hvb18)
       <;> refine xL 16 q_move ?_
       <;> refine xL 19 q_extract ?_
       <;> refine xL 20 q_extract ?_
       <;> refine s_alloc [(.slice none 0 0), (.slice none 0 0), (.slice none 0 0), (.slice none 0 0)] 4 5 tZr28_LeD fun h5 => ?_
       <;> refine s_sta 5 tAgg28_LeD ?_
       <;> refine xL 6 q_assign ?_
       <;> refine aL_end (nav ?_) <;> try dsimp only)
     (refine aC_region ?_
       <;> (refine yL 21 (q_ldao 3 tAgg28_LeD) fun v21 hv21 => ?_; cases hv21)
       <;> (refine yL 22 (q_ldao 5 tAgg28_LeD) fun v22 hv22 => ?_; cases hv22)
       <;> (refine cS 23 (cA Tryz.call15 ((r17Same_e g g (by omega) (by omega)).mono (R' := (· = pBool true)) fun p hp => by rw [hp, dfgEq_self])) fun v23 hv23 => ?_; cases hv23)
       <;> refine xL 24 q_move ?_
       <;> refine xL 25 q_move ?_
       <;> refine xL 26 q_move ?_
       <;> refine xL 27 q_eql ?_
       <;> refine xL 28 q_pick ?_
       <;> refine xL 29 q_move ?_
       <;> (refine bLd 29 (fun hb29 => ?_) (fun hb29 => ?_) <;> (first | refine kL 30 ?_ | refine xL 30 q_move ?_))
       <;> (first | refine kL 31 ?_ | refine xL 31 q_neq ?_)
       <;> (first | refine kL 32 ?_ | refine xL 32 q_move ?_)
       <;> (first | refine kL 33 ?_ | (refine bLd 32 (fun hb32 => ?_) (fun hb32 => ?_) <;> (first | refine kL 33 ?_ | (refine yL 33 (q_ldao 3 tAgg28_LeD) fun v33 hv33 => ?_; cases hv33))))
       <;> (first | refine kL 34 ?_ | (refine cS 34 (cA Tryz.call16 (hv0 (by simpa using hb32))) fun v34 hv34 => ?_; cases hv34))
       <;> (first | refine kL 35 ?_ | refine xL 35 q_pick ?_)
       <;> refine xL 36 q_pick ?_
       <;> refine xL 2 q_assign ?_
       <;> refine aL_end (nav ?_) <;> try dsimp only) <;> (
      first
        | exact absurd rfl hb29
        | exact ret_shr (Tryz.results3) rfl rfl))
theorem own : ownKnob Tryz.prog.godebug = none := by kernel_rfl
theorem laidOut : laidOutB Tryz.prog = true := by kernel_rfl
theorem lifted (os : Os) (started : os.Started) (H : Type) (enc : TypeId × Value → H) :
    ReturnsInHanded {} Tryz.checked os 3 .any (Rows.dfgMakesSpec.pre6 enc Tryz.prog Tryz.f3 Rows.dfgMakesRow.domain false) (Rows.dfgMakesSpec.post enc Tryz.prog Tryz.f3 false true false false) := by
  refine returnsInHanded_of_change_sized (C := Tryz.checked) own started (by kernel_rfl) Tryz.func3
    (ChangeSpec.witness6 (enc := enc) (C := Tryz.checked) false ⟨#[], #[(.slice none 0 0)], []⟩ 8 (by kernel_rfl) (by kernel_rfl) (by kernel_rfl) (by kernel_rfl)) ?_
  intro W base args ds gs before hval0 hW hcnd hsz _
  have hval : ∀ (j : Nat) t v, Tryz.f3.params[j]? = some t → args[j]? = some v → Value.okWide Tryz.prog W .any base t v := hval0
  have hW' := hW
  obtain ⟨p, q, hA0, hV, rfl, hfz, hnd⟩ := hW
  have hA : DataW.TrodAll enc Tryz.prog W 0 (fun _ => true) true Tryz.f3.params.toList args.toList ds p := hA0
  have hsz' : ∀ n ∈ DataW.weightsEach Tryz.prog (Tryz.f3.params.toList ++ Rows.dfgMakesSpec.plain.varTypes Tryz.prog) (ds ++ gs), n ≤ reachBytes := fun n hn => by
    have := List.all_eq_true.1 hsz n hn
    exact of_decide_eq_true this
  have hK := hA
  rw [Tryz.params3] at hA hval hsz'
  obtain ⟨v0, vs0, d0, ds0, p0, q0, hargs, rfl, rfl, h0, r0⟩ := trodAll_cons hA
  obtain ⟨rfl, rfl, rfl⟩ := trodAll_nil r0
  obtain rfl : args = #[v0] := by cases args; simp_all
  obtain ⟨rfl, rfl⟩ := trodVars_none hV
  obtain ⟨xl, hxl, s0⟩ := arg1 dVars (by kernel_rfl) (hval 0 _ v0 rfl rfl) h0 (fun n hn => hsz' n (weightsEach_mem _ 0 rfl rfl hn))
  refine ((dfgMakes_e xl hxl).law (vs := [v0]) rfl (fun i v p hv hp => ?_)).mono fun e W' ⟨he, bel⟩ => ?_
  · match i with
    | 0 => simp at hv hp; subst hv hp; exact s0
    | i + 1 => simp at hv
  subst he
  exact ⟨_, rfl, _, _, _, [], _, [], hW', trodAll_mk1 (shut_bool Tryz.underlying4 _), trodAll_back laidOut bel (by kernel_rfl) hK, rfl, bel.frame _, fun h => by cases h⟩

theorem over : Rows.dfgMakesRow.holds Tryz.pinned (OpenSpec.ofChange Rows.dfgMakesSpec) :=
  OpenClaim.holds_of_wide 3 Tryz.f3 rfl rfl rfl rfl rfl rfl rfl ⟨rfl, rfl, rfl, rfl, rfl⟩ rfl rfl rfl rfl rfl (by kernel_rfl) Tryz.func3 (by kernel_rfl)
    (of_decide_eq_true (by kernel_rfl)) (by unfold Func.isWrapper; first | (rw [if_pos (by decide +kernel)]; kernel_rfl) | (rw [if_neg (by decide +kernel)]; exact ⟨rfl, rfl⟩))
    (fun os started H enc _ => lifted os started H enc)

theorem dfgMakes_holds : Rows.DfgMakesSaid := over
end Go.Proofs.YtebcjijpdhbcdaaGreat
