/-
  'casebooklaw17.DfgWords' returns true for every graph and every number, and changes nothing that was handed to it.
-/
import Derived.Test.YtebcjijpdhbcdaaGreatRows
import Derived.Test.YtebcjijpdhbcdaaGreatLn
import Derived.Test.YtebcjijpdhbcdaaGreatMLeH
namespace Go.Proofs.YtebcjijpdhbcdaaGreat
open Go.RowKit Go.Cb Go.En Go.ChangeShapes Go.WideShapes Go.ChangeAt
set_option linter.all false
set_option maxRecDepth 100000

theorem tAgg28_LeI : AggT Tryz.prog 28 4 = true := by kernel_rfl

theorem rdw_ex (g : Dfg) (n : Int) : ∃ W e, ∀ p, RDW g n p → p = .tup [pStrss W, pInt e] := by
  cases hb : dfgOk g with
  | false =>
    refine ⟨[], 1, fun p hp => ?_⟩
    rcases hp with ⟨_, h⟩ | ⟨h, _⟩ | ⟨h, _⟩ | ⟨h, _⟩
    · exact h
    · rw [hb] at h; cases h
    · rw [hb] at h; cases h
    · rw [hb] at h; cases h
  | true =>
    by_cases hn : n < 0 ∨ 200 < n
    · refine ⟨[], 2, fun p hp => ?_⟩
      rcases hp with ⟨h, _⟩ | ⟨_, _, h⟩ | ⟨_, h1, h2, _⟩ | ⟨_, h1, h2, _⟩
      · rw [hb] at h; cases h
      · exact h
      · omega
      · omega
    · by_cases hbig : bigP (autG g) n.toNat
      · refine ⟨[], 5, fun p hp => ?_⟩
        rcases hp with ⟨h, _⟩ | ⟨_, h, _⟩ | ⟨_, _, _, _, h⟩ | ⟨_, _, _, h, _⟩
        · rw [hb] at h; cases h
        · exact absurd h hn
        · exact h
        · exact absurd hbig h
      · refine ⟨namesWs (cnames g.acts) (sumP (autG g) n.toNat (n.toNat + 1)), 0, fun p hp => ?_⟩
        rcases hp with ⟨h, _⟩ | ⟨_, h, _⟩ | ⟨_, _, _, h, _⟩ | ⟨_, _, _, _, h⟩
        · rw [hb] at h; cases h
        · exact absurd h hn
        · exact absurd h hbig
        · exact h
theorem great_lens {g : Dfg} (h : greatB g = false) : g.acts.length ≤ 60 ∧ g.starts.length ≤ 60 ∧ g.ends.length ≤ 60 ∧ g.follows.length ≤ 80 := by
  unfold greatB greatC at h
  simp only [Bool.or_eq_false_iff, decide_eq_false_iff_not] at h
  omega
theorem cmpStrs_self (w : List ByteArray) : cmpStrs w w = 0 := cmpStrs_zero.2 rfl
theorem sameAll_refl (W : List (List ByteArray)) : sameAll W W = true := by
  unfold sameAll
  induction W with
  | nil => rfl
  | cons x l ih => rw [all2, ih, decide_eq_true (cmpStrs_self x)]; rfl
set_option maxHeartbeats 2000000 in
theorem dfgWords_e (g : Dfg) (n : Int) (hf : fitD g) (hn0 : -9223372036854775808 ≤ n ∧ n ≤ 9223372036854775807) : AF Tryz.prog 4 [pDfg g, pInt n] (· = pBool true) := by
  obtain ⟨W, e, hWe⟩ := rdw_ex g n
  refine AF.of_body 41 Tryz.func4 rfl Tryz.ntmps4 (Nat.le_of_ble_eq_true rfl) ?_
  intro w0 M0 vs hl hv
  obtain ⟨v0, v1, rfl⟩ := len2 hl
  obtain rfl := hv 1 _ _ rfl rfl
  clear hl hv
  refine nav ?_
  (refine aC_region ?_
    <;> refine s_boxa 2 4 fun h2 => ?_
    <;> refine xL 4 q_assign ?_
    <;> refine aL_end (nav ?_) <;> try dsimp only)
  (refine aC_region ?_
    <;> (refine cS 9 (cA Tryz.call11 (awake17_e)) fun v9 hv9 => ?_; cases hv9)
    <;> refine xL 10 q_not ?_
    <;> refine aL_end (nav ?_) <;> try dsimp only)
  refine cCf ?_
  refine nav ?_
  (refine aC_region ?_
    <;> (refine yL 11 (q_ldao 2 tAgg28_LeI) fun v11 hv11 => ?_; cases hv11)
    <;> (refine cS 12 (cA Tryz.call17 (great17_e g)) fun v12 hv12 => ?_; cases hv12)
    <;> refine xL 13 q_move ?_
    <;> (refine bL 13 (fun hb13 => ?_) (fun hb13 => ?_) <;> (first | refine kL 14 ?_ | refine xL 14 q_move ?_))
    <;> (first | refine kL 15 ?_ | refine xL 15 q_gtr ?_)
    <;> (first | refine kL 16 ?_ | refine xL 16 q_move ?_)
    <;> (first | refine kL 17 ?_ | (refine bLd 16 (fun hb16 => ?_) (fun hb16 => ?_) <;> (first | refine kL 17 ?_ | refine xL 17 q_move ?_)))
    <;> (first | refine kL 18 ?_ | refine xL 18 q_leq ?_)
    <;> (first | refine kL 19 ?_ | refine xL 19 q_pick ?_)
    <;> refine xL 20 q_pick ?_
    <;> refine aL_end (nav ?_) <;> try dsimp only) <;> (
   first | refine cCd (fun hb20 => ?_) (fun hb20 => ?_) | refine cC (fun hb20 => ?_) (fun hb20 => ?_)
   · first
     | exact Bool.noConfusion hb20
     | (
      refine nav ?_
      (refine aC_region ?_
        <;> refine xL 4 q_assign ?_
        <;> refine aL_end (nav ?_) <;> try dsimp only)
      exact ret_shr Tryz.results4 rfl rfl)
   · first
     | exact Bool.noConfusion hb20
     | (
      have hgr : greatB g = false := by first | assumption | simpa using hb13 | simpa using hb20
      have hl := great_lens hgr
      have hA : AF Tryz.prog 18 [pDfg g, pInt n] (· = .tup [pStrss W, pInt e]) := (dWords_e g n hf (by omega) (by omega) (by omega) (by omega)).mono hWe
      have hB : AF Tryz.prog 19 [pDfg g, pInt n] (· = .tup [pStrss W, pInt e]) := (r17Words_e g n hf (by omega)).mono hWe
      refine nav ?_
      (refine aC_region ?_
        <;> (refine yL 22 (q_ldao 2 tAgg28_LeI) fun v22 hv22 => ?_; cases hv22)
        <;> refine xL 23 q_move ?_
        <;> (refine cP 24 (cA Tryz.call18 (hA)) fun va24 vb24 hva24 hvb24 => ?_; cases hvb24)
        <;> refine xL 21 q_move ?_
        <;> refine xL 25 q_extract ?_
        <;> refine xL 26 q_extract ?_
        <;> refine xL 5 q_assign ?_
        <;> refine xL 6 q_assign ?_
        <;> refine aL_end (nav ?_) <;> try dsimp only)
      (refine aC_region ?_
        <;> (refine yL 28 (q_ldao 2 tAgg28_LeI) fun v28 hv28 => ?_; cases hv28)
        <;> refine xL 29 q_move ?_
        <;> (refine cP 30 (cA Tryz.call19 (hB)) fun va30 vb30 hva30 hvb30 => ?_; cases hvb30)
        <;> refine xL 27 q_move ?_
        <;> refine xL 31 q_extract ?_
        <;> refine xL 32 q_extract ?_
        <;> refine xL 7 q_assign ?_
        <;> refine xL 8 q_assign ?_
        <;> refine aL_end (nav ?_) <;> try dsimp only)
      (refine aC_region ?_
        <;> refine xL 33 q_move ?_
        <;> refine xL 34 q_move ?_
        <;> (refine cS 35 (cA Tryz.call20 ((rSameAll_e W W).mono (R' := (· = pBool true)) fun p hp => by rw [hp, sameAll_refl])) fun v35 hv35 => ?_; cases hv35)
        <;> refine xL 36 q_move ?_
        <;> refine xL 37 q_move ?_
        <;> refine xL 38 q_move ?_
        <;> refine xL 39 q_eql ?_
        <;> refine xL 40 q_pick ?_
        <;> refine xL 4 q_assign ?_
        <;> refine aL_end (nav ?_) <;> try dsimp only) <;> (
       first
         | exact absurd rfl hb36
         | exact ret_shr (Tryz.results4) rfl rfl
         | (refine ret_shr (Tryz.results4) rfl ?_; simp))))
theorem own : ownKnob Tryz.prog.godebug = none := by kernel_rfl
theorem laidOut : laidOutB Tryz.prog = true := by kernel_rfl
theorem lifted (os : Os) (started : os.Started) (H : Type) (enc : TypeId × Value → H) :
    ReturnsInHanded {} Tryz.checked os 4 .any (Rows.dfgWordsSpec.pre6 enc Tryz.prog Tryz.f4 Rows.dfgWordsRow.domain false) (Rows.dfgWordsSpec.post enc Tryz.prog Tryz.f4 false true false false) := by
  refine returnsInHanded_of_change_sized (C := Tryz.checked) own started (by kernel_rfl) Tryz.func4
    (ChangeSpec.witness6 (enc := enc) (C := Tryz.checked) false ⟨#[], #[(.agg #[(.slice none 0 0), (.slice none 0 0), (.slice none 0 0), (.slice none 0 0)]), (.int .i64 0)], []⟩ 8 (by kernel_rfl) (by kernel_rfl) (by kernel_rfl) (by kernel_rfl)) ?_
  intro W base args ds gs before hval0 hW hcnd hsz _
  have hval : ∀ (j : Nat) t v, Tryz.f4.params[j]? = some t → args[j]? = some v → Value.okWide Tryz.prog W .any base t v := hval0
  have hW' := hW
  obtain ⟨p, q, hA0, hV, rfl, hfz, hnd⟩ := hW
  have hA : DataW.TrodAll enc Tryz.prog W 0 (fun _ => true) true Tryz.f4.params.toList args.toList ds p := hA0
  have hsz' : ∀ n ∈ DataW.weightsEach Tryz.prog (Tryz.f4.params.toList ++ Rows.dfgWordsSpec.plain.varTypes Tryz.prog) (ds ++ gs), n ≤ reachBytes := fun n hn => by
    have := List.all_eq_true.1 hsz n hn
    exact of_decide_eq_true this
  have hK := hA
  rw [Tryz.params4] at hA hval hsz'
  obtain ⟨v0, vs0, d0, ds0, p0, q0, hargs, rfl, rfl, h0, r0⟩ := trodAll_cons hA
  obtain ⟨v1, vs1, d1, ds1, p1, q1, rfl, rfl, rfl, h1, r1⟩ := trodAll_cons r0
  obtain ⟨rfl, rfl, rfl⟩ := trodAll_nil r1
  obtain rfl : args = #[v0, v1] := by cases args; simp_all
  obtain ⟨rfl, rfl⟩ := trodVars_none hV
  obtain ⟨xg, hxg, s0⟩ := argA dDfg (by kernel_rfl) (hval 0 _ v0 rfl rfl) h0 (fun n hn => hsz' n (weightsEach_mem _ 0 rfl rfl hn))
  obtain ⟨xn, hxn, s1⟩ := arg1 dInt (by kernel_rfl) (hval 1 _ v1 rfl rfl) h1 (fun n hn => hsz' n (weightsEach_mem _ 1 rfl rfl hn))
  refine ((dfgWords_e xg xn hxg hxn).law (vs := [v0, v1]) rfl (fun i v p hv hp => ?_)).mono fun e W' ⟨he, bel⟩ => ?_
  · match i with
    | 0 => simp at hv hp; subst hv hp; exact s0
    | 1 => simp at hv hp; subst hv hp; exact s1
    | i + 2 => simp at hv
  subst he
  exact ⟨_, rfl, _, _, _, [], _, [], hW', trodAll_mk1 (shut_bool Tryz.underlying4 _), trodAll_back laidOut bel (by kernel_rfl) hK, rfl, bel.frame _, fun h => by cases h⟩

theorem over : Rows.dfgWordsRow.holds Tryz.pinned (OpenSpec.ofChange Rows.dfgWordsSpec) :=
  OpenClaim.holds_of_wide 4 Tryz.f4 rfl rfl rfl rfl rfl rfl rfl ⟨rfl, rfl, rfl, rfl, rfl⟩ rfl rfl rfl rfl rfl (by kernel_rfl) Tryz.func4 (by kernel_rfl)
    (of_decide_eq_true (by kernel_rfl)) (by unfold Func.isWrapper; first | (rw [if_pos (by decide +kernel)]; kernel_rfl) | (rw [if_neg (by decide +kernel)]; exact ⟨rfl, rfl⟩))
    (fun os started H enc _ => lifted os started H enc)

theorem dfgWords_holds : Rows.DfgWordsSaid := over
end Go.Proofs.YtebcjijpdhbcdaaGreat
