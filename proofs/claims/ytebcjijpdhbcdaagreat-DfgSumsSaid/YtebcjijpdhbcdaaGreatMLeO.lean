/-
  'casebooklaw17.DfgSums' returns true for all graphs and every number, and changes nothing that was handed to it.
-/
import Derived.Test.YtebcjijpdhbcdaaGreatRows
import Derived.Test.YtebcjijpdhbcdaaGreatLn
import Derived.Test.YtebcjijpdhbcdaaGreatMLeN
import Derived.Test.YtebcjijpdhbcdaaGreatLj
namespace Go.Proofs.YtebcjijpdhbcdaaGreat
open Go.RowKit Go.Cb Go.En Go.ChangeShapes Go.WideShapes Go.ChangeAt
set_option linter.all false
set_option maxRecDepth 100000

theorem tAgg28_LeO : AggT Tryz.prog 28 4 = true := by kernel_rfl
theorem tZr28_LeO : ZeroT Tryz.prog 28 (.agg #[(.slice none 0 0), (.slice none 0 0), (.slice none 0 0), (.slice none 0 0)]) := by unfold ZeroT; kernel_rfl

def SumRes (a b g : Dfg) (e : Int) : Prop := ((dfgOk a && dfgOk b) = false ∧ g = g0 ∧ e = 1) ∨ (dfgOk a = true ∧ dfgOk b = true ∧ 40 < (sumM a b).a.length ∧ g = g0 ∧ e = 5) ∨ (dfgOk a = true ∧ dfgOk b = true ∧ (sumM a b).a.length ≤ 40 ∧ ∃ g', SameG g' (sumM a b) ∧ ((dfgOk g' = false ∧ g = g0 ∧ e = 6) ∨ (dfgOk g' = true ∧ g = g' ∧ e = 0)))
theorem sum_sok {a b : Dfg} (hA : dfgOk a = true) (hB : dfgOk b = true) : SOk (sumM a b) ((2 : Nat) * 4503599627370496) (2 * 1600) := stG_ok (gs := [a, b]) (fun g hg => by
  simp only [List.mem_cons, List.not_mem_nil, or_false] at hg
  rcases hg with rfl | rfl <;> assumption) 2 (Nat.le_refl _)
theorem sum_ex (a b : Dfg) : ∃ g e, SumRes a b g e ∧ g.follows.length ≤ 1000000 := by
  cases h : (dfgOk a && dfgOk b) with
  | false => exact ⟨g0, 1, .inl ⟨h, rfl, rfl⟩, Nat.zero_le _⟩
  | true =>
    rw [Bool.and_eq_true] at h
    by_cases h40 : 40 < (sumM a b).a.length
    · exact ⟨g0, 5, .inr (.inl ⟨h.1, h.2, h40, rfl, rfl⟩), Nat.zero_le _⟩
    · have hS := sum_sok h.1 h.2
      obtain ⟨A, hA⟩ := exC hS.a.nd
      obtain ⟨S, hSS⟩ := exC hS.s.nd
      obtain ⟨F, hF⟩ := exC hS.f.nd
      obtain ⟨Q, hQ⟩ := exF hS.q.nd
      have hg : SameG ⟨A, S, F, Q⟩ (sumM a b) := ⟨hA, hSS, hF, hQ⟩
      cases hok : dfgOk ⟨A, S, F, Q⟩ with
      | false => exact ⟨g0, 6, .inr (.inr ⟨h.1, h.2, by omega, _, hg, .inl ⟨hok, rfl, rfl⟩⟩), Nat.zero_le _⟩
      | true => exact ⟨_, 0, .inr (.inr ⟨h.1, h.2, by omega, _, hg, .inr ⟨hok, rfl, rfl⟩⟩), by
          have h1 := hQ.1.length_eq
          have h2 := hS.lq
          rw [List.length_map] at h1
          show Q.length ≤ _
          omega⟩
theorem sum_af {f : Nat} {a b g : Dfg} {e : Int} (h : AF Tryz.prog f [pDfg a, pDfg b] (RSum a b)) (hm : SumRes a b g e) : AF Tryz.prog f [pDfg a, pDfg b] (· = .tup [pDfg g, pInt e]) := by
  have zero : ∀ e : Int, (∀ p, RSum a b p → p = .tup [zeroD, pInt e]) → AF Tryz.prog f [pDfg a, pDfg b] (· = .tup [pDfg g0, pInt e]) := fun e hp => AF.reread (p := .tup [zeroD, pInt e]) (h.mono hp) rfl (rr_zeroDE e)
  rcases hm with ⟨h1, rfl, rfl⟩ | ⟨h1, h2, h3, rfl, rfl⟩ | ⟨h1, h2, h3, g', h4, h5⟩
  · refine zero 1 fun p hp => ?_
    rcases hp with ⟨_, hp⟩ | ⟨g1, g2, _⟩ | ⟨g1, g2, _⟩
    · exact hp
    · rw [g1, g2] at h1; cases h1
    · rw [g1, g2] at h1; cases h1
  · refine zero 5 fun p hp => ?_
    rcases hp with ⟨g1, _⟩ | ⟨_, _, _, hp⟩ | ⟨_, _, g1, _⟩
    · rw [h1, h2] at g1; cases g1
    · exact hp
    · omega
  · rcases h5 with ⟨h5, rfl, rfl⟩ | ⟨h5, rfl, rfl⟩
    · refine zero 6 fun p hp => ?_
      rcases hp with ⟨g1, _⟩ | ⟨_, _, g1, _⟩ | ⟨_, _, _, g2, g3, hp⟩
      · rw [h1, h2] at g1; cases g1
      · omega
      · rw [sameG_unique g3 h4] at hp
        rcases hp with ⟨_, hp⟩ | ⟨hp, _⟩
        · exact hp
        · rw [h5] at hp; cases hp
    · refine h.mono fun p hp => ?_
      rcases hp with ⟨g1, _⟩ | ⟨_, _, g1, _⟩ | ⟨_, _, _, g2, g3, hp⟩
      · rw [h1, h2] at g1; cases g1
      · omega
      · rw [sameG_unique g3 h4] at hp
        rcases hp with ⟨hp, _⟩ | ⟨_, hp⟩
        · rw [h5] at hp; cases hp
        · exact hp
def ThrRes (n : Int) (a g : Dfg) (e : Int) : Prop := (dfgOk a = false ∧ g = g0 ∧ e = 1) ∨ (dfgOk a = true ∧ countedB n = false ∧ g = g0 ∧ e = 2) ∨ (dfgOk a = true ∧ countedB n = true ∧ g = thrG n a ∧ e = 0)
theorem thr_ex (n : Int) (a : Dfg) (hl : a.follows.length ≤ 1000000) : ∃ g e, ThrRes n a g e ∧ g.follows.length ≤ 1000000 := by
  cases h : dfgOk a with
  | false => exact ⟨g0, 1, .inl ⟨h, rfl, rfl⟩, Nat.zero_le _⟩
  | true =>
    cases hc : countedB n with
    | false => exact ⟨g0, 2, .inr (.inl ⟨h, hc, rfl, rfl⟩), Nat.zero_le _⟩
    | true => exact ⟨_, 0, .inr (.inr ⟨h, hc, rfl, rfl⟩), Nat.le_trans (List.length_filter_le _ _) hl⟩
theorem thr_af {f : Nat} {a g : Dfg} {n e : Int} (h : AF Tryz.prog f [pDfg a, pInt n] (RThr n a)) (hm : ThrRes n a g e) : AF Tryz.prog f [pDfg a, pInt n] (· = .tup [pDfg g, pInt e]) := by
  rcases hm with ⟨h1, rfl, rfl⟩ | ⟨h1, h2, rfl, rfl⟩ | ⟨h1, h2, rfl, rfl⟩
  · refine AF.reread (p := .tup [zeroD, pInt 1]) (h.mono fun p hp => ?_) rfl (rr_zeroDE 1)
    rcases hp with ⟨_, hp⟩ | ⟨g1, _⟩ | ⟨g1, _⟩
    · exact hp
    · rw [h1] at g1; cases g1
    · rw [h1] at g1; cases g1
  · refine AF.reread (p := .tup [zeroD, pInt 2]) (h.mono fun p hp => ?_) rfl (rr_zeroDE 2)
    rcases hp with ⟨g1, _⟩ | ⟨_, _, hp⟩ | ⟨_, g1, _⟩
    · rw [h1] at g1; cases g1
    · exact hp
    · rw [h2] at g1; cases g1
  · refine h.mono fun p hp => ?_
    rcases hp with ⟨g1, _⟩ | ⟨_, g1, _⟩ | ⟨_, _, hp⟩
    · rw [h1] at g1; cases g1
    · rw [h2] at g1; cases g1
    · exact hp
theorem great_lens' {g : Dfg} (h : greatB g = false) : g.acts.length ≤ 60 ∧ g.starts.length ≤ 60 ∧ g.ends.length ≤ 60 ∧ g.follows.length ≤ 80 := by
  unfold greatB greatC at h
  simp only [Bool.or_eq_false_iff, decide_eq_false_iff_not] at h
  omega
set_option maxHeartbeats 2000000 in
theorem dfgSums_e (a b : Dfg) (n : Int) (hfa : fitD a) (hfb : fitD b) (hn0 : -9223372036854775808 ≤ n ∧ n ≤ 9223372036854775807) : AF Tryz.prog 7 [pDfg a, pDfg b, pInt n] (· = pBool true) := by
  obtain ⟨g, e, hs, hgl⟩ := sum_ex a b
  refine AF.of_body 65 Tryz.func7 rfl Tryz.ntmps7 (Nat.le_of_ble_eq_true rfl) ?_
  intro w0 M0 vs hl hv
  obtain ⟨v0, v1, v2, rfl⟩ := len3 hl
  obtain rfl := hv 2 _ _ rfl rfl
  clear hl hv
  refine nav ?_
  (refine aC_region ?_
    <;> refine s_boxa 3 4 fun h3 => ?_
    <;> refine s_boxa 4 4 fun h4 => ?_
    <;> refine xL 6 q_assign ?_
    <;> refine aL_end (nav ?_) <;> try dsimp only)
  (refine aC_region ?_
    <;> (refine cS 15 (cA Tryz.call11 (awake17_e)) fun v15 hv15 => ?_; cases hv15)
    <;> refine xL 16 q_not ?_
    <;> refine aL_end (nav ?_) <;> try dsimp only)
  refine cCf ?_
  refine nav ?_
  (refine aC_region ?_
    <;> (refine yL 17 (q_ldao 3 tAgg28_LeO) fun v17 hv17 => ?_; cases hv17)
    <;> (refine cS 18 (cA Tryz.call17 (great17_e a)) fun v18 hv18 => ?_; cases hv18)
    <;> refine xL 19 q_move ?_
    <;> (refine bL 19 (fun hb19 => ?_) (fun hb19 => ?_) <;> (first | refine kL 20 ?_ | (refine yL 20 (q_ldao 4 tAgg28_LeO) fun v20 hv20 => ?_; cases hv20)))
    <;> (first | refine kL 21 ?_ | (refine cS 21 (cA Tryz.call17 (great17_e b)) fun v21 hv21 => ?_; cases hv21))
    <;> refine xL 22 q_pick ?_
    <;> refine aL_end (nav ?_) <;> try dsimp only) <;> (
   first | refine cCd (fun hb22 => ?_) (fun hb22 => ?_) | refine cC (fun hb22 => ?_) (fun hb22 => ?_)
   · first
     | exact Bool.noConfusion hb22
     | (
      refine nav ?_
      (refine aC_region ?_
        <;> refine xL 6 q_assign ?_
        <;> refine aL_end (nav ?_) <;> try dsimp only)
      exact ret_shr Tryz.results7 rfl rfl)
   · first
     | exact Bool.noConfusion hb22
     | (
      have hga : greatB a = false := by first | assumption | simpa using hb19 | (cases h1 : greatB a <;> simp_all)
      have hgb : greatB b = false := by first | assumption | simpa using hb22 | (cases h1 : greatB b <;> simp_all)
      have hla := great_lens' hga
      have hlb := great_lens' hgb
      obtain ⟨t, e2, ht, htl⟩ := thr_ex n a (by omega)
      have hA := sum_af (dSum_e a b hfa hfb (by omega) (by omega) (by omega) (by omega) (by omega) (by omega)) hs
      have hB := sum_af (r17Sum_e a b hfa hfb (by omega) (by omega)) hs
      have hC := thr_af (dThr_e n a hfa (by omega) (by omega) (by omega) (by omega)) ht
      have hD := thr_af (r17Thr_e n a hfa (by omega) (by omega) (by omega) (by omega)) ht
      refine nav ?_
      (refine aC_region ?_
        <;> (refine yL 24 (q_ldao 3 tAgg28_LeO) fun v24 hv24 => ?_; cases hv24)
        <;> (refine yL 25 (q_ldao 4 tAgg28_LeO) fun v25 hv25 => ?_; cases hv25)
        <;> (refine cP 26 (cA Tryz.call27 (hA)) fun va26 vb26 hva26 hvb26 => ?_; cases hvb26)
        <;> refine xL 23 q_move ?_
        <;> refine xL 27 q_extract ?_
        <;> refine xL 28 q_extract ?_
        <;> refine s_alloc [(.slice none 0 0), (.slice none 0 0), (.slice none 0 0), (.slice none 0 0)] 4 7 tZr28_LeO fun h7 => ?_
        <;> refine s_sta 7 tAgg28_LeO ?_
        <;> refine xL 8 q_assign ?_
        <;> refine aL_end (nav ?_) <;> try dsimp only)
      (refine aC_region ?_
        <;> (refine yL 30 (q_ldao 3 tAgg28_LeO) fun v30 hv30 => ?_; cases hv30)
        <;> refine xL 31 q_move ?_
        <;> (refine cP 32 (cA Tryz.call22 (hC)) fun va32 vb32 hva32 hvb32 => ?_; cases hvb32)
        <;> refine xL 29 q_move ?_
        <;> refine xL 33 q_extract ?_
        <;> refine xL 34 q_extract ?_
        <;> refine s_alloc [(.slice none 0 0), (.slice none 0 0), (.slice none 0 0), (.slice none 0 0)] 4 9 tZr28_LeO fun h9 => ?_
        <;> refine s_sta 9 tAgg28_LeO ?_
        <;> refine xL 10 q_assign ?_
        <;> refine aL_end (nav ?_) <;> try dsimp only)
      (refine aC_region ?_
        <;> (refine yL 36 (q_ldao 3 tAgg28_LeO) fun v36 hv36 => ?_; cases hv36)
        <;> (refine yL 37 (q_ldao 4 tAgg28_LeO) fun v37 hv37 => ?_; cases hv37)
        <;> (refine cP 38 (cA Tryz.call28 (hB)) fun va38 vb38 hva38 hvb38 => ?_; cases hvb38)
        <;> refine xL 35 q_move ?_
        <;> refine xL 39 q_extract ?_
        <;> refine xL 40 q_extract ?_
        <;> refine s_alloc [(.slice none 0 0), (.slice none 0 0), (.slice none 0 0), (.slice none 0 0)] 4 11 tZr28_LeO fun h11 => ?_
        <;> refine s_sta 11 tAgg28_LeO ?_
        <;> refine xL 12 q_assign ?_
        <;> refine aL_end (nav ?_) <;> try dsimp only)
      (refine aC_region ?_
        <;> (refine yL 42 (q_ldao 3 tAgg28_LeO) fun v42 hv42 => ?_; cases hv42)
        <;> refine xL 43 q_move ?_
        <;> (refine cP 44 (cA Tryz.call29 (hD)) fun va44 vb44 hva44 hvb44 => ?_; cases hvb44)
        <;> refine xL 41 q_move ?_
        <;> refine xL 45 q_extract ?_
        <;> refine xL 46 q_extract ?_
        <;> refine s_alloc [(.slice none 0 0), (.slice none 0 0), (.slice none 0 0), (.slice none 0 0)] 4 13 tZr28_LeO fun h13 => ?_
        <;> refine s_sta 13 tAgg28_LeO ?_
        <;> refine xL 14 q_assign ?_
        <;> refine aL_end (nav ?_) <;> try dsimp only)
      (refine aC_region ?_
        <;> (refine yL 47 (q_ldao 7 tAgg28_LeO) fun v47 hv47 => ?_; cases hv47)
        <;> (refine yL 48 (q_ldao 11 tAgg28_LeO) fun v48 hv48 => ?_; cases hv48)
        <;> (refine cS 49 (cA Tryz.call15 ((r17Same_e g g (by omega) (by omega)).mono (R' := (· = pBool true)) fun p hp => by rw [hp, dfgEq_self])) fun v49 hv49 => ?_; cases hv49)
        <;> refine xL 50 q_move ?_
        <;> refine xL 51 q_move ?_
        <;> refine xL 52 q_move ?_
        <;> refine xL 53 q_eql ?_
        <;> refine xL 54 q_pick ?_
        <;> refine xL 55 q_move ?_
        <;> (refine bLd 55 (fun hb55 => ?_) (fun hb55 => ?_) <;> (first | refine kL 56 ?_ | (refine yL 56 (q_ldao 9 tAgg28_LeO) fun v56 hv56 => ?_; cases hv56)))
        <;> (first | refine kL 57 ?_ | (refine yL 57 (q_ldao 13 tAgg28_LeO) fun v57 hv57 => ?_; cases hv57))
        <;> (first | refine kL 58 ?_ | (refine cS 58 (cA Tryz.call15 ((r17Same_e t t (by omega) (by omega)).mono (R' := (· = pBool true)) fun p hp => by rw [hp, dfgEq_self])) fun v58 hv58 => ?_; cases hv58))
        <;> refine xL 59 q_pick ?_
        <;> refine xL 60 q_move ?_
        <;> (first | refine kL 61 ?_ | refine xL 61 q_move ?_)
        <;> (first | refine kL 62 ?_ | refine xL 62 q_move ?_)
        <;> (first | refine kL 63 ?_ | refine xL 63 q_eql ?_)
        <;> refine xL 64 q_pick ?_
        <;> refine xL 6 q_assign ?_
        <;> refine aL_end (nav ?_) <;> try dsimp only) <;> (
       first
         | exact absurd rfl hb50
         | exact absurd rfl hb55
         | exact absurd rfl hb60
         | exact ret_shr (Tryz.results7) rfl rfl
         | (refine ret_shr (Tryz.results7) rfl ?_; simp))))
theorem own : ownKnob Tryz.prog.godebug = none := by kernel_rfl
theorem laidOut : laidOutB Tryz.prog = true := by kernel_rfl
theorem lifted (os : Os) (started : os.Started) (H : Type) (enc : TypeId × Value → H) :
    ReturnsInHanded {} Tryz.checked os 7 .any (Rows.dfgSumsSpec.pre6 enc Tryz.prog Tryz.f7 Rows.dfgSumsRow.domain false) (Rows.dfgSumsSpec.post enc Tryz.prog Tryz.f7 false true false false) := by
  refine returnsInHanded_of_change_sized (C := Tryz.checked) own started (by kernel_rfl) Tryz.func7
    (ChangeSpec.witness6 (enc := enc) (C := Tryz.checked) false ⟨#[], #[(.agg #[(.slice none 0 0), (.slice none 0 0), (.slice none 0 0), (.slice none 0 0)]), (.agg #[(.slice none 0 0), (.slice none 0 0), (.slice none 0 0), (.slice none 0 0)]), (.int .i64 0)], []⟩ 8 (by kernel_rfl) (by kernel_rfl) (by kernel_rfl) (by kernel_rfl)) ?_
  intro W base args ds gs before hval0 hW hcnd hsz _
  have hval : ∀ (j : Nat) t v, Tryz.f7.params[j]? = some t → args[j]? = some v → Value.okWide Tryz.prog W .any base t v := hval0
  have hW' := hW
  obtain ⟨p, q, hA0, hV, rfl, hfz, hnd⟩ := hW
  have hA : DataW.TrodAll enc Tryz.prog W 0 (fun _ => true) true Tryz.f7.params.toList args.toList ds p := hA0
  have hsz' : ∀ n ∈ DataW.weightsEach Tryz.prog (Tryz.f7.params.toList ++ Rows.dfgSumsSpec.plain.varTypes Tryz.prog) (ds ++ gs), n ≤ reachBytes := fun n hn => by
    have := List.all_eq_true.1 hsz n hn
    exact of_decide_eq_true this
  have hK := hA
  rw [Tryz.params7] at hA hval hsz'
  obtain ⟨v0, vs0, d0, ds0, p0, q0, hargs, rfl, rfl, h0, r0⟩ := trodAll_cons hA
  obtain ⟨v1, vs1, d1, ds1, p1, q1, rfl, rfl, rfl, h1, r1⟩ := trodAll_cons r0
  obtain ⟨v2, vs2, d2, ds2, p2, q2, rfl, rfl, rfl, h2, r2⟩ := trodAll_cons r1
  obtain ⟨rfl, rfl, rfl⟩ := trodAll_nil r2
  obtain rfl : args = #[v0, v1, v2] := by cases args; simp_all
  obtain ⟨rfl, rfl⟩ := trodVars_none hV
  obtain ⟨xa, hxa, s0⟩ := argA dDfg (by kernel_rfl) (hval 0 _ v0 rfl rfl) h0 (fun n hn => hsz' n (weightsEach_mem _ 0 rfl rfl hn))
  obtain ⟨xb, hxb, s1⟩ := argA dDfg (by kernel_rfl) (hval 1 _ v1 rfl rfl) h1 (fun n hn => hsz' n (weightsEach_mem _ 1 rfl rfl hn))
  obtain ⟨xn, hxn, s2⟩ := arg1 dInt (by kernel_rfl) (hval 2 _ v2 rfl rfl) h2 (fun n hn => hsz' n (weightsEach_mem _ 2 rfl rfl hn))
  refine ((dfgSums_e xa xb xn hxa hxb hxn).law (vs := [v0, v1, v2]) rfl (fun i v p hv hp => ?_)).mono fun e W' ⟨he, bel⟩ => ?_
  · match i with
    | 0 => simp at hv hp; subst hv hp; exact s0
    | 1 => simp at hv hp; subst hv hp; exact s1
    | 2 => simp at hv hp; subst hv hp; exact s2
    | i + 3 => simp at hv
  subst he
  exact ⟨_, rfl, _, _, _, [], _, [], hW', trodAll_mk1 (shut_bool Tryz.underlying4 _), trodAll_back laidOut bel (by kernel_rfl) hK, rfl, bel.frame _, fun h => by cases h⟩

theorem over : Rows.dfgSumsRow.holds Tryz.pinned (OpenSpec.ofChange Rows.dfgSumsSpec) :=
  OpenClaim.holds_of_wide 7 Tryz.f7 rfl rfl rfl rfl rfl rfl rfl ⟨rfl, rfl, rfl, rfl, rfl⟩ rfl rfl rfl rfl rfl (by kernel_rfl) Tryz.func7 (by kernel_rfl)
    (of_decide_eq_true (by kernel_rfl)) (by unfold Func.isWrapper; first | (rw [if_pos (by decide +kernel)]; kernel_rfl) | (rw [if_neg (by decide +kernel)]; exact ⟨rfl, rfl⟩))
    (fun os started H enc _ => lifted os started H enc)

theorem dfgSums_holds : Rows.DfgSumsSaid := over
end Go.Proofs.YtebcjijpdhbcdaaGreat
