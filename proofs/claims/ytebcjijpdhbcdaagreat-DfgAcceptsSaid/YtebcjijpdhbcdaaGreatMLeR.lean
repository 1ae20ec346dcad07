/-
  Walks: which words an automaton accepts; how two activities are related.
-/
import Derived.Test.YtebcjijpdhbcdaaGreatLn
import Derived.Test.YtebcjijpdhbcdaaGreatMEoG
namespace Go.Proofs.YtebcjijpdhbcdaaGreat
open Go.RowKit Go.Cb Go.En
set_option linter.all false
set_option maxRecDepth 100000

theorem tAgg28_LeR : AggT Tryz.prog 28 4 = true := by kernel_rfl
theorem tAgg47_LeR : AggT Tryz.prog 47 3 = true := by kernel_rfl
theorem tAgg66_LeR : AggT Tryz.prog 66 5 = true := by kernel_rfl
theorem tFl28_0_LeR : FldT Tryz.prog 28 0 0 = true := by kernel_rfl
theorem tFl28_3_LeR : FldT Tryz.prog 28 3 3 = true := by kernel_rfl
theorem tFl47_0_LeR : FldT Tryz.prog 47 0 0 = true := by kernel_rfl
theorem tFl47_1_LeR : FldT Tryz.prog 47 1 1 = true := by kernel_rfl
theorem tFl66_1_LeR : FldT Tryz.prog 66 1 1 = true := by kernel_rfl
theorem tFl66_2_LeR : FldT Tryz.prog 66 2 2 = true := by kernel_rfl
theorem tNa25_LeR : NoAgg Tryz.prog 25 = true := by kernel_rfl
theorem tNa26_LeR : NoAgg Tryz.prog 26 = true := by kernel_rfl
theorem tNa3_LeR : NoAgg Tryz.prog 3 = true := by kernel_rfl
theorem tNa63_LeR : NoAgg Tryz.prog 63 = true := by kernel_rfl
theorem tNa9_LeR : NoAgg Tryz.prog 9 = true := by kernel_rfl
theorem tSl26_LeR : SlT Tryz.prog 26 47 3 = true := by kernel_rfl
theorem tSl63_LeR : SlT Tryz.prog 63 3 1 = true := by kernel_rfl
theorem tZr47_LeR : ZeroT Tryz.prog 47 (.agg #[(.string ByteArray.empty), (.string ByteArray.empty), (.int .i64 0)]) := by unfold ZeroT; kernel_rfl

def runL (a : Aut) (w : List Int) : List Int := w.foldl (fun S c => nextL a c S) (closL a a.start)
theorem runL_snoc {a : Aut} {w : List Int} {k : Nat} {c : Int} (h : w[k]? = some c) : runL a (w.take (k + 1)) = nextL a c (runL a (w.take k)) := by unfold runL; rw [take_snoc h, List.foldl_append]; rfl
theorem runL_in {a : Aut} (h : AOk a) : ∀ w : List Int, InS a (runL a w) ∧ (runL a w).length ≤ 2000 := fun w => by
  have key : ∀ (w : List Int) (S : List Int), InS a S ∧ S.length ≤ 2000 → InS a (w.foldl (fun S c => nextL a c S) S) ∧ (w.foldl (fun S c => nextL a c S) S).length ≤ 2000 := fun w => by
    induction w with
    | nil => intro S hS; exact hS
    | cons c w ih =>
      intro S hS
      have h1 := closL_len h.mi (leads_in h.mi c S)
      have h2 := h.n1
      exact ih _ ⟨next_in h.mi c S, by show (closL a (leads a c S)).length ≤ 2000; omega⟩
  have h1 := closL_len h.mi h.st
  have h2 := h.n1
  exact key w _ ⟨closL_in h.mi h.st, by omega⟩
theorem aAcceptsW1_e (a : Aut) (s : Int) : AF Tryz.prog 81 [pInt s, .sptr 0 [pInt a.n, pInt a.syms, pInts a.start, pInts a.fin, pMvs a.moves]] (· = pBool (decide (s < 0) || decide (a.syms ≤ s))) := by
  refine AF.of_body 12 Tryz.func81 rfl Tryz.ntmps81 (Nat.le_of_ble_eq_true rfl) ?_
  intro w0 M0 vs hl hv
  obtain ⟨v0, v1, rfl⟩ := len2 hl
  obtain rfl := hv 0 _ _ rfl rfl
  clear hl hv
  refine nav ?_
  (refine aC_region ?_
    <;> refine xL 3 q_assign ?_
    <;> refine aL_end (nav ?_) <;> try dsimp only)
  (refine aC_region ?_
    <;> refine xL 4 q_move ?_
    <;> refine xL 5 q_lss ?_
    <;> refine xL 6 q_move ?_
    <;> (refine bLd 6 (fun hb6 => ?_) (fun hb6 => ?_) <;> (first | refine kL 7 ?_ | refine xL 7 q_move ?_))
    <;> (first | refine kL 8 ?_ | refine xL 8 (q_fld tFl66_1_LeR) ?_)
    <;> (first | refine kL 9 ?_ | (refine yL 9 (q_ld tNa3_LeR) fun v9 hv9 => ?_; cases hv9))
    <;> (first | refine kL 10 ?_ | refine xL 10 q_geq ?_)
    <;> refine xL 11 q_pick ?_
    <;> refine xL 3 q_assign ?_
    <;> refine aL_end (nav ?_) <;> try dsimp only) <;> (
   refine ret_shr (Tryz.results81) rfl ?_
   show pBool _ = pBool _
   first
     | (rw [decide_eq_true (show s < 0 by assumption)]; rfl)
     | (rw [decide_eq_false (show ¬ s < 0 by assumption)]; rfl))
set_option maxHeartbeats 2000000 in
theorem aAcceptsW_ok (a : Aut) (w : List Int) (hok : autOk a = true) (hw : w.length ≤ 200) (hs : ∀ c ∈ w, 0 ≤ c ∧ c < a.syms) : AF Tryz.prog 35 [pAut a, pInts w] (· = .tup [pBool (accB a (runL a w)), pInt 0]) := by
  have hA := aok_of hok
  have hn1 := hA.n1
  have hany : (w.any fun s => decide (s < 0) || decide (a.syms ≤ s)) = false := by
    rw [List.any_eq_false]
    intro c hc
    have := hs c hc
    rw [decide_eq_false (by omega), decide_eq_false (by omega)]; simp
  refine AF.of_body 42 Tryz.func35 rfl Tryz.ntmps35 (Nat.le_of_ble_eq_true rfl) ?_
  intro w0 M0 vs hl hv
  obtain ⟨v0, v1, rfl⟩ := len2 hl
  clear hl hv
  refine nav ?_
  (refine aC_region ?_
    <;> refine s_boxa 2 5 fun h2 => ?_
    <;> refine xL 4 q_assign ?_
    <;> refine xL 5 q_assign ?_
    <;> refine aL_end (nav ?_) <;> try dsimp only)
  (refine aC_region ?_
    <;> (refine yL 11 (q_ldao 2 tAgg66_LeR) fun v11 hv11 => ?_; cases hv11)
    <;> (refine cS 12 (cA Tryz.call79 ((aValid_e a).mono (R' := (· = pBool true)) fun p hp => by rw [hp, hok])) fun v12 hv12 => ?_; cases hv12)
    <;> refine xL 13 q_not ?_
    <;> refine xL 10 q_assign ?_
    <;> refine aL_end (nav ?_) <;> try dsimp only)
  refine cCf ?_
  refine nav ?_
  (refine aC_region ?_
    <;> refine xL 15 q_move ?_
    <;> refine xL 16 (q_len tSl63_LeR) ?_
    <;> refine xL 17 q_gtr ?_
    <;> refine xL 14 q_assign ?_
    <;> refine aL_end (nav ?_) <;> try dsimp only)
  first | refine cCd (fun hb14 => ?_) (fun hb14 => ?_) | refine cC (fun hb14 => ?_) (fun hb14 => ?_)
  · exact absurd hb14 (by omega)
  · refine nav ?_
    refine aC_ent (freezeP (l := 2) (t := 2) (j := 0) rfl Nat.one_pos rfl) fun _ => ?_
    (refine aC_region ?_
      <;> refine xL 19 q_move ?_
      <;> refine xL 20 q_mkfn ?_
      <;> (refine cS 21 (cA Tryz.call80 ((containsFuncInt_e 81 [.sptr 0 [pInt a.n, pInt a.syms, pInts a.start, pInts a.fin, pMvs a.moves]] (fun s => decide (s < 0) || decide (a.syms ≤ s)) w (Tryz.call81) (fun s _ => aAcceptsW1_e a s)).mono (R' := (· = pBool false)) fun p hp => by rw [hp, hany])) fun v21 hv21 => ?_; cases hv21)
      <;> refine xL 18 q_assign ?_
      <;> refine aL_end (nav ?_) <;> try dsimp only)
    refine cCf ?_
    refine nav ?_
    (refine aC_region ?_
      <;> (refine yL 22 (q_lda tAgg66_LeR) fun v22 hv22 => ?_; cases hv22)
      <;> (refine cS 23 (cA Tryz.call82 (aGraphOf_e a hA)) fun v23 hv23 => ?_; cases hv23)
      <;> refine xL 6 q_assign ?_
      <;> refine aL_end (nav ?_) <;> try dsimp only)
    (refine aC_region ?_
      <;> refine xL 24 q_move ?_
      <;> refine xL 25 (q_fld tFl66_2_LeR) ?_
      <;> (refine yL 26 (q_ld tNa63_LeR) fun v26 hv26 => ?_; cases hv26)
      <;> (refine cO 27 (cA Tryz.call83 (aClosure_e a a.start hn1 hA.mi hA.st)) fun v27 ho27 => ?_; refine aL_ent (En.freeze (l := 27) (t := 27) rfl rfl) fun _ => ?_; rw [share_ints _ _ _ rfl])
      <;> refine xL 7 q_assign ?_
      <;> refine aL_end (nav ?_) <;> try dsimp only)
    (refine aC_region ?_
      <;> refine xL 28 q_move ?_
      <;> refine xL 29 (q_len tSl63_LeR) ?_
      <;> refine xL 30 q_move ?_
      <;> refine aL_end (nav ?_) <;> try dsimp only)
    refine aC_loop (ι := { q : Nat × Value // q.1 ≤ w.length }) (fun k => ⟨[(6, _, _), (28, _, _), (29, _, _), (7, k.1.2, pInts (runL a (w.take k.1.1))), (30, .int .i64 k.1.1, pInt k.1.1)], []⟩) (fun k => w.length - k.1.1) ⟨(0, v27), Nat.zero_le _⟩ (fun a w H => H.weaken ⟨rfl, rfl, rfl, rfl, rfl, trivial⟩ trivial) ?_
    rintro ⟨⟨k, v⟩, hk⟩
    dsimp only
    dsimp only at hk
    have hrun := runL_in hA (w.take k)
    refine nav ?_
    (refine aC_region ?_
      <;> refine xL 31 q_lss ?_
      <;> refine aL_end (nav ?_) <;> try dsimp only)
    first | refine cCd (fun hb31 => ?_) (fun hb31 => ?_) | refine cC (fun hb31 => ?_) (fun hb31 => ?_)
    · first
      | exact Bool.noConfusion hb31
      | (
       obtain ⟨c, hc⟩ := get_some (show k < w.length by omega)
       have e1 := map_at (f := pInt) hc
       refine nav ?_
       (refine aC_region ?_
         <;> refine xL 32 (q_idxN tSl63_LeR) ?_
         <;> (refine yL 33 (q_ld tNa3_LeR) fun v33 hv33 => ?_; cases hv33)
         <;> refine xL 9 q_assign ?_
         <;> refine aL_end (nav ?_) <;> try dsimp only)
       (refine aC_region ?_
         <;> refine xL 34 q_move ?_
         <;> refine xL 35 q_move ?_
         <;> refine xL 36 q_move ?_
         <;> (refine cO 37 (cA Tryz.call84 (aNext_e a (runL a (w.take k)) c hn1 hA.ml hA.mi hrun.1 hrun.2)) fun v37 ho37 => ?_; refine aL_ent (En.freeze (l := 37) (t := 37) rfl rfl) fun _ => ?_; rw [share_ints _ _ _ rfl])
         <;> refine xL 7 q_assign ?_
         <;> refine aL_end (nav ?_) <;> try dsimp only)
       (refine aC_region ?_
         <;> refine xL 38 q_add ?_
         <;> refine xL 30 q_move ?_
         <;> refine aL_end (nav ?_) <;> try dsimp only)
       rw [← runL_snoc hc]
       refine aN_again (
         ⟨(k + 1, v37), lt_of_get hc⟩
         ) (by dsimp only; omega) ⟨rfl, rfl, rfl, rfl, rfl, trivial⟩ trivial)
    · first
      | exact Bool.noConfusion hb31
      | (
       obtain rfl : k = w.length := by omega
       rw [List.take_length] at hrun ⊢
       refine nav ?_
       (refine aC_region ?_
         <;> refine xL 39 q_move ?_
         <;> refine xL 40 q_move ?_
         <;> (refine cS 41 (cA Tryz.call85 (aAccepts_e a (runL a w) hrun.1)) fun v41 hv41 => ?_; cases hv41)
         <;> refine xL 4 q_assign ?_
         <;> refine xL 5 q_assign ?_
         <;> refine aL_end (nav ?_) <;> try dsimp only)
       exact ret_ss (Tryz.results35) rfl rfl rfl)
def anyF (l : List Flw) (a b : ByteArray) : Bool := l.any fun f => strEq f.src a && strEq f.dst b
theorem anyF_snoc {l : List Flw} {k : Nat} {x : Flw} (h : l[k]? = some x) (a b : ByteArray) : anyF (l.take (k + 1)) a b = (anyF (l.take k) a b || (strEq x.src a && strEq x.dst b)) := by
  unfold anyF; rw [take_snoc h, List.any_append]; simp
def relV (x y : Bool) : Int := match x, y with
  | false, false => 0
  | true, false => 1
  | false, true => 2
  | true, true => 3
theorem relV_or1 (x y : Bool) : IntKind.wrap .i64 ((BitVec.ofInt 64 (relV x y) ||| BitVec.ofInt 64 1).toNat : Nat) = relV true y := by cases x <;> cases y <;> decide
theorem relV_or2 (x y : Bool) : IntKind.wrap .i64 ((BitVec.ofInt 64 (relV x y) ||| BitVec.ofInt 64 2).toNat : Nat) = relV x true := by cases x <;> cases y <;> decide
def relR (g : Dfg) (a b : ByteArray) : Int × Int := if dfgOk g = false then (0, 1) else if (hasStr (cnames g.acts) a && hasStr (cnames g.acts) b) = false then (0, 8) else (relV (anyF g.follows a b) (anyF g.follows b a), 0)
set_option maxHeartbeats 2000000 in
theorem dRelation_e (g : Dfg) (a b : ByteArray) (hf : fitD g) (ha : g.acts.length ≤ 1000000) (hs : g.starts.length ≤ 1000000) (he : g.ends.length ≤ 1000000) : AF Tryz.prog 34 [pDfg g, pStr a, pStr b] (· = .tup [pInt (relR g a b).1, pInt (relR g a b).2]) := by
  have hlf := hf.2.2.2.1
  refine AF.of_body 61 Tryz.func34 rfl Tryz.ntmps34 (Nat.le_of_ble_eq_true rfl) ?_
  intro w0 M0 vs hl hv
  obtain ⟨v0, v1, v2, rfl⟩ := len3 hl
  obtain rfl := hv 1 _ _ rfl rfl
  obtain rfl := hv 2 _ _ rfl rfl
  clear hl hv
  refine nav ?_
  (refine aC_region ?_
    <;> refine s_boxa 3 4 fun h3 => ?_
    <;> refine xL 6 q_assign ?_
    <;> refine xL 7 q_assign ?_
    <;> refine aL_end (nav ?_) <;> try dsimp only)
  (refine aC_region ?_
    <;> (refine yL 12 (q_ldao 3 tAgg28_LeR) fun v12 hv12 => ?_; cases hv12)
    <;> (refine cS 13 (cA Tryz.call16 (dValid_e g hf ha hs he)) fun v13 hv13 => ?_; cases hv13)
    <;> refine xL 14 q_not ?_
    <;> refine aL_end (nav ?_) <;> try dsimp only)
  first | refine cCd (fun hb14 => ?_) (fun hb14 => ?_) | refine cC (fun hb14 => ?_) (fun hb14 => ?_)
  · first
    | exact Bool.noConfusion hb14
    | (
     refine nav ?_
     (refine aC_region ?_
       <;> refine xL 6 q_assign ?_
       <;> refine xL 7 q_assign ?_
       <;> refine aL_end (nav ?_) <;> try dsimp only)
     refine ret_ss (Tryz.results34) rfl rfl ?_
     unfold relR
     rw [if_pos (by simpa using hb14)])
  · first
    | exact Bool.noConfusion hb14
    | (
     have hok : dfgOk g = true := by simpa using hb14
     refine nav ?_
     (refine aC_region ?_
       <;> refine xL 15 (q_fldo 3 tFl28_0_LeR) ?_
       <;> (refine yL 16 (q_ldo 3 tNa25_LeR) fun v16 hv16 => ?_; cases hv16)
       <;> (refine cS 17 (cA Tryz.call53 (dNames_e g.acts ha)) fun v17 hv17 => ?_; cases hv17)
       <;> refine xL 8 q_assign ?_
       <;> refine aL_end (nav ?_) <;> try dsimp only)
     (refine aC_region ?_
       <;> refine xL 18 q_move ?_
       <;> refine xL 19 q_move ?_
       <;> (refine cS 20 (cA Tryz.call60 (sContainsStr_e (cnames g.acts) a)) fun v20 hv20 => ?_; cases hv20)
       <;> refine xL 21 q_not ?_
       <;> refine xL 22 q_move ?_
       <;> (refine bL 22 (fun hb22 => ?_) (fun hb22 => ?_) <;> (first | refine kL 23 ?_ | refine xL 23 q_move ?_))
       <;> (first | refine kL 24 ?_ | refine xL 24 q_move ?_)
       <;> (first | refine kL 25 ?_ | (refine cS 25 (cA Tryz.call60 (sContainsStr_e (cnames g.acts) b)) fun v25 hv25 => ?_; cases hv25))
       <;> (first | refine kL 26 ?_ | refine xL 26 q_not ?_)
       <;> refine xL 27 q_pick ?_
       <;> refine aL_end (nav ?_) <;> try dsimp only) <;> (
      first | refine cCd (fun hb27 => ?_) (fun hb27 => ?_) | refine cC (fun hb27 => ?_) (fun hb27 => ?_)
      · first
        | exact Bool.noConfusion hb27
        | (
         refine nav ?_
         (refine aC_region ?_
           <;> refine xL 6 q_assign ?_
           <;> refine xL 7 q_assign ?_
           <;> refine aL_end (nav ?_) <;> try dsimp only)
         refine ret_ss (Tryz.results34) rfl rfl ?_
         unfold relR
         rw [if_neg (by rw [hok]; decide), if_pos (by cases h1 : hasStr (cnames g.acts) a <;> cases h2 : hasStr (cnames g.acts) b <;> simp_all)])
      · first
        | exact Bool.noConfusion hb27
        | (
         have hin : (hasStr (cnames g.acts) a && hasStr (cnames g.acts) b) = true := by cases h1 : hasStr (cnames g.acts) a <;> cases h2 : hasStr (cnames g.acts) b <;> simp_all
         refine nav ?_
         (refine aC_region ?_
           <;> refine xL 9 q_assign ?_
           <;> refine aL_end (nav ?_) <;> try dsimp only)
         (refine aC_region ?_
           <;> refine xL 28 (q_fldo 3 tFl28_3_LeR) ?_
           <;> (refine yL 29 (q_ldo 3 tNa26_LeR) fun v29 hv29 => ?_; cases hv29)
           <;> refine xL 30 (q_len tSl26_LeR) ?_
           <;> refine xL 31 q_move ?_
           <;> refine aL_end (nav ?_) <;> try dsimp only)
         refine aC_loop (ι := { q : Nat × Bool × Bool // q.1 ≤ g.follows.length ∧ q.2.1 = anyF (g.follows.take q.1) a b ∧ q.2.2 = anyF (g.follows.take q.1) b a }) (fun k => ⟨[(1, _, _), (2, _, _), (3, _, _), (29, _, _), (30, _, _), (9, .int .i64 (relV k.1.2.1 k.1.2.2), pInt (relV k.1.2.1 k.1.2.2)), (31, .int .i64 k.1.1, pInt k.1.1)], [(3, _, _)]⟩) (fun k => g.follows.length - k.1.1) ⟨(0, false, false), Nat.zero_le _, rfl, rfl⟩ (fun a w H => H.weaken ⟨rfl, rfl, rfl, rfl, rfl, rfl, rfl, trivial⟩ ⟨rfl, trivial⟩) ?_
         rintro ⟨⟨k, x1, x2⟩, hk, h1, h2⟩
         dsimp only
         dsimp only at hk h1 h2
         refine nav ?_
         (refine aC_region ?_
           <;> refine xL 32 q_lss ?_
           <;> refine aL_end (nav ?_) <;> try dsimp only)
         first | refine cCd (fun hb32 => ?_) (fun hb32 => ?_) | refine cC (fun hb32 => ?_) (fun hb32 => ?_)
         · first
           | exact Bool.noConfusion hb32
           | (
            obtain ⟨x, hx⟩ := get_some (show k < g.follows.length by omega)
            have e1 := flat_drop cFlw_len g.follows k x hx
            have e2 := flat_fit cFlw_len hx
            have s1 := anyF_snoc hx a b
            have s2 := anyF_snoc hx b a
            rw [← h1] at s1
            rw [← h2] at s2
            refine nav ?_
            (refine aC_region ?_
              <;> refine xL 33 (q_idxN tSl26_LeR) ?_
              <;> (refine yL 34 (q_lda tAgg47_LeR) fun v34 hv34 => ?_; cases hv34)
              <;> refine s_alloc [(.string ByteArray.empty), (.string ByteArray.empty), (.int .i64 0)] 3 11 tZr47_LeR fun h11 => ?_
              <;> refine s_sta 11 tAgg47_LeR ?_
              <;> refine aL_end (nav ?_) <;> try dsimp only)
            (refine aC_region ?_
              <;> refine xL 35 (q_fldo 11 tFl47_0_LeR) ?_
              <;> (refine yL 36 (q_ldo 11 tNa9_LeR) fun v36 hv36 => ?_; cases hv36)
              <;> refine xL 37 q_move ?_
              <;> refine xL 38 q_seql ?_
              <;> refine xL 39 q_move ?_
              <;> (refine bL 39 (fun hb39 => ?_) (fun hb39 => ?_) <;> (first | refine kL 40 ?_ | refine xL 40 (q_fldo 11 tFl47_1_LeR) ?_))
              <;> (first | refine kL 41 ?_ | (refine yL 41 (q_ldo 11 tNa9_LeR) fun v41 hv41 => ?_; cases hv41))
              <;> (first | refine kL 42 ?_ | refine xL 42 q_move ?_)
              <;> (first | refine kL 43 ?_ | refine xL 43 q_seql ?_)
              <;> refine xL 44 q_pick ?_
              <;> refine aL_end (nav ?_) <;> try dsimp only) <;> (
             first | refine cCd (fun hb44 => ?_) (fun hb44 => ?_) | refine cC (fun hb44 => ?_) (fun hb44 => ?_)
             · first
               | exact Bool.noConfusion hb44
               | (
                have t1 : (strEq x.src a && strEq x.dst b) = true := by unfold strEq; simp_all
                rw [t1, Bool.or_true] at s1
                refine nav ?_
                (refine aC_region ?_
                  <;> refine xL 45 q_move ?_
                  <;> refine xL 46 (q_or (relV_or1 x1 x2)) ?_
                  <;> refine xL 9 q_assign ?_
                  <;> refine aL_end (nav ?_) <;> try dsimp only)
                (refine aC_region ?_
                  <;> refine xL 47 (q_fldo 11 tFl47_0_LeR) ?_
                  <;> (refine yL 48 (q_ldo 11 tNa9_LeR) fun v48 hv48 => ?_; cases hv48)
                  <;> refine xL 49 q_move ?_
                  <;> refine xL 50 q_seql ?_
                  <;> refine xL 51 q_move ?_
                  <;> (refine bL 51 (fun hb51 => ?_) (fun hb51 => ?_) <;> (first | refine kL 52 ?_ | refine xL 52 (q_fldo 11 tFl47_1_LeR) ?_))
                  <;> (first | refine kL 53 ?_ | (refine yL 53 (q_ldo 11 tNa9_LeR) fun v53 hv53 => ?_; cases hv53))
                  <;> (first | refine kL 54 ?_ | refine xL 54 q_move ?_)
                  <;> (first | refine kL 55 ?_ | refine xL 55 q_seql ?_)
                  <;> refine xL 56 q_pick ?_
                  <;> refine aL_end (nav ?_) <;> try dsimp only) <;> (
                 first | refine cCd (fun hb56 => ?_) (fun hb56 => ?_) | refine cC (fun hb56 => ?_) (fun hb56 => ?_)
                 · first
                   | exact Bool.noConfusion hb56
                   | (
                    have t2 : (strEq x.src b && strEq x.dst a) = true := by unfold strEq; simp_all
                    rw [t2, Bool.or_true] at s2
                    refine nav ?_
                    (refine aC_region ?_
                      <;> refine xL 57 q_move ?_
                      <;> (first | refine xL 58 (q_or (relV_or2 true x2)) ?_ | refine xL 58 (q_or (relV_or2 x1 x2)) ?_)
                      <;> refine xL 9 q_assign ?_
                      <;> refine aL_end (nav ?_) <;> try dsimp only)
                    (refine aC_region ?_
                      <;> refine xL 59 q_add ?_
                      <;> refine xL 31 q_move ?_
                      <;> refine aL_end (nav ?_) <;> try dsimp only)
                    first
                      | (exact aN_again (
                          ⟨(k + 1, true, true), lt_of_get hx, s1.symm, s2.symm⟩
                          ) (by dsimp only; omega) ⟨rfl, rfl, rfl, rfl, rfl, rfl, rfl, trivial⟩ ⟨rfl, trivial⟩)
                      | (exact aN_again (
                          ⟨(k + 1, true, x2), lt_of_get hx, s1.symm, s2.symm⟩
                          ) (by dsimp only; omega) ⟨rfl, rfl, rfl, rfl, rfl, rfl, rfl, trivial⟩ ⟨rfl, trivial⟩)
                      | (exact aN_again (
                          ⟨(k + 1, x1, true), lt_of_get hx, s1.symm, s2.symm⟩
                          ) (by dsimp only; omega) ⟨rfl, rfl, rfl, rfl, rfl, rfl, rfl, trivial⟩ ⟨rfl, trivial⟩)
                      | (exact aN_again (
                          ⟨(k + 1, x1, x2), lt_of_get hx, s1.symm, s2.symm⟩
                          ) (by dsimp only; omega) ⟨rfl, rfl, rfl, rfl, rfl, rfl, rfl, trivial⟩ ⟨rfl, trivial⟩))
                 · first
                   | exact Bool.noConfusion hb56
                   | (
                    have t2 : (strEq x.src b && strEq x.dst a) = false := by unfold strEq; simp_all
                    rw [t2, Bool.or_false] at s2
                    refine nav ?_
                    (refine aC_region ?_
                      <;> refine xL 59 q_add ?_
                      <;> refine xL 31 q_move ?_
                      <;> refine aL_end (nav ?_) <;> try dsimp only)
                    first
                      | (exact aN_again (
                          ⟨(k + 1, true, true), lt_of_get hx, s1.symm, s2.symm⟩
                          ) (by dsimp only; omega) ⟨rfl, rfl, rfl, rfl, rfl, rfl, rfl, trivial⟩ ⟨rfl, trivial⟩)
                      | (exact aN_again (
                          ⟨(k + 1, true, x2), lt_of_get hx, s1.symm, s2.symm⟩
                          ) (by dsimp only; omega) ⟨rfl, rfl, rfl, rfl, rfl, rfl, rfl, trivial⟩ ⟨rfl, trivial⟩)
                      | (exact aN_again (
                          ⟨(k + 1, x1, true), lt_of_get hx, s1.symm, s2.symm⟩
                          ) (by dsimp only; omega) ⟨rfl, rfl, rfl, rfl, rfl, rfl, rfl, trivial⟩ ⟨rfl, trivial⟩)
                      | (exact aN_again (
                          ⟨(k + 1, x1, x2), lt_of_get hx, s1.symm, s2.symm⟩
                          ) (by dsimp only; omega) ⟨rfl, rfl, rfl, rfl, rfl, rfl, rfl, trivial⟩ ⟨rfl, trivial⟩))))
             · first
               | exact Bool.noConfusion hb44
               | (
                have t1 : (strEq x.src a && strEq x.dst b) = false := by unfold strEq; simp_all
                rw [t1, Bool.or_false] at s1
                refine nav ?_
                (refine aC_region ?_
                  <;> refine xL 47 (q_fldo 11 tFl47_0_LeR) ?_
                  <;> (refine yL 48 (q_ldo 11 tNa9_LeR) fun v48 hv48 => ?_; cases hv48)
                  <;> refine xL 49 q_move ?_
                  <;> refine xL 50 q_seql ?_
                  <;> refine xL 51 q_move ?_
                  <;> (refine bL 51 (fun hb51 => ?_) (fun hb51 => ?_) <;> (first | refine kL 52 ?_ | refine xL 52 (q_fldo 11 tFl47_1_LeR) ?_))
                  <;> (first | refine kL 53 ?_ | (refine yL 53 (q_ldo 11 tNa9_LeR) fun v53 hv53 => ?_; cases hv53))
                  <;> (first | refine kL 54 ?_ | refine xL 54 q_move ?_)
                  <;> (first | refine kL 55 ?_ | refine xL 55 q_seql ?_)
                  <;> refine xL 56 q_pick ?_
                  <;> refine aL_end (nav ?_) <;> try dsimp only) <;> (
                 first | refine cCd (fun hb56 => ?_) (fun hb56 => ?_) | refine cC (fun hb56 => ?_) (fun hb56 => ?_)
                 · first
                   | exact Bool.noConfusion hb56
                   | (
                    have t2 : (strEq x.src b && strEq x.dst a) = true := by unfold strEq; simp_all
                    rw [t2, Bool.or_true] at s2
                    refine nav ?_
                    (refine aC_region ?_
                      <;> refine xL 57 q_move ?_
                      <;> (first | refine xL 58 (q_or (relV_or2 true x2)) ?_ | refine xL 58 (q_or (relV_or2 x1 x2)) ?_)
                      <;> refine xL 9 q_assign ?_
                      <;> refine aL_end (nav ?_) <;> try dsimp only)
                    (refine aC_region ?_
                      <;> refine xL 59 q_add ?_
                      <;> refine xL 31 q_move ?_
                      <;> refine aL_end (nav ?_) <;> try dsimp only)
                    first
                      | (exact aN_again (
                          ⟨(k + 1, true, true), lt_of_get hx, s1.symm, s2.symm⟩
                          ) (by dsimp only; omega) ⟨rfl, rfl, rfl, rfl, rfl, rfl, rfl, trivial⟩ ⟨rfl, trivial⟩)
                      | (exact aN_again (
                          ⟨(k + 1, true, x2), lt_of_get hx, s1.symm, s2.symm⟩
                          ) (by dsimp only; omega) ⟨rfl, rfl, rfl, rfl, rfl, rfl, rfl, trivial⟩ ⟨rfl, trivial⟩)
                      | (exact aN_again (
                          ⟨(k + 1, x1, true), lt_of_get hx, s1.symm, s2.symm⟩
                          ) (by dsimp only; omega) ⟨rfl, rfl, rfl, rfl, rfl, rfl, rfl, trivial⟩ ⟨rfl, trivial⟩)
                      | (exact aN_again (
                          ⟨(k + 1, x1, x2), lt_of_get hx, s1.symm, s2.symm⟩
                          ) (by dsimp only; omega) ⟨rfl, rfl, rfl, rfl, rfl, rfl, rfl, trivial⟩ ⟨rfl, trivial⟩))
                 · first
                   | exact Bool.noConfusion hb56
                   | (
                    have t2 : (strEq x.src b && strEq x.dst a) = false := by unfold strEq; simp_all
                    rw [t2, Bool.or_false] at s2
                    refine nav ?_
                    (refine aC_region ?_
                      <;> refine xL 59 q_add ?_
                      <;> refine xL 31 q_move ?_
                      <;> refine aL_end (nav ?_) <;> try dsimp only)
                    first
                      | (exact aN_again (
                          ⟨(k + 1, true, true), lt_of_get hx, s1.symm, s2.symm⟩
                          ) (by dsimp only; omega) ⟨rfl, rfl, rfl, rfl, rfl, rfl, rfl, trivial⟩ ⟨rfl, trivial⟩)
                      | (exact aN_again (
                          ⟨(k + 1, true, x2), lt_of_get hx, s1.symm, s2.symm⟩
                          ) (by dsimp only; omega) ⟨rfl, rfl, rfl, rfl, rfl, rfl, rfl, trivial⟩ ⟨rfl, trivial⟩)
                      | (exact aN_again (
                          ⟨(k + 1, x1, true), lt_of_get hx, s1.symm, s2.symm⟩
                          ) (by dsimp only; omega) ⟨rfl, rfl, rfl, rfl, rfl, rfl, rfl, trivial⟩ ⟨rfl, trivial⟩)
                      | (exact aN_again (
                          ⟨(k + 1, x1, x2), lt_of_get hx, s1.symm, s2.symm⟩
                          ) (by dsimp only; omega) ⟨rfl, rfl, rfl, rfl, rfl, rfl, rfl, trivial⟩ ⟨rfl, trivial⟩))))))
         · first
           | exact Bool.noConfusion hb32
           | (
            refine nav ?_
            (refine aC_region ?_
              <;> refine xL 60 q_move ?_
              <;> refine xL 6 q_assign ?_
              <;> refine xL 7 q_assign ?_
              <;> refine aL_end (nav ?_) <;> try dsimp only)
            refine ret_ss (Tryz.results34) rfl rfl ?_
            unfold relR
            rw [if_neg (by rw [hok]; decide), if_neg (by rw [hin]; decide)]
            rw [h1, h2, List.take_of_length_le (by omega)]))))
end Go.Proofs.YtebcjijpdhbcdaaGreat
