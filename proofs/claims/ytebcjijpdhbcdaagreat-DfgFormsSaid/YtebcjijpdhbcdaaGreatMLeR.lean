/-
  Walks: which words an automaton accepts; how two activities are related.
-/
import Derived.Test.YtebcjijpdhbcdaaGreatLn
import Derived.Test.YtebcjijpdhbcdaaGreatMEoG
namespace Go.Proofs.YtebcjijpdhbcdaaGreat
open Go.RowKit Go.Cb Go.En
set_option linter.all false
set_option maxRecDepth 100000

theorem tAgg28_LeR : AggT Tryz.prog 28 4 = true := by kernel_rfl
theorem tAgg47_LeR : AggT Tryz.prog 47 3 = true := by kernel_rfl
theorem tFl28_0_LeR : FldT Tryz.prog 28 0 0 = true := by kernel_rfl
theorem tFl28_3_LeR : FldT Tryz.prog 28 3 3 = true := by kernel_rfl
theorem tFl47_0_LeR : FldT Tryz.prog 47 0 0 = true := by kernel_rfl
theorem tFl47_1_LeR : FldT Tryz.prog 47 1 1 = true := by kernel_rfl
theorem tNa25_LeR : NoAgg Tryz.prog 25 = true := by kernel_rfl
theorem tNa26_LeR : NoAgg Tryz.prog 26 = true := by kernel_rfl
theorem tNa9_LeR : NoAgg Tryz.prog 9 = true := by kernel_rfl
theorem tSl26_LeR : SlT Tryz.prog 26 47 3 = true := by kernel_rfl
theorem tZr47_LeR : ZeroT Tryz.prog 47 (.agg #[(.string ByteArray.empty), (.string ByteArray.empty), (.int .i64 0)]) := by unfold ZeroT; kernel_rfl

def anyF (l : List Flw) (a b : ByteArray) : Bool := l.any fun f => strEq f.src a && strEq f.dst b
theorem anyF_snoc {l : List Flw} {k : Nat} {x : Flw} (h : l[k]? = some x) (a b : ByteArray) : anyF (l.take (k + 1)) a b = (anyF (l.take k) a b || (strEq x.src a && strEq x.dst b)) := by
  unfold anyF; rw [take_snoc h, List.any_append]; simp
def relV (x y : Bool) : Int := match x, y with
  | false, false => 0
  | true, false => 1
  | false, true => 2
  | true, true => 3
theorem relV_or1 (x y : Bool) : IntKind.wrap .i64 ((BitVec.ofInt 64 (relV x y) ||| BitVec.ofInt 64 1).toNat : Nat) = relV true y := by cases x <;> cases y <;> decide
theorem relV_or2 (x y : Bool) : IntKind.wrap .i64 ((BitVec.ofInt 64 (relV x y) ||| BitVec.ofInt 64 2).toNat : Nat) = relV x true := by cases x <;> cases y <;> decide
def relR (g : Dfg) (a b : ByteArray) : Int × Int := if dfgOk g = false then (0, 1) else if (hasStr (cnames g.acts) a && hasStr (cnames g.acts) b) = false then (0, 8) else (relV (anyF g.follows a b) (anyF g.follows b a), 0)
set_option maxHeartbeats 2000000 in
theorem dRelation_e (g : Dfg) (a b : ByteArray) (hf : fitD g) (ha : g.acts.length ≤ 1000000) (hs : g.starts.length ≤ 1000000) (he : g.ends.length ≤ 1000000) : AF Tryz.prog 34 [pDfg g, pStr a, pStr b] (· = .tup [pInt (relR g a b).1, pInt (relR g a b).2]) := by
  have hlf := hf.2.2.2.1
  refine AF.of_body 61 Tryz.func34 rfl Tryz.ntmps34 (Nat.le_of_ble_eq_true rfl) ?_
  intro w0 M0 vs hl hv
  obtain ⟨v0, v1, v2, rfl⟩ := len3 hl
  obtain rfl := hv 1 _ _ rfl rfl
  obtain rfl := hv 2 _ _ rfl rfl
  clear hl hv
  refine nav ?_
  (refine aC_region ?_
    <;> refine s_boxa 3 4 fun h3 => ?_
    <;> refine xL 6 q_assign ?_
    <;> refine xL 7 q_assign ?_
    <;> refine aL_end (nav ?_) <;> try dsimp only)
  (refine aC_region ?_
    <;> (refine yL 12 (q_ldao 3 tAgg28_LeR) fun v12 hv12 => ?_; cases hv12)
    <;> (refine cS 13 (cA Tryz.call16 (dValid_e g hf ha hs he)) fun v13 hv13 => ?_; cases hv13)
    <;> refine xL 14 q_not ?_
    <;> refine aL_end (nav ?_) <;> try dsimp only)
  first | refine cCd (fun hb14 => ?_) (fun hb14 => ?_) | refine cC (fun hb14 => ?_) (fun hb14 => ?_)
  · first
    | exact Bool.noConfusion hb14
    | (
     refine nav ?_
     (refine aC_region ?_
       <;> refine xL 6 q_assign ?_
       <;> refine xL 7 q_assign ?_
       <;> refine aL_end (nav ?_) <;> try dsimp only)
     refine ret_ss (Tryz.results34) rfl rfl ?_
     unfold relR
     rw [if_pos (by simpa using hb14)])
  · first
    | exact Bool.noConfusion hb14
    | (
     have hok : dfgOk g = true := by simpa using hb14
     refine nav ?_
     (refine aC_region ?_
       <;> refine xL 15 (q_fldo 3 tFl28_0_LeR) ?_
       <;> (refine yL 16 (q_ldo 3 tNa25_LeR) fun v16 hv16 => ?_; cases hv16)
       <;> (refine cS 17 (cA Tryz.call53 (dNames_e g.acts ha)) fun v17 hv17 => ?_; cases hv17)
       <;> refine xL 8 q_assign ?_
       <;> refine aL_end (nav ?_) <;> try dsimp only)
     (refine aC_region ?_
       <;> refine xL 18 q_move ?_
       <;> refine xL 19 q_move ?_
       <;> (refine cS 20 (cA Tryz.call60 (sContainsStr_e (cnames g.acts) a)) fun v20 hv20 => ?_; cases hv20)
       <;> refine xL 21 q_not ?_
       <;> refine xL 22 q_move ?_
       <;> (refine bL 22 (fun hb22 => ?_) (fun hb22 => ?_) <;> (first | refine kL 23 ?_ | refine xL 23 q_move ?_))
       <;> (first | refine kL 24 ?_ | refine xL 24 q_move ?_)
       <;> (first | refine kL 25 ?_ | (refine cS 25 (cA Tryz.call60 (sContainsStr_e (cnames g.acts) b)) fun v25 hv25 => ?_; cases hv25))
       <;> (first | refine kL 26 ?_ | refine xL 26 q_not ?_)
       <;> refine xL 27 q_pick ?_
       <;> refine aL_end (nav ?_) <;> try dsimp only) <;> (
      first | refine cCd (fun hb27 => ?_) (fun hb27 => ?_) | refine cC (fun hb27 => ?_) (fun hb27 => ?_)
      · first
        | exact Bool.noConfusion hb27
        | (
         refine nav ?_
         (refine aC_region ?_
           <;> refine xL 6 q_assign ?_
           <;> refine xL 7 q_assign ?_
           <;> refine aL_end (nav ?_) <;> try dsimp only)
         refine ret_ss (Tryz.results34) rfl rfl ?_
         unfold relR
         rw [if_neg (by rw [hok]; decide), if_pos (by cases h1 : hasStr (cnames g.acts) a <;> cases h2 : hasStr (cnames g.acts) b <;> simp_all)])
      · first
        | exact Bool.noConfusion hb27
        | (
         have hin : (hasStr (cnames g.acts) a && hasStr (cnames g.acts) b) = true := by cases h1 : hasStr (cnames g.acts) a <;> cases h2 : hasStr (cnames g.acts) b <;> simp_all
         refine nav ?_
         (refine aC_region ?_
           <;> refine xL 9 q_assign ?_
           <;> refine aL_end (nav ?_) <;> try dsimp only)
         (refine aC_region ?_
           <;> refine xL 28 (q_fldo 3 tFl28_3_LeR) ?_
           <;> (refine yL 29 (q_ldo 3 tNa26_LeR) fun v29 hv29 => ?_; cases hv29)
           <;> refine xL 30 (q_len tSl26_LeR) ?_
           <;> refine xL 31 q_move ?_
           <;> refine aL_end (nav ?_) <;> try dsimp only)
         refine aC_loop (ι := { q : Nat × Bool × Bool // q.1 ≤ g.follows.length ∧ q.2.1 = anyF (g.follows.take q.1) a b ∧ q.2.2 = anyF (g.follows.take q.1) b a }) (fun k => ⟨[(1, _, _), (2, _, _), (3, _, _), (29, _, _), (30, _, _), (9, .int .i64 (relV k.1.2.1 k.1.2.2), pInt (relV k.1.2.1 k.1.2.2)), (31, .int .i64 k.1.1, pInt k.1.1)], [(3, _, _)]⟩) (fun k => g.follows.length - k.1.1) ⟨(0, false, false), Nat.zero_le _, rfl, rfl⟩ (fun a w H => H.weaken ⟨rfl, rfl, rfl, rfl, rfl, rfl, rfl, trivial⟩ ⟨rfl, trivial⟩) ?_
         rintro ⟨⟨k, x1, x2⟩, hk, h1, h2⟩
         dsimp only
         dsimp only at hk h1 h2
         refine nav ?_
         (refine aC_region ?_
           <;> refine xL 32 q_lss ?_
           <;> refine aL_end (nav ?_) <;> try dsimp only)
         first | refine cCd (fun hb32 => ?_) (fun hb32 => ?_) | refine cC (fun hb32 => ?_) (fun hb32 => ?_)
         · first
           | exact Bool.noConfusion hb32
           | (
            obtain ⟨x, hx⟩ := get_some (show k < g.follows.length by omega)
            have e1 := flat_drop cFlw_len g.follows k x hx
            have e2 := flat_fit cFlw_len hx
            have s1 := anyF_snoc hx a b
            have s2 := anyF_snoc hx b a
            rw [← h1] at s1
            rw [← h2] at s2
            refine nav ?_
            (refine aC_region ?_
              <;> refine xL 33 (q_idxN tSl26_LeR) ?_
              <;> (refine yL 34 (q_lda tAgg47_LeR) fun v34 hv34 => ?_; cases hv34)
              <;> refine s_alloc [(.string ByteArray.empty), (.string ByteArray.empty), (.int .i64 0)] 3 11 tZr47_LeR fun h11 => ?_
              <;> refine s_sta 11 tAgg47_LeR ?_
              <;> refine aL_end (nav ?_) <;> try dsimp only)
            (refine aC_region ?_
              <;> refine xL 35 (q_fldo 11 tFl47_0_LeR) ?_
              <;> (refine yL 36 (q_ldo 11 tNa9_LeR) fun v36 hv36 => ?_; cases hv36)
              <;> refine xL 37 q_move ?_
              <;> refine xL 38 q_seql ?_
              <;> refine xL 39 q_move ?_
              <;> (refine bL 39 (fun hb39 => ?_) (fun hb39 => ?_) <;> (first | refine kL 40 ?_ | refine xL 40 (q_fldo 11 tFl47_1_LeR) ?_))
              <;> (first | refine kL 41 ?_ | (refine yL 41 (q_ldo 11 tNa9_LeR) fun v41 hv41 => ?_; cases hv41))
              <;> (first | refine kL 42 ?_ | refine xL 42 q_move ?_)
              <;> (first | refine kL 43 ?_ | refine xL 43 q_seql ?_)
              <;> refine xL 44 q_pick ?_
              <;> refine aL_end (nav ?_) <;> try dsimp only) <;> (
             first | refine cCd (fun hb44 => ?_) (fun hb44 => ?_) | refine cC (fun hb44 => ?_) (fun hb44 => ?_)
             · first
               | exact Bool.noConfusion hb44
               | (
                have t1 : (strEq x.src a && strEq x.dst b) = true := by unfold strEq; simp_all
                rw [t1, Bool.or_true] at s1
                refine nav ?_
                (refine aC_region ?_
                  <;> refine xL 45 q_move ?_
                  <;> refine xL 46 (q_or (relV_or1 x1 x2)) ?_
                  <;> refine xL 9 q_assign ?_
                  <;> refine aL_end (nav ?_) <;> try dsimp only)
                (refine aC_region ?_
                  <;> refine xL 47 (q_fldo 11 tFl47_0_LeR) ?_
                  <;> (refine yL 48 (q_ldo 11 tNa9_LeR) fun v48 hv48 => ?_; cases hv48)
                  <;> refine xL 49 q_move ?_
                  <;> refine xL 50 q_seql ?_
                  <;> refine xL 51 q_move ?_
                  <;> (refine bL 51 (fun hb51 => ?_) (fun hb51 => ?_) <;> (first | refine kL 52 ?_ | refine xL 52 (q_fldo 11 tFl47_1_LeR) ?_))
                  <;> (first | refine kL 53 ?_ | (refine yL 53 (q_ldo 11 tNa9_LeR) fun v53 hv53 => ?_; cases hv53))
                  <;> (first | refine kL 54 ?_ | refine xL 54 q_move ?_)
                  <;> (first | refine kL 55 ?_ | refine xL 55 q_seql ?_)
                  <;> refine xL 56 q_pick ?_
                  <;> refine aL_end (nav ?_) <;> try dsimp only) <;> (
                 first | refine cCd (fun hb56 => ?_) (fun hb56 => ?_) | refine cC (fun hb56 => ?_) (fun hb56 => ?_)
                 · first
                   | exact Bool.noConfusion hb56
                   | (
                    have t2 : (strEq x.src b && strEq x.dst a) = true := by unfold strEq; simp_all
                    rw [t2, Bool.or_true] at s2
                    refine nav ?_
                    (refine aC_region ?_
                      <;> refine xL 57 q_move ?_
                      <;> (first | refine xL 58 (q_or (relV_or2 true x2)) ?_ | refine xL 58 (q_or (relV_or2 x1 x2)) ?_)
                      <;> refine xL 9 q_assign ?_
                      <;> refine aL_end (nav ?_) <;> try dsimp only)
                    (refine aC_region ?_
                      <;> refine xL 59 q_add ?_
                      <;> refine xL 31 q_move ?_
                      <;> refine aL_end (nav ?_) <;> try dsimp only)
                    first
                      | (exact aN_again (
                          ⟨(k + 1, true, true), lt_of_get hx, s1.symm, s2.symm⟩
                          ) (by dsimp only; omega) ⟨rfl, rfl, rfl, rfl, rfl, rfl, rfl, trivial⟩ ⟨rfl, trivial⟩)
                      | (exact aN_again (
                          ⟨(k + 1, true, x2), lt_of_get hx, s1.symm, s2.symm⟩
                          ) (by dsimp only; omega) ⟨rfl, rfl, rfl, rfl, rfl, rfl, rfl, trivial⟩ ⟨rfl, trivial⟩)
                      | (exact aN_again (
                          ⟨(k + 1, x1, true), lt_of_get hx, s1.symm, s2.symm⟩
                          ) (by dsimp only; omega) ⟨rfl, rfl, rfl, rfl, rfl, rfl, rfl, trivial⟩ ⟨rfl, trivial⟩)
                      | (exact aN_again (
                          ⟨(k + 1, x1, x2), lt_of_get hx, s1.symm, s2.symm⟩
                          ) (by dsimp only; omega) ⟨rfl, rfl, rfl, rfl, rfl, rfl, rfl, trivial⟩ ⟨rfl, trivial⟩))
                 · first
                   | exact Bool.noConfusion hb56
                   | (
                    have t2 : (strEq x.src b && strEq x.dst a) = false := by unfold strEq; simp_all
                    rw [t2, Bool.or_false] at s2
                    refine nav ?_
                    (refine aC_region ?_
                      <;> refine xL 59 q_add ?_
                      <;> refine xL 31 q_move ?_
                      <;> refine aL_end (nav ?_) <;> try dsimp only)
                    first
                      | (exact aN_again (
                          ⟨(k + 1, true, true), lt_of_get hx, s1.symm, s2.symm⟩
                          ) (by dsimp only; omega) ⟨rfl, rfl, rfl, rfl, rfl, rfl, rfl, trivial⟩ ⟨rfl, trivial⟩)
                      | (exact aN_again (
                          ⟨(k + 1, true, x2), lt_of_get hx, s1.symm, s2.symm⟩
                          ) (by dsimp only; omega) ⟨rfl, rfl, rfl, rfl, rfl, rfl, rfl, trivial⟩ ⟨rfl, trivial⟩)
                      | (exact aN_again (
                          ⟨(k + 1, x1, true), lt_of_get hx, s1.symm, s2.symm⟩
                          ) (by dsimp only; omega) ⟨rfl, rfl, rfl, rfl, rfl, rfl, rfl, trivial⟩ ⟨rfl, trivial⟩)
                      | (exact aN_again (
                          ⟨(k + 1, x1, x2), lt_of_get hx, s1.symm, s2.symm⟩
                          ) (by dsimp only; omega) ⟨rfl, rfl, rfl, rfl, rfl, rfl, rfl, trivial⟩ ⟨rfl, trivial⟩))))
             · first
               | exact Bool.noConfusion hb44
               | (
                have t1 : (strEq x.src a && strEq x.dst b) = false := by unfold strEq; simp_all
                rw [t1, Bool.or_false] at s1
                refine nav ?_
                (refine aC_region ?_
                  <;> refine xL 47 (q_fldo 11 tFl47_0_LeR) ?_
                  <;> (refine yL 48 (q_ldo 11 tNa9_LeR) fun v48 hv48 => ?_; cases hv48)
                  <;> refine xL 49 q_move ?_
                  <;> refine xL 50 q_seql ?_
                  <;> refine xL 51 q_move ?_
                  <;> (refine bL 51 (fun hb51 => ?_) (fun hb51 => ?_) <;> (first | refine kL 52 ?_ | refine xL 52 (q_fldo 11 tFl47_1_LeR) ?_))
                  <;> (first | refine kL 53 ?_ | (refine yL 53 (q_ldo 11 tNa9_LeR) fun v53 hv53 => ?_; cases hv53))
                  <;> (first | refine kL 54 ?_ | refine xL 54 q_move ?_)
                  <;> (first | refine kL 55 ?_ | refine xL 55 q_seql ?_)
                  <;> refine xL 56 q_pick ?_
                  <;> refine aL_end (nav ?_) <;> try dsimp only) <;> (
                 first | refine cCd (fun hb56 => ?_) (fun hb56 => ?_) | refine cC (fun hb56 => ?_) (fun hb56 => ?_)
                 · first
                   | exact Bool.noConfusion hb56
                   | (
                    have t2 : (strEq x.src b && strEq x.dst a) = true := by unfold strEq; simp_all
                    rw [t2, Bool.or_true] at s2
                    refine nav ?_
                    (refine aC_region ?_
                      <;> refine xL 57 q_move ?_
                      <;> (first | refine xL 58 (q_or (relV_or2 true x2)) ?_ | refine xL 58 (q_or (relV_or2 x1 x2)) ?_)
                      <;> refine xL 9 q_assign ?_
                      <;> refine aL_end (nav ?_) <;> try dsimp only)
                    (refine aC_region ?_
                      <;> refine xL 59 q_add ?_
                      <;> refine xL 31 q_move ?_
                      <;> refine aL_end (nav ?_) <;> try dsimp only)
                    first
                      | (exact aN_again (
                          ⟨(k + 1, true, true), lt_of_get hx, s1.symm, s2.symm⟩
                          ) (by dsimp only; omega) ⟨rfl, rfl, rfl, rfl, rfl, rfl, rfl, trivial⟩ ⟨rfl, trivial⟩)
                      | (exact aN_again (
                          ⟨(k + 1, true, x2), lt_of_get hx, s1.symm, s2.symm⟩
                          ) (by dsimp only; omega) ⟨rfl, rfl, rfl, rfl, rfl, rfl, rfl, trivial⟩ ⟨rfl, trivial⟩)
                      | (exact aN_again (
                          ⟨(k + 1, x1, true), lt_of_get hx, s1.symm, s2.symm⟩
                          ) (by dsimp only; omega) ⟨rfl, rfl, rfl, rfl, rfl, rfl, rfl, trivial⟩ ⟨rfl, trivial⟩)
                      | (exact aN_again (
                          ⟨(k + 1, x1, x2), lt_of_get hx, s1.symm, s2.symm⟩
                          ) (by dsimp only; omega) ⟨rfl, rfl, rfl, rfl, rfl, rfl, rfl, trivial⟩ ⟨rfl, trivial⟩))
                 · first
                   | exact Bool.noConfusion hb56
                   | (
                    have t2 : (strEq x.src b && strEq x.dst a) = false := by unfold strEq; simp_all
                    rw [t2, Bool.or_false] at s2
                    refine nav ?_
                    (refine aC_region ?_
                      <;> refine xL 59 q_add ?_
                      <;> refine xL 31 q_move ?_
                      <;> refine aL_end (nav ?_) <;> try dsimp only)
                    first
                      | (exact aN_again (
                          ⟨(k + 1, true, true), lt_of_get hx, s1.symm, s2.symm⟩
                          ) (by dsimp only; omega) ⟨rfl, rfl, rfl, rfl, rfl, rfl, rfl, trivial⟩ ⟨rfl, trivial⟩)
                      | (exact aN_again (
                          ⟨(k + 1, true, x2), lt_of_get hx, s1.symm, s2.symm⟩
                          ) (by dsimp only; omega) ⟨rfl, rfl, rfl, rfl, rfl, rfl, rfl, trivial⟩ ⟨rfl, trivial⟩)
                      | (exact aN_again (
                          ⟨(k + 1, x1, true), lt_of_get hx, s1.symm, s2.symm⟩
                          ) (by dsimp only; omega) ⟨rfl, rfl, rfl, rfl, rfl, rfl, rfl, trivial⟩ ⟨rfl, trivial⟩)
                      | (exact aN_again (
                          ⟨(k + 1, x1, x2), lt_of_get hx, s1.symm, s2.symm⟩
                          ) (by dsimp only; omega) ⟨rfl, rfl, rfl, rfl, rfl, rfl, rfl, trivial⟩ ⟨rfl, trivial⟩))))))
         · first
           | exact Bool.noConfusion hb32
           | (
            refine nav ?_
            (refine aC_region ?_
              <;> refine xL 60 q_move ?_
              <;> refine xL 6 q_assign ?_
              <;> refine xL 7 q_assign ?_
              <;> refine aL_end (nav ?_) <;> try dsimp only)
            refine ret_ss (Tryz.results34) rfl rfl ?_
            unfold relR
            rw [if_neg (by rw [hok]; decide), if_neg (by rw [hin]; decide)]
            rw [h1, h2, List.take_of_length_le (by omega)]))))
end Go.Proofs.YtebcjijpdhbcdaaGreat
