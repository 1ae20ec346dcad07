/-
  Walks: words are compared; which words are among others (layer 17).
-/
import Derived.Test.YtebcjijpdhbcdaaGreatLn
import Derived.Test.YtebcjijpdhbcdaaGreatMEoG
namespace Go.Proofs.YtebcjijpdhbcdaaGreat
open Go.RowKit Go.Cb Go.En
set_option linter.all false
set_option maxRecDepth 100000

theorem tNa36_LeP : NoAgg Tryz.prog 36 = true := by kernel_rfl
theorem tNa51_LeP : NoAgg Tryz.prog 51 = true := by kernel_rfl
theorem tNa9_LeP : NoAgg Tryz.prog 9 = true := by kernel_rfl
theorem tSl51_LeP : SlT Tryz.prog 51 9 1 = true := by kernel_rfl

def eqW (a b : List ByteArray) : Bool := decide (a.length = b.length) && allEq strEq a b
theorem eqW_self (a : List ByteArray) : eqW a a = true := by
  unfold eqW
  rw [allEq_self (fun x => strEq_iff.2 rfl)]; simp
theorem sEqualStr_e (a b : List ByteArray) : AF Tryz.prog 26 [pStrs a, pStrs b] (· = pBool (eqW a b)) := by
  refine AF.of_body 26 Tryz.func26 rfl Tryz.ntmps26 (Nat.le_of_ble_eq_true rfl) ?_
  intro w0 M0 vs hl hv
  obtain ⟨v0, v1, rfl⟩ := len2 hl
  clear hl hv
  refine aC_slen 0 rfl fun hlen => ?_
  refine aC_slen 1 rfl fun hlen2 => ?_
  refine nav ?_
  (refine aC_region ?_
    <;> refine xL 4 q_assign ?_
    <;> refine aL_end (nav ?_) <;> try dsimp only)
  (refine aC_region ?_
    <;> refine xL 6 q_move ?_
    <;> refine xL 7 (q_len tSl51_LeP) ?_
    <;> refine xL 8 q_move ?_
    <;> refine xL 9 (q_len tSl51_LeP) ?_
    <;> refine xL 10 q_neq ?_
    <;> refine aL_end (nav ?_) <;> try dsimp only)
  first | refine cCd (fun hb10 => ?_) (fun hb10 => ?_) | refine cC (fun hb10 => ?_) (fun hb10 => ?_)
  · first
    | exact Bool.noConfusion hb10
    | (
     refine nav ?_
     (refine aC_region ?_
       <;> refine xL 4 q_assign ?_
       <;> refine aL_end (nav ?_) <;> try dsimp only)
     refine ret_shr (Tryz.results26) rfl ?_
     unfold eqW
     rw [decide_eq_false (by omega)]; rfl)
  · first
    | exact Bool.noConfusion hb10
    | (
     refine nav ?_
     (refine aC_region ?_
       <;> refine xL 11 q_move ?_
       <;> refine xL 12 (q_len tSl51_LeP) ?_
       <;> refine xL 13 q_move ?_
       <;> refine aL_end (nav ?_) <;> try dsimp only)
     refine aC_loop (ι := { k : Nat // k ≤ a.length ∧ ∀ j x y, j < k → a[j]? = some x → b[j]? = some y → strEq x y = true }) (fun k => ⟨[(0, _, _), (1, _, _), (12, _, _), (13, .int .i64 k.1, pInt k.1)], []⟩) (fun k => a.length - k.1) ⟨0, by omega, by omega⟩ (fun a w H => H.weaken ⟨rfl, rfl, rfl, rfl, trivial⟩ trivial) ?_
     rintro ⟨k, hk, hp⟩
     dsimp only
     refine nav ?_
     (refine aC_region ?_
       <;> refine xL 14 q_lss ?_
       <;> refine aL_end (nav ?_) <;> try dsimp only)
     first | refine cCd (fun hb14 => ?_) (fun hb14 => ?_) | refine cC (fun hb14 => ?_) (fun hb14 => ?_)
     · first
       | exact Bool.noConfusion hb14
       | (
        obtain ⟨x, hx⟩ := get_some (show k < a.length by omega)
        obtain ⟨y, hy⟩ := get_some (show k < b.length by omega)
        have e1 := map_at (f := pStr) hx
        have e2 := map_at (f := pStr) hy
        refine nav ?_
        (refine aC_region ?_
          <;> refine xL 15 q_move ?_
          <;> refine xL 5 q_assign ?_
          <;> refine aL_end (nav ?_) <;> try dsimp only)
        (refine aC_draw (fun i => ([] : List Nat).elem i) [] (by kernel_rfl) ?_
          <;> refine xD 0 16 rfl q_move ?_
          <;> refine xD 1 17 rfl q_move ?_
          <;> refine xD 2 18 rfl (q_idxN tSl51_LeP) ?_
          <;> (refine yD 3 19 rfl (q_ld tNa9_LeP) fun v19 hv19 => ?_; cases hv19)
          <;> refine xD 4 20 rfl q_move ?_
          <;> refine xE 5 21 rfl q_move ?_
          <;> refine xE 6 22 rfl (q_idxN tSl51_LeP) ?_
          <;> (refine yE 7 23 rfl (q_ld tNa9_LeP) fun v23 hv23 => ?_; cases hv23)
          <;> refine xE 8 24 rfl q_sneq ?_
          <;> refine aD_end (by kernel_rfl) (nav ?_)
          <;> try dsimp only)
        first | refine cCd (fun hb24 => ?_) (fun hb24 => ?_) | refine cC (fun hb24 => ?_) (fun hb24 => ?_)
        · first
          | exact Bool.noConfusion hb24
          | (
           refine nav ?_
           (refine aC_region ?_
             <;> refine xL 4 q_assign ?_
             <;> refine aL_end (nav ?_) <;> try dsimp only)
           refine ret_shr (Tryz.results26) rfl ?_
           unfold eqW
           rw [allEq_stop hx hy (show strEq x y = false by simpa [strEq] using hb24)]; simp)
        · first
          | exact Bool.noConfusion hb24
          | (
           refine nav ?_
           (refine aC_region ?_
             <;> refine xL 25 q_add ?_
             <;> refine xL 13 q_move ?_
             <;> refine aL_end (nav ?_) <;> try dsimp only)
           refine aN_again (
             ⟨k + 1, lt_of_get hx, fun j x' y' hj hx' hy' => by
               by_cases e : j = k
               · subst e; rw [hx] at hx'; rw [hy] at hy'; cases hx'; cases hy'; simpa [strEq] using hb24
               · exact hp j x' y' (by omega) hx' hy'⟩
             ) (by dsimp only; omega) ⟨rfl, rfl, rfl, rfl, trivial⟩ trivial))
     · first
       | exact Bool.noConfusion hb14
       | (
        refine nav ?_
        (refine aC_region ?_
          <;> refine xL 4 q_assign ?_
          <;> refine aL_end (nav ?_) <;> try dsimp only)
        refine ret_shr (Tryz.results26) rfl ?_
        have h9 : allEq strEq a b = true := allEq_end fun j x y hx hy => hp j x y (by have := lt_of_get hx; omega) hx hy
        unfold eqW
        rw [h9, decide_eq_true (by omega)]; rfl))
def inWs (X : List (List ByteArray)) (w : List ByteArray) : Bool := X.any fun v => eqW v w
theorem dfgLess11_e (v w : List ByteArray) : AF Tryz.prog 25 [pStrs v, .sptr 0 [pStrs w]] (· = pBool (eqW v w)) := by
  refine AF.of_body 7 Tryz.func25 rfl Tryz.ntmps25 (Nat.le_of_ble_eq_true rfl) ?_
  intro w0 M0 vs hl hv
  obtain ⟨v0, v1, rfl⟩ := len2 hl
  clear hl hv
  refine nav ?_
  (refine aC_region ?_
    <;> refine xL 3 q_assign ?_
    <;> refine aL_end (nav ?_) <;> try dsimp only)
  (refine aC_region ?_
    <;> refine xL 4 q_move ?_
    <;> (refine yL 5 (q_ld tNa51_LeP) fun v5 hv5 => ?_; cases hv5)
    <;> (refine cS 6 (cA Tryz.call26 (sEqualStr_e v w)) fun v6 hv6 => ?_; cases hv6)
    <;> refine xL 3 q_assign ?_
    <;> refine aL_end (nav ?_) <;> try dsimp only)
  exact ret_shr Tryz.results25 rfl rfl
theorem dfgLess1_e (w : List ByteArray) (X : List (List ByteArray)) : AF Tryz.prog 24 [pStrs w, .sptr 0 [pStrss X]] (· = pBool (!inWs X w)) := by
  refine AF.of_body 8 Tryz.func24 rfl Tryz.ntmps24 (Nat.le_of_ble_eq_true rfl) ?_
  intro w0 M0 vs hl hv
  obtain ⟨v0, v1, rfl⟩ := len2 hl
  clear hl hv
  refine nav ?_
  (refine aC_region ?_
    <;> refine s_box 2 fun h2 => ?_
    <;> refine xL 3 q_assign ?_
    <;> refine aL_end (nav ?_) <;> try dsimp only)
  refine aC_ent (freezeP (l := 2) (t := 2) (j := 0) rfl Nat.one_pos rfl) fun _ => ?_
  (refine aC_region ?_
    <;> (refine yL 4 (q_ld tNa36_LeP) fun v4 hv4 => ?_; cases hv4)
    <;> refine xL 5 q_mkfn ?_
    <;> (refine cS 6 (cA Tryz.call23 (containsFuncStrs_e 25 [.sptr 0 [pStrs w]] (fun v => eqW v w) X (Tryz.call25) (fun v _ => dfgLess11_e v w))) fun v6 hv6 => ?_; cases hv6)
    <;> refine xL 7 q_not ?_
    <;> refine xL 3 q_assign ?_
    <;> refine aL_end (nav ?_) <;> try dsimp only)
  exact ret_shr Tryz.results24 rfl rfl
end Go.Proofs.YtebcjijpdhbcdaaGreat
