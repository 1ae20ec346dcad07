/-
  Walks of the reference: counts are compared.
  Walks of the reference: graphs are compared.
  Walks of the reference: Threshold.
-/
import Derived.Test.YtebcjijpdhbcdaaGreatLh
import Derived.Test.YtebcjijpdhbcdaaGreatEngc
import Derived.Test.YtebcjijpdhbcdaaGreatLc
namespace Go.Proofs.YtebcjijpdhbcdaaGreat
open Go.RowKit Go.Cb Go.En
set_option linter.all false
set_option maxRecDepth 100000

theorem tAgg44_LdN : AggT Tryz.prog 44 2 = true := by kernel_rfl
theorem tSl25_LdN : SlT Tryz.prog 25 44 2 = true := by kernel_rfl

def cntEq (a b : Cnt) : Bool := (a.name.toList == b.name.toList) && (a.n == b.n)
def flwEq (a b : Flw) : Bool := (a.src.toList == b.src.toList) && ((a.dst.toList == b.dst.toList) && (a.n == b.n))
theorem eqCnt_run (a b : Cnt) (w : World) : (Op.eqFields 9999 [Value.string a.name, .int .i64 a.n].toArray [Value.string b.name, .int .i64 b.n].toArray (Tryz.prog.fieldsOf 44).toList).run Tryz.prog w = .ok (cntEq a b) w := by
  simp only [Program.fieldsOf, Tryz.underlying44]
  simp [Op.eqFields, part, run_equalIn_string w 9998 9 a.name b.name Tryz.underlying9, run_equalIn_int w 9998 3 .i64 .i64 a.n b.n Tryz.underlying3]
  unfold cntEq
  by_cases h1 : a.name.toList = b.name.toList
  · by_cases h2 : a.n = b.n <;> simp [h1, h2]
  · simp [h1]
theorem eqFlw_run (a b : Flw) (w : World) : (Op.eqFields 9999 [Value.string a.src, .string a.dst, .int .i64 a.n].toArray [Value.string b.src, .string b.dst, .int .i64 b.n].toArray (Tryz.prog.fieldsOf 47).toList).run Tryz.prog w = .ok (flwEq a b) w := by
  simp only [Program.fieldsOf, Tryz.underlying47]
  simp [Op.eqFields, part, run_equalIn_string w 9998 9 a.src b.src Tryz.underlying9, run_equalIn_string w 9998 9 a.dst b.dst Tryz.underlying9, run_equalIn_int w 9998 3 .i64 .i64 a.n b.n Tryz.underlying3]
  unfold flwEq
  by_cases h1 : a.src.toList = b.src.toList
  · by_cases h3 : a.dst.toList = b.dst.toList
    · by_cases h2 : a.n = b.n <;> simp [h1, h2, h3]
    · simp [h1, h3]
  · simp [h1]
theorem gCnt : Tryz.prog.eqGuardType Tryz.prog.depth 44 = false := by kernel_rfl
theorem gFlw : Tryz.prog.eqGuardType Tryz.prog.depth 47 = false := by kernel_rfl
theorem hCnt : Tryz.prog.stoodInHeld 44 = false := by kernel_rfl
theorem hFlw : Tryz.prog.stoodInHeld 47 = false := by kernel_rfl
theorem uCnt : Tryz.prog.underlying 44 = some (.struct (Tryz.prog.fieldsOf 44)) := by kernel_rfl
theorem uFlw : Tryz.prog.underlying 47 = some (.struct (Tryz.prog.fieldsOf 47)) := by kernel_rfl
def allEq {α : Type} (e : α → α → Bool) (l m : List α) : Bool := (l.zip m).all fun p => e p.1 p.2
def cntsEq (l m : List Cnt) : Bool := decide (l.length = m.length) && allEq cntEq l m
theorem zip_at {α : Type} {l m : List α} {k : Nat} {x y : α} (hx : l[k]? = some x) (hy : m[k]? = some y) : (l.zip m)[k]? = some (x, y) := by
  rw [List.getElem?_zip_eq_some]; exact ⟨hx, hy⟩
theorem allEq_stop {α : Type} {e : α → α → Bool} {l m : List α} {k : Nat} {x y : α} (hx : l[k]? = some x) (hy : m[k]? = some y) (h : e x y = false) : allEq e l m = false := by
  unfold allEq
  rw [List.all_eq_false]
  exact ⟨(x, y), List.mem_of_getElem? (zip_at hx hy), by simp [h]⟩
theorem allEq_end {α : Type} {e : α → α → Bool} {l m : List α} (h : ∀ (j : Nat) x y, l[j]? = some x → m[j]? = some y → e x y = true) : allEq e l m = true := by
  unfold allEq
  rw [List.all_eq_true]
  rintro ⟨x, y⟩ hp
  obtain ⟨j, hj⟩ := List.getElem?_of_mem hp
  rw [List.getElem?_zip_eq_some] at hj
  exact h j x y hj.1 hj.2
theorem r17SameCounts_e (l m : List Cnt) : AF Tryz.prog 52 [pCnts l, pCnts m] (· = pBool (cntsEq l m)) := by
  refine AF.of_body 26 Tryz.func52 rfl Tryz.ntmps52 (Nat.le_of_ble_eq_true rfl) ?_
  intro w0 M0 vs hl hv
  obtain ⟨v0, v1, rfl⟩ := len2 hl
  clear hl hv
  refine aC_slen 0 rfl fun hlen => ?_
  refine aC_slen 1 rfl fun hlen2 => ?_
  refine nav ?_
  (refine aC_region ?_
    <;> refine xL 4 q_assign ?_
    <;> refine aL_end (nav ?_) <;> try dsimp only)
  (refine aC_region ?_
    <;> refine xL 6 q_move ?_
    <;> refine xL 7 (q_len tSl25_LdN) ?_
    <;> refine xL 8 q_move ?_
    <;> refine xL 9 (q_len tSl25_LdN) ?_
    <;> refine xL 10 q_neq ?_
    <;> refine aL_end (nav ?_) <;> try dsimp only)
  first | refine cCd (fun hb10 => ?_) (fun hb10 => ?_) | refine cC (fun hb10 => ?_) (fun hb10 => ?_)
  · first
    | exact Bool.noConfusion hb10
    | (
     refine nav ?_
     (refine aC_region ?_
       <;> refine xL 4 q_assign ?_
       <;> refine aL_end (nav ?_) <;> try dsimp only)
     refine ret_shr (Tryz.results52) rfl ?_
     unfold cntsEq
     rw [decide_eq_false (by omega)]; rfl)
  · first
    | exact Bool.noConfusion hb10
    | (
     refine nav ?_
     (refine aC_region ?_
       <;> refine xL 5 q_assign ?_
       <;> refine aL_end (nav ?_) <;> try dsimp only)
     refine aC_loop (ι := { k : Nat // k ≤ l.length ∧ ∀ j x y, j < k → l[j]? = some x → m[j]? = some y → cntEq x y = true }) (fun k => ⟨[(0, _, _), (1, _, _), (5, .int .i64 k.1, pInt k.1)], []⟩) (fun k => l.length - k.1) ⟨0, by omega, by omega⟩ (fun a w H => H.weaken ⟨rfl, rfl, rfl, trivial⟩ trivial) ?_
     rintro ⟨k, hk, hp⟩
     dsimp only
     refine nav ?_
     (refine aC_region ?_
       <;> refine xL 11 q_move ?_
       <;> refine xL 12 q_move ?_
       <;> refine xL 13 (q_len tSl25_LdN) ?_
       <;> refine xL 14 q_lss ?_
       <;> refine aL_end (nav ?_) <;> try dsimp only)
     first | refine cCd (fun hb14 => ?_) (fun hb14 => ?_) | refine cC (fun hb14 => ?_) (fun hb14 => ?_)
     · first
       | exact Bool.noConfusion hb14
       | (
        obtain ⟨x, hx⟩ := get_some (show k < l.length by omega)
        obtain ⟨y, hy⟩ := get_some (show k < m.length by omega)
        have e1 := flat_drop cCnt_len l k x hx
        have e2 := flat_fit cCnt_len hx
        have e3 := flat_drop cCnt_len m k y hy
        have e4 := flat_fit cCnt_len hy
        refine nav ?_
        (refine aC_draw (fun i => ([] : List Nat).elem i) [] (by kernel_rfl) ?_
          <;> refine xD 0 17 rfl q_move ?_
          <;> refine xD 1 18 rfl q_move ?_
          <;> refine xD 2 19 rfl (q_idxN tSl25_LdN) ?_
          <;> (refine yD 3 20 rfl (q_lda tAgg44_LdN) fun v20 hv20 => ?_; cases hv20)
          <;> refine xD 4 21 rfl q_move ?_
          <;> refine xE 5 22 rfl q_move ?_
          <;> refine xE 6 23 rfl (q_idxN tSl25_LdN) ?_
          <;> (refine yE 7 24 rfl (q_lda tAgg44_LdN) fun v24 hv24 => ?_; cases hv24)
          <;> refine xE 8 25 rfl ((q_neS (us := [Value.string x.name, .int .i64 x.n]) (us' := [Value.string y.name, .int .i64 y.n]) uCnt hCnt gCnt (eqCnt_run x y) rfl rfl)) ?_
          <;> refine aD_end (by kernel_rfl) (nav ?_)
          <;> try dsimp only)
        first | refine cCd (fun hb25 => ?_) (fun hb25 => ?_) | refine cC (fun hb25 => ?_) (fun hb25 => ?_)
        · first
          | exact Bool.noConfusion hb25
          | (
           refine nav ?_
           (refine aC_region ?_
             <;> refine xL 4 q_assign ?_
             <;> refine aL_end (nav ?_) <;> try dsimp only)
           refine ret_shr (Tryz.results52) rfl ?_
           unfold cntsEq
           rw [allEq_stop hx hy (by simpa using hb25)]; simp)
        · first
          | exact Bool.noConfusion hb25
          | (
           refine nav ?_
           (refine aC_region ?_
             <;> refine xL 15 q_move ?_
             <;> refine xL 16 q_add ?_
             <;> refine xL 5 q_assign ?_
             <;> refine aL_end (nav ?_) <;> try dsimp only)
           refine aN_again (
             ⟨k + 1, by omega, fun j x' y' hj hx' hy' => by
               by_cases e : j = k
               · subst e; rw [hx] at hx'; rw [hy] at hy'; cases hx'; cases hy'; simpa using hb25
               · exact hp j x' y' (by omega) hx' hy'⟩
             ) (by dsimp only; omega) ⟨rfl, rfl, rfl, trivial⟩ trivial))
     · first
       | exact Bool.noConfusion hb14
       | (
        refine nav ?_
        (refine aC_region ?_
          <;> refine xL 4 q_assign ?_
          <;> refine aL_end (nav ?_) <;> try dsimp only)
        refine ret_shr (Tryz.results52) rfl ?_
        unfold cntsEq
        rw [allEq_end fun j x y hx hy => hp j x y (by have := lt_of_get hx; omega) hx hy, decide_eq_true (by omega)]; rfl))
end Go.Proofs.YtebcjijpdhbcdaaGreat

namespace Go.Proofs.YtebcjijpdhbcdaaGreat
open Go.RowKit Go.Cb Go.En
set_option linter.all false
set_option maxRecDepth 100000

theorem tAgg47_LdO : AggT Tryz.prog 47 3 = true := by kernel_rfl
theorem tFl28_0_LdO : FldT Tryz.prog 28 0 0 = true := by kernel_rfl
theorem tFl28_1_LdO : FldT Tryz.prog 28 1 1 = true := by kernel_rfl
theorem tFl28_2_LdO : FldT Tryz.prog 28 2 2 = true := by kernel_rfl
theorem tFl28_3_LdO : FldT Tryz.prog 28 3 3 = true := by kernel_rfl
theorem tNa25_LdO : NoAgg Tryz.prog 25 = true := by kernel_rfl
theorem tNa26_LdO : NoAgg Tryz.prog 26 = true := by kernel_rfl
theorem tSl26_LdO : SlT Tryz.prog 26 47 3 = true := by kernel_rfl

def flwsEq (l m : List Flw) : Bool := decide (l.length = m.length) && allEq flwEq l m
def dfgEq (g h : Dfg) : Bool := cntsEq g.acts h.acts && cntsEq g.starts h.starts && cntsEq g.ends h.ends && flwsEq g.follows h.follows
theorem dfgEq_no {g h : Dfg} (e : cntsEq g.acts h.acts = false ∨ cntsEq g.starts h.starts = false ∨ cntsEq g.ends h.ends = false ∨ flwsEq g.follows h.follows = false) : dfgEq g h = false := by
  unfold dfgEq
  rcases e with e | e | e | e <;> rw [e] <;> simp
theorem r17Same_e (g h : Dfg) (hg : g.follows.length ≤ 9223372036854775807) (hh : h.follows.length ≤ 9223372036854775807) : AF Tryz.prog 15 [pDfg g, pDfg h] (· = pBool (dfgEq g h)) := by
  refine AF.of_body 55 Tryz.func15 rfl Tryz.ntmps15 (Nat.le_of_ble_eq_true rfl) ?_
  intro w0 M0 vs hl hv
  obtain ⟨v0, v1, rfl⟩ := len2 hl
  clear hl hv
  refine nav ?_
  (refine aC_region ?_
    <;> refine s_boxa 2 4 fun h2 => ?_
    <;> refine s_boxa 3 4 fun h3 => ?_
    <;> refine xL 4 q_assign ?_
    <;> refine aL_end (nav ?_) <;> try dsimp only)
  (refine aC_region ?_
    <;> refine xL 6 (q_fldo 2 tFl28_0_LdO) ?_
    <;> (refine yL 7 (q_ldo 2 tNa25_LdO) fun v7 hv7 => ?_; cases hv7)
    <;> refine xL 8 (q_fldo 3 tFl28_0_LdO) ?_
    <;> (refine yL 9 (q_ldo 3 tNa25_LdO) fun v9 hv9 => ?_; cases hv9)
    <;> (refine cS 10 (cA Tryz.call52 (r17SameCounts_e g.acts h.acts)) fun v10 hv10 => ?_; cases hv10)
    <;> refine xL 11 q_not ?_
    <;> refine xL 12 q_move ?_
    <;> (refine bL 12 (fun hb12 => ?_) (fun hb12 => ?_) <;> (first | refine kL 13 ?_ | refine xL 13 (q_fldo 2 tFl28_1_LdO) ?_))
    <;> (first | refine kL 14 ?_ | (refine yL 14 (q_ldo 2 tNa25_LdO) fun v14 hv14 => ?_; cases hv14))
    <;> (first | refine kL 15 ?_ | refine xL 15 (q_fldo 3 tFl28_1_LdO) ?_)
    <;> (first | refine kL 16 ?_ | (refine yL 16 (q_ldo 3 tNa25_LdO) fun v16 hv16 => ?_; cases hv16))
    <;> (first | refine kL 17 ?_ | (refine cS 17 (cA Tryz.call52 (r17SameCounts_e g.starts h.starts)) fun v17 hv17 => ?_; cases hv17))
    <;> (first | refine kL 18 ?_ | refine xL 18 q_not ?_)
    <;> refine xL 19 q_pick ?_
    <;> refine xL 20 q_move ?_
    <;> (first | refine kL 21 ?_ | (refine bL 20 (fun hb20 => ?_) (fun hb20 => ?_) <;> (first | refine kL 21 ?_ | refine xL 21 (q_fldo 2 tFl28_2_LdO) ?_)))
    <;> (first | refine kL 22 ?_ | (refine yL 22 (q_ldo 2 tNa25_LdO) fun v22 hv22 => ?_; cases hv22))
    <;> (first | refine kL 23 ?_ | refine xL 23 (q_fldo 3 tFl28_2_LdO) ?_)
    <;> (first | refine kL 24 ?_ | (refine yL 24 (q_ldo 3 tNa25_LdO) fun v24 hv24 => ?_; cases hv24))
    <;> (first | refine kL 25 ?_ | (refine cS 25 (cA Tryz.call52 (r17SameCounts_e g.ends h.ends)) fun v25 hv25 => ?_; cases hv25))
    <;> (first | refine kL 26 ?_ | refine xL 26 q_not ?_)
    <;> refine xL 27 q_pick ?_
    <;> refine xL 28 q_move ?_
    <;> (first | refine kL 29 ?_ | (refine bL 28 (fun hb28 => ?_) (fun hb28 => ?_) <;> (first | refine kL 29 ?_ | refine xL 29 (q_fldo 2 tFl28_3_LdO) ?_)))
    <;> (first | refine kL 30 ?_ | (refine yL 30 (q_ldo 2 tNa26_LdO) fun v30 hv30 => ?_; cases hv30))
    <;> (first | refine kL 31 ?_ | refine xL 31 (q_len tSl26_LdO) ?_)
    <;> (first | refine kL 32 ?_ | refine xL 32 (q_fldo 3 tFl28_3_LdO) ?_)
    <;> (first | refine kL 33 ?_ | (refine yL 33 (q_ldo 3 tNa26_LdO) fun v33 hv33 => ?_; cases hv33))
    <;> (first | refine kL 34 ?_ | refine xL 34 (q_len tSl26_LdO) ?_)
    <;> (first | refine kL 35 ?_ | refine xL 35 q_neq ?_)
    <;> refine xL 36 q_pick ?_
    <;> refine aL_end (nav ?_) <;> try dsimp only) <;> (
   first | refine cCd (fun hb36 => ?_) (fun hb36 => ?_) | refine cC (fun hb36 => ?_) (fun hb36 => ?_)
   · first
     | exact Bool.noConfusion hb36
     | (
      refine nav ?_
      (refine aC_region ?_
        <;> refine xL 4 q_assign ?_
        <;> refine aL_end (nav ?_) <;> try dsimp only)
      refine ret_shr (Tryz.results15) rfl ?_
      first
        | rw [dfgEq_no (.inr (.inr (.inr (by unfold flwsEq; rw [decide_eq_false (by omega)]; rfl))))]
        | rw [dfgEq_no (.inr (.inr (.inl (by simpa using hb28))))]
        | rw [dfgEq_no (.inr (.inl (by simpa using hb20)))]
        | rw [dfgEq_no (.inl (by simpa using hb12))])
   · first
     | exact Bool.noConfusion hb36
     | (
      refine nav ?_
      (refine aC_region ?_
        <;> refine xL 5 q_assign ?_
        <;> refine aL_end (nav ?_) <;> try dsimp only)
      refine aC_loop (ι := { k : Nat // k ≤ g.follows.length ∧ ∀ j x y, j < k → g.follows[j]? = some x → h.follows[j]? = some y → flwEq x y = true }) (fun k => ⟨[(2, _, _), (3, _, _), (5, .int .i64 k.1, pInt k.1)], [(2, _, _), (3, _, _)]⟩) (fun k => g.follows.length - k.1) ⟨0, by omega, by omega⟩ (fun a w H => H.weaken ⟨rfl, rfl, rfl, trivial⟩ ⟨rfl, rfl, trivial⟩) ?_
      rintro ⟨k, hk, hp⟩
      dsimp only
      refine nav ?_
      (refine aC_region ?_
        <;> refine xL 37 q_move ?_
        <;> refine xL 38 (q_fldo 2 tFl28_3_LdO) ?_
        <;> (refine yL 39 (q_ldo 2 tNa26_LdO) fun v39 hv39 => ?_; cases hv39)
        <;> refine xL 40 (q_len tSl26_LdO) ?_
        <;> refine xL 41 q_lss ?_
        <;> refine aL_end (nav ?_) <;> try dsimp only)
      first | refine cCd (fun hb41 => ?_) (fun hb41 => ?_) | refine cC (fun hb41 => ?_) (fun hb41 => ?_)
      · first
        | exact Bool.noConfusion hb41
        | (
         obtain ⟨x, hx⟩ := get_some (show k < g.follows.length by omega)
         obtain ⟨y, hy⟩ := get_some (show k < h.follows.length by omega)
         have e1 := flat_drop cFlw_len g.follows k x hx
         have e2 := flat_fit cFlw_len hx
         have e3 := flat_drop cFlw_len h.follows k y hy
         have e4 := flat_fit cFlw_len hy
         refine nav ?_
         (refine aC_draw (fun i => ([] : List Nat).elem i) [2, 3] (by kernel_rfl) ?_
           <;> refine xD 0 44 rfl (q_fldo 2 tFl28_3_LdO) ?_
           <;> (refine yD 1 45 rfl (q_ldo 2 tNa26_LdO) fun v45 hv45 => ?_; cases hv45)
           <;> refine xD 2 46 rfl q_move ?_
           <;> refine xD 3 47 rfl (q_idxN tSl26_LdO) ?_
           <;> (refine yD 4 48 rfl (q_lda tAgg47_LdO) fun v48 hv48 => ?_; cases hv48)
           <;> refine xD 5 49 rfl (q_fldo 3 tFl28_3_LdO) ?_
           <;> (refine yD 6 50 rfl (q_ldo 3 tNa26_LdO) fun v50 hv50 => ?_; cases hv50)
           <;> refine xE 7 51 rfl q_move ?_
           <;> refine xE 8 52 rfl (q_idxN tSl26_LdO) ?_
           <;> (refine yE 9 53 rfl (q_lda tAgg47_LdO) fun v53 hv53 => ?_; cases hv53)
           <;> refine xE 10 54 rfl ((q_neS (us := [Value.string x.src, .string x.dst, .int .i64 x.n]) (us' := [Value.string y.src, .string y.dst, .int .i64 y.n]) uFlw hFlw gFlw (eqFlw_run x y) rfl rfl)) ?_
           <;> refine aD_end (by kernel_rfl) (nav ?_)
           <;> try dsimp only)
         first | refine cCd (fun hb54 => ?_) (fun hb54 => ?_) | refine cC (fun hb54 => ?_) (fun hb54 => ?_)
         · first
           | exact Bool.noConfusion hb54
           | (
            refine nav ?_
            (refine aC_region ?_
              <;> refine xL 4 q_assign ?_
              <;> refine aL_end (nav ?_) <;> try dsimp only)
            refine ret_shr (Tryz.results15) rfl ?_
            rw [dfgEq_no (.inr (.inr (.inr (by unfold flwsEq; rw [allEq_stop hx hy (by simpa using hb54)]; simp))))])
         · first
           | exact Bool.noConfusion hb54
           | (
            refine nav ?_
            (refine aC_region ?_
              <;> refine xL 42 q_move ?_
              <;> refine xL 43 q_add ?_
              <;> refine xL 5 q_assign ?_
              <;> refine aL_end (nav ?_) <;> try dsimp only)
            refine aN_again (
              ⟨k + 1, by omega, fun j x' y' hj hx' hy' => by
                by_cases e : j = k
                · subst e; rw [hx] at hx'; rw [hy] at hy'; cases hx'; cases hy'; simpa using hb54
                · exact hp j x' y' (by omega) hx' hy'⟩
              ) (by dsimp only; omega) ⟨rfl, rfl, rfl, trivial⟩ ⟨rfl, rfl, trivial⟩))
      · first
        | exact Bool.noConfusion hb41
        | (
         refine nav ?_
         (refine aC_region ?_
           <;> refine xL 4 q_assign ?_
           <;> refine aL_end (nav ?_) <;> try dsimp only)
         refine ret_shr (Tryz.results15) rfl ?_
         have h9 : allEq flwEq g.follows h.follows = true := allEq_end fun j x y hx hy => hp j x y (by have := lt_of_get hx; omega) hx hy
         unfold dfgEq flwsEq
         rw [h9, decide_eq_true (by omega), show cntsEq g.acts h.acts = true by simpa using hb12, show cntsEq g.starts h.starts = true by simpa using hb20, show cntsEq g.ends h.ends = true by simpa using hb28]; rfl)))
end Go.Proofs.YtebcjijpdhbcdaaGreat

namespace Go.Proofs.YtebcjijpdhbcdaaGreat
open Go.RowKit Go.Cb Go.En
set_option linter.all false
set_option maxRecDepth 100000

end Go.Proofs.YtebcjijpdhbcdaaGreat
