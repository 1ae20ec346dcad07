/-
  Walks by the engine: cut.parts.
  Walks by the engine: cut.split.
-/
import Derived.Test.YtoanjgpdepaciaaGreatLa
import Derived.Test.YtoanjgpdepaciaaGreatPlain
import Derived.Test.YtoanjgpdepaciaaGreatLp
namespace Go.Proofs.YtoanjgpdepaciaaGreat
open Go.RowKit Go.Cb Go.En
set_option linter.all false
set_option maxRecDepth 100000

theorem tFl28_0_EwC : FldT Tryz.prog 28 0 0 = true := by kernel_rfl
theorem tFl28_1_EwC : FldT Tryz.prog 28 1 1 = true := by kernel_rfl
theorem tMp74_EwC : MpT Tryz.prog 74 9 3 .string (.int .i64 0) := ⟨Tryz.underlying74, Tryz.underlying9, .inl rfl, by show ZeroT _ _ _; unfold ZeroT; kernel_rfl⟩
theorem tNa26_EwC : NoAgg Tryz.prog 26 = true := by kernel_rfl
theorem tNa36_EwC : NoAgg Tryz.prog 36 = true := by kernel_rfl
theorem tNa3_EwC : NoAgg Tryz.prog 3 = true := by kernel_rfl
theorem tNa9_EwC : NoAgg Tryz.prog 9 = true := by kernel_rfl
theorem tSl26_EwC : SlT Tryz.prog 26 36 1 = true := by kernel_rfl
theorem tSl36_EwC : SlT Tryz.prog 36 9 1 = true := by kernel_rfl


def entP (i : Nat) (p : List ByteArray) : List (ByteArray × Value) := p.map fun s => (s, Value.int .i64 (i : Int))
def entries : Nat → List (List ByteArray) → List (ByteArray × Value)
  | _, [] => []
  | i, p :: ps => entP i p ++ entries (i + 1) ps
theorem entries_snoc : ∀ (ps : List (List ByteArray)) (i : Nat) (p : List ByteArray), entries i (ps ++ [p]) = entries i ps ++ entP (i + ps.length) p
  | [], i, p => by simp [entries]
  | q :: ps, i, p => by
    rw [List.cons_append, entries, entries, entries_snoc ps (i + 1) p, List.append_assoc]
    congr 3
    simp; omega
theorem aget_append {es fs : List (ByteArray × Value)} {s : ByteArray} : aget (es ++ fs) s = match aget es s with | some v => some v | none => aget fs s := by
  induction es with
  | nil => rfl
  | cons x l ih =>
    simp only [List.cons_append, aget]
    split
    · rfl
    · exact ih
theorem aget_entP (i : Nat) (p : List ByteArray) (s : ByteArray) : aget (entP i p) s = if hasStr p s then some (.int .i64 (i : Int)) else none := by
  induction p with
  | nil => rfl
  | cons x p ih =>
    simp only [entP, List.map_cons, aget]
    by_cases h : s = x
    · subst h
      have : hasStr (s :: p) s = true := by unfold hasStr; simp; exact .inl (strEq_iff.2 rfl)
      simp [this]
    · have h0 : strEq x s = false := by
        cases h1 : strEq x s
        · rfl
        · exact absurd (strEq_iff.1 h1).symm h
      have : hasStr (x :: p) s = hasStr p s := by unfold hasStr; simp [h0]
      rw [if_neg h, this]
      exact ih
theorem aget_entries : ∀ (ps : List (List ByteArray)) (i : Nat) (s : ByteArray), aget (entries i ps) s = (ps.findIdx? fun p => hasStr p s).map fun (j : Nat) => Value.int .i64 ((i + j : Nat) : Int)
  | [], i, s => rfl
  | p :: ps, i, s => by
    rw [entries, aget_append, aget_entP, List.findIdx?_cons, aget_entries ps (i + 1) s]
    cases hasStr p s
    · simp [Function.comp_def]
      cases ps.findIdx? fun p => hasStr p s <;> simp
      omega
    · simp
theorem aget_parts (ps : List (List ByteArray)) (s : ByteArray) : aget (entries 0 ps) s = (partMap ps s).map fun n => Value.int .i64 n := by
  rw [aget_entries]
  unfold partMap
  rw [Option.map_map]
  congr 1
  funext j
  simp
theorem aput_fresh {es : List (ByteArray × Value)} {s : ByteArray} {v : Value} (h : aget es s = none) : aput es s v = es ++ [(s, v)] := by
  induction es with
  | nil => rfl
  | cons x l ih =>
    simp only [aget] at h
    split at h
    · cases h
    · rename_i hx
      rw [aput, if_neg hx, ih h, List.cons_append]
theorem aget_two (ps : List (List ByteArray)) (p : List ByteArray) (s : ByteArray) (k : Nat) : (aget (entries 0 ps ++ entP k p) s).isSome = hasStr (ps.flatten ++ p) s := by
  rw [aget_append, aget_parts]
  have h1 := partMap_isSome ps s
  have h2 : hasStr (ps.flatten ++ p) s = (hasStr ps.flatten s || hasStr p s) := by unfold hasStr; rw [List.any_append]
  rw [h2, ← h1, aget_entP]
  cases partMap ps s <;> cases hasStr p s <;> rfl

def RParts (c : Cut) (p : PV) : Prop := ∃ q, p = .tup [q, pBool (formedB c)] ∧ (formedB c = true → q = .omap (skv (entries 0 c.parts))) ∧ (q = .val (.map none) ∨ ∃ es, q = .omap es)
theorem formed_no {c : Cut} (h : formedGo [] c.parts = false) : formedB c = false := by unfold formedB; rw [h]; simp
theorem rparts_no {c : Cut} (h : formedB c = false) : RParts c (.tup [.val (.map none), pBool false]) := ⟨_, by rw [h], fun h' => (by rw [h] at h'; cases h'), .inl rfl⟩

set_option maxHeartbeats 1000000 in
theorem cparts_e (c : Cut) (hs : ∀ p ∈ c.parts, ∀ s ∈ p, s.size ≤ 140737488355328) : AF Tryz.prog 44 [pCut c] (RParts c) := by
  refine AF.of_body 75 Tryz.func44 rfl Tryz.ntmps44 (Nat.le_of_ble_eq_true rfl) ?_
  intro w0 M0 vs hl hv
  obtain ⟨v0, rfl⟩ := len1 hl
  clear hl hv
  refine nav ?_
  (refine aC_region ?_
    <;> refine s_boxa 1 2 fun h1 => ?_
    <;> refine xL 2 q_assign ?_
    <;> refine xL 3 q_assign ?_
    <;> refine aL_end (nav ?_) <;> try dsimp only)
  (refine aC_region ?_
    <;> refine s_mkmap 11 fun h11 ho11 => ?_
    <;> refine xL 4 q_assign ?_
    <;> refine aL_end (nav ?_) <;> try dsimp only)
  (refine aC_region ?_
    <;> refine xL 12 (q_fldo 1 tFl28_1_EwC) ?_
    <;> (refine yL 13 (q_ldo 1 tNa26_EwC) fun v13 hv13 => ?_; cases hv13)
    <;> refine xL 14 (q_len tSl26_EwC) ?_
    <;> refine xL 15 q_move ?_
    <;> refine aL_end (nav ?_) <;> try dsimp only)
  refine aC_slen 13 rfl fun hlen => ?_
  refine aC_loop (ι := { k : Nat // k ≤ c.parts.length ∧ formedGo [] c.parts = formedGo (c.parts.take k).flatten (c.parts.drop k) }) (fun k => ⟨[(1, padd (sbase h1) 0, .val (padd (sbase h1) 0)), (4, h11, .val h11), (13, v13, pStrss c.parts), (14, .int .i64 c.parts.length, pInt c.parts.length), (15, .int .i64 k.1, pInt k.1)], [(1, h1, .own 28 2 1 [pInt c.kind, pStrss c.parts]), (11, h11, .omap (skv (entries 0 (c.parts.take k.1))))]⟩) (fun k => c.parts.length - k.1) ⟨0, by omega, rfl⟩ (fun a w H => H.weaken ⟨rfl, rfl, rfl, rfl, rfl, trivial⟩ ⟨rfl, rfl, trivial⟩) ?_
  rintro ⟨k, hk, hpre⟩
  dsimp only
  refine nav ?_
  (refine aC_region ?_
    <;> refine xL 16 q_lss ?_
    <;> refine aL_end (nav ?_) <;> try dsimp only)
  refine aC_cond rfl ?_ ?_
  · intro hb
    have hlt : k < c.parts.length := by have := of_decide_eq_true hb; omega
    obtain ⟨p, hx⟩ := get_some hlt
    have e1 := map_at (f := pStrs) hx
    have hpm := hs p (List.mem_of_getElem? hx)
    have HD : formedGo (c.parts.take k).flatten (c.parts.drop k) = ((partOk p && freshB (c.parts.take k).flatten p) && formedGo (c.parts.take (k + 1)).flatten (c.parts.drop (k + 1))) := by
      rw [drop_at hx, formedGo, flat_snoc hx]
    refine nav ?_
    (refine aC_region ?_
      <;> refine xL 17 q_move ?_
      <;> refine xL 18 (q_idxN tSl26_EwC) ?_
      <;> (refine yL 19 (q_ld tNa36_EwC) fun v19 hv19 => ?_; cases hv19)
      <;> refine xL 5 q_assign ?_
      <;> refine xL 6 q_assign ?_
      <;> refine aL_end (nav ?_) <;> try dsimp only)
    refine aC_slen 6 rfl fun hlenp => ?_
    (refine aC_region ?_
      <;> refine xL 20 q_move ?_
      <;> refine xL 21 (q_len tSl36_EwC) ?_
      <;> refine xL 22 q_move ?_
      <;> refine aL_end (nav ?_) <;> try dsimp only)
    refine aC_loop (ι := { j : Nat // j ≤ p.length ∧ ∀ m s, m < j → p[m]? = some s → wordOk (c.parts.take k).flatten p m s }) (fun j => ⟨[(1, padd (sbase h1) 0, .val (padd (sbase h1) 0)), (4, h11, .val h11), (5, .int .i64 k, pInt k), (6, v19, pStrs p), (20, v19, pStrs p), (21, .int .i64 p.length, pInt p.length), (22, .int .i64 j.1, pInt j.1), (13, v13, pStrss c.parts), (14, .int .i64 c.parts.length, pInt c.parts.length), (15, .int .i64 k, pInt k)], [(1, h1, .own 28 2 1 [pInt c.kind, pStrss c.parts]), (11, h11, .omap (skv (entries 0 (c.parts.take k) ++ entP k (p.take j.1))))]⟩) (fun j => p.length - j.1) ⟨0, by omega, fun m s hm => by omega⟩ (fun a w H => H.weaken ⟨rfl, rfl, rfl, rfl, rfl, rfl, rfl, rfl, rfl, rfl, trivial⟩ ⟨rfl, by simp [entP]; rfl, trivial⟩) ?_
    rintro ⟨j, hj, hprei⟩
    dsimp only
    refine nav ?_
    (refine aC_region ?_
      <;> refine xL 23 q_lss ?_
      <;> refine aL_end (nav ?_) <;> try dsimp only)
    refine aC_cond rfl ?_ ?_
    · intro hb2
      have hltj : j < p.length := by have := of_decide_eq_true hb2; omega
      obtain ⟨s, hsj⟩ := get_some hltj
      have e2 := map_at (f := pStr) hsj
      have hss := hpm s (List.mem_of_getElem? hsj)
      have hy : 0 < j → ∃ y, p[j - 1]? = some y ∧ (p.map pStr)[j - 1]? = some (pStr y) := fun h0 => by
        obtain ⟨y, hy⟩ := get_some (show j - 1 < p.length by omega)
        exact ⟨y, hy, by rw [List.getElem?_map, hy]; rfl⟩
      have hmg := mget_skv (entries 0 (c.parts.take k) ++ entP k (p.take j)) s
      have hsome := aget_two (c.parts.take k) (p.take j) s k
      refine nav ?_
      (refine aC_region ?_
        <;> refine xL 24 q_move ?_
        <;> refine xL 25 (q_idxN tSl36_EwC) ?_
        <;> (refine yL 26 (q_ld tNa9_EwC) fun v26 hv26 => ?_; cases hv26)
        <;> refine xL 7 q_assign ?_
        <;> refine xL 8 q_assign ?_
        <;> refine aL_end (nav ?_) <;> try dsimp only)
      (refine aC_region ?_
        <;> refine xL 28 q_move ?_
        <;> refine xL 29 q_move ?_
        <;> refine xL 30 (q_looko2 11 tMp74_EwC) ?_
        <;> refine xL 27 q_move ?_
        <;> refine xL 31 q_extract ?_
        <;> refine xL 32 q_extract ?_
        <;> refine xL 9 q_assign ?_
        <;> refine xL 10 q_assign ?_
        <;> refine aL_end (nav ?_) <;> try dsimp only)
      (refine aC_region ?_
        <;> refine xL 33 q_move ?_
        <;> refine xL 34 q_move ?_
        <;> (refine bL 34 (fun hb34 => ?_) (fun hb34 => ?_) <;> (first | refine kL 35 ?_ | refine xL 35 q_move ?_))
        <;> (first | refine kL 36 ?_ | (refine aL_cs 36 rfl rfl (Nat.le_of_ble_eq_true rfl) (callA rfl (Tryz.call103) rfl (isName_e s (by omega))) ?_; rintro p' rfl; refine ⟨rfl, ?_⟩; intro v36 hv36; cases hv36))
        <;> (first | refine kL 37 ?_ | refine xL 37 q_not ?_)
        <;> refine xL 38 q_pick ?_
        <;> refine xL 39 q_move ?_
        <;> (first | refine kL 40 ?_ | (refine bL 39 (fun hb39 => ?_) (fun hb39 => ?_) <;> (first | refine kL 40 ?_ | refine xL 40 q_move ?_)))
        <;> (first | refine kL 41 ?_ | refine xL 41 q_gtr ?_)
        <;> (first | refine kL 42 ?_ | refine xL 42 q_move ?_)
        <;> (first | refine kL 43 ?_ | (refine bLd 42 (fun hb42 => ?_) (fun hb42 => ?_) <;> (first | refine kL 43 ?_ | refine xL 43 q_move ?_)))
        <;> (first | refine kL 44 ?_ | refine xL 44 q_move ?_)
        <;> (first | refine kL 45 ?_ | refine xL 45 q_sub ?_)
        <;> (first | refine kL 46 ?_ | refine xL 46 (q_idx tSl36_EwC) ?_)
        <;> (first | refine kL 47 ?_ | (refine (hy (by omega)).elim fun y hy12 => ?_; refine aL_y 47 rfl rfl (Nat.le_of_ble_eq_true rfl) (y_ld_shrI (j - 1) tNa9_EwC rfl rfl (by omega) hy12.2) ?_; intro v47 hv47; cases hv47))
        <;> (first | refine kL 48 ?_ | refine xL 48 q_move ?_)
        <;> (first | refine kL 49 ?_ | refine xL 49 q_sgeq ?_)
        <;> (first | refine kL 50 ?_ | refine xL 50 q_pick ?_)
        <;> refine xL 51 q_pick ?_
        <;> refine aL_end (nav ?_) <;> try dsimp only)
      · -- known already
        have hF : formedB c = false := formed_no (by
          rw [hpre, HD, part_bad hsj (fun h => by have := h.1; rw [← hsome, ← hmg, hb34] at this; cases this)]; rfl)
        refine aC_cond rfl ?_ (fun h => by cases h)
        intro _
        refine nav ?_
        (refine aC_region ?_
          <;> refine xL 2 q_assign ?_
          <;> refine xL 3 q_assign ?_
          <;> refine aL_end (nav ?_) <;> try dsimp only)
        exact ret_ss (Tryz.results44) rfl rfl (rparts_no hF)
      · -- no name
        have hF : formedB c = false := formed_no (by
          rw [hpre, HD, part_bad hsj (fun h => by have := h.2.1; rw [this] at hb39; cases hb39)]; rfl)
        refine aC_cond rfl ?_ (fun h => by cases h)
        intro _
        refine nav ?_
        (refine aC_region ?_
          <;> refine xL 2 q_assign ?_
          <;> refine xL 3 q_assign ?_
          <;> refine aL_end (nav ?_) <;> try dsimp only)
        exact ret_ss (Tryz.results44) rfl rfl (rparts_no hF)
      · refine aC_cond rfl ?_ ?_
        · intro hb3
          have hF : formedB c = false := formed_no (by
            rw [hpre, HD, part_bad hsj (fun h => by
              have := h.2.2 y (by omega) hy12.1
              unfold strLt at this
              rw [this] at hb3; cases hb3)]; rfl)
          refine nav ?_
          (refine aC_region ?_
            <;> refine xL 2 q_assign ?_
            <;> refine xL 3 q_assign ?_
            <;> refine aL_end (nav ?_) <;> try dsimp only)
          exact ret_ss (Tryz.results44) rfl rfl (rparts_no hF)
        · intro hb3
          have hok : wordOk (c.parts.take k).flatten p j s := ⟨by rw [← hsome, ← hmg]; exact hb34, by cases h : isName s <;> simp_all, fun y' _ hy' => by
            rw [hy12.1] at hy'; cases hy'
            unfold strLt
            cases h : Op.bytesLess y.toList s.toList
            · rw [h] at hb3; cases hb3
            · rfl⟩
          have hput : mput (skv (entries 0 (c.parts.take k) ++ entP k (p.take j))) (.string s) (.int .i64 (k : Int)) = skv (entries 0 (c.parts.take k) ++ entP k (p.take (j + 1))) := by
            rw [mput_skv, aput_fresh (by rw [← mget_skv]; cases h : mget (skv (entries 0 (c.parts.take k) ++ entP k (p.take j))) (.string s) with | none => rfl | some _ => rw [h] at hb34; cases hb34), List.append_assoc, take_snoc hsj]
            congr 2
            simp [entP]
          refine nav ?_
          (refine aC_region ?_
            <;> refine xL 52 q_move ?_
            <;> refine xL 53 q_move ?_
            <;> refine xL 54 q_move ?_
            <;> refine s_mput 11 tMp74_EwC ?_
            <;> refine aL_end (nav ?_) <;> try dsimp only)
          (refine aC_region ?_
            <;> refine xL 55 q_add ?_
            <;> refine xL 22 q_move ?_
            <;> refine aL_end (nav ?_) <;> try dsimp only)
          refine aN_again ⟨j + 1, by omega, fun m s' hm hs' => ?_⟩ (by show p.length - (j + 1) < p.length - j; omega) ⟨rfl, rfl, rfl, rfl, rfl, rfl, rfl, rfl, rfl, rfl, trivial⟩ ⟨rfl, by show some _ = some _; rw [hput], trivial⟩
          by_cases e : m = j
          · subst e; rw [hsj] at hs'; cases hs'; exact hok
          · exact hprei m s' (by omega) hs'
      · refine aC_cond rfl (fun h => by cases h) ?_
        intro _
        have hok : wordOk (c.parts.take k).flatten p j s := ⟨by rw [← hsome, ← hmg]; exact hb34, by cases h : isName s <;> simp_all, fun y' h1 => by omega⟩
        have hput : mput (skv (entries 0 (c.parts.take k) ++ entP k (p.take j))) (.string s) (.int .i64 (k : Int)) = skv (entries 0 (c.parts.take k) ++ entP k (p.take (j + 1))) := by
          rw [mput_skv, aput_fresh (by rw [← mget_skv]; cases h : mget (skv (entries 0 (c.parts.take k) ++ entP k (p.take j))) (.string s) with | none => rfl | some _ => rw [h] at hb34; cases hb34), List.append_assoc, take_snoc hsj]
          congr 2
          simp [entP]
        refine nav ?_
        (refine aC_region ?_
          <;> refine xL 52 q_move ?_
          <;> refine xL 53 q_move ?_
          <;> refine xL 54 q_move ?_
          <;> refine s_mput 11 tMp74_EwC ?_
          <;> refine aL_end (nav ?_) <;> try dsimp only)
        (refine aC_region ?_
          <;> refine xL 55 q_add ?_
          <;> refine xL 22 q_move ?_
          <;> refine aL_end (nav ?_) <;> try dsimp only)
        refine aN_again ⟨j + 1, by omega, fun m s' hm hs' => ?_⟩ (by show p.length - (j + 1) < p.length - j; omega) ⟨rfl, rfl, rfl, rfl, rfl, rfl, rfl, rfl, rfl, rfl, trivial⟩ ⟨rfl, by show some _ = some _; rw [hput], trivial⟩
        by_cases e : m = j
        · subst e; rw [hsj] at hs'; cases hs'; exact hok
        · exact hprei m s' (by omega) hs'
    · intro hb2
      have hge : p.length ≤ j := by have := of_decide_eq_false hb2; omega
      refine nav ?_
      (refine aC_region ?_
        <;> refine xL 56 q_move ?_
        <;> refine xL 57 (q_len tSl36_EwC) ?_
        <;> refine xL 58 q_eql ?_
        <;> refine aL_end (nav ?_) <;> try dsimp only)
      refine aC_cond rfl ?_ ?_
      · intro hb3
        have h0 : p = [] := List.eq_nil_of_length_eq_zero (by have := of_decide_eq_true hb3; omega)
        have hF : formedB c = false := formed_no (by rw [hpre, HD, h0]; rfl)
        refine nav ?_
        (refine aC_region ?_
          <;> refine xL 2 q_assign ?_
          <;> refine xL 3 q_assign ?_
          <;> refine aL_end (nav ?_) <;> try dsimp only)
        exact ret_ss (Tryz.results44) rfl rfl (rparts_no hF)
      · intro hb3
        have h0 : p ≠ [] := fun h => by rw [h] at hb3; cases hb3
        have hok := (part_iff p (c.parts.take k).flatten).2 ⟨h0, fun m s hs' => hprei m s (by have := lt_of_get hs'; omega) hs'⟩
        have hent : entries 0 (c.parts.take k) ++ entP k (p.take j) = entries 0 (c.parts.take (k + 1)) := by
          rw [take_snoc hx, entries_snoc, List.take_of_length_le hge]
          congr 2
          simp; omega
        refine nav ?_
        (refine aC_region ?_
          <;> refine xL 59 q_add ?_
          <;> refine xL 15 q_move ?_
          <;> refine aL_end (nav ?_) <;> try dsimp only)
        exact aN_again ⟨k + 1, by omega, by rw [hpre, HD, hok]; rfl⟩ (by show c.parts.length - (k + 1) < c.parts.length - k; omega) ⟨rfl, rfl, rfl, rfl, rfl, trivial⟩ ⟨rfl, by show some _ = some _; rw [hent], trivial⟩
  · intro hb
    have hge : c.parts.length ≤ k := by have := of_decide_eq_false hb; omega
    have hgo : formedGo [] c.parts = true := by rw [hpre, List.drop_eq_nil_of_le hge]; rfl
    have hent : entries 0 (c.parts.take k) = entries 0 c.parts := by rw [List.take_of_length_le hge]
    have hret : ∀ t, t = formedB c → RParts c (.tup [.omap (skv (entries 0 (c.parts.take k))), pBool t]) := fun t ht => ⟨.omap (skv (entries 0 (c.parts.take k))), by rw [ht], fun _ => by rw [hent], .inr ⟨_, rfl⟩⟩
    refine nav ?_
    (refine aC_draw (fun i => ([] : List Nat).elem i) [1, 11] (by kernel_rfl) ?_
      <;> refine xD 0 60 rfl q_move ?_
      <;> refine xE 1 61 rfl (q_fldo 1 tFl28_1_EwC) ?_
      <;> (refine yE 2 62 rfl (q_ldo 1 tNa26_EwC) fun v62 hv62 => ?_; cases hv62)
      <;> refine xE 3 63 rfl (q_len tSl26_EwC) ?_
      <;> refine xE 4 64 rfl q_geq ?_
      <;> refine xE 5 65 rfl q_move ?_
      <;> (refine bDd 65 (fun hb65 => ?_) (fun hb65 => ?_) <;> (first | refine kD 6 66 rfl ?_ | refine xD 6 66 rfl (q_fldo 1 tFl28_0_EwC) ?_))
      <;> (first | refine kD 7 67 rfl ?_ | (refine yD 7 67 rfl (q_ldo 1 tNa3_EwC) fun v67 hv67 => ?_; cases hv67))
      <;> (first | refine kD 8 68 rfl ?_ | refine xD 8 68 rfl q_geq ?_)
      <;> refine xE 9 69 rfl q_pick ?_
      <;> refine xE 10 70 rfl q_move ?_
      <;> (first | refine kD 11 71 rfl ?_ | (refine bDd 70 (fun hb70 => ?_) (fun hb70 => ?_) <;> (first | refine kD 11 71 rfl ?_ | refine xD 11 71 rfl (q_fldo 1 tFl28_0_EwC) ?_)))
      <;> (first | refine kD 12 72 rfl ?_ | (refine yD 12 72 rfl (q_ldo 1 tNa3_EwC) fun v72 hv72 => ?_; cases hv72))
      <;> (first | refine kD 13 73 rfl ?_ | refine xD 13 73 rfl q_leq ?_)
      <;> refine xD 14 74 rfl q_pick ?_
      <;> refine xE 15 2 rfl q_assign ?_
      <;> refine xE 16 3 rfl q_assign ?_
      <;> refine aD_end (by kernel_rfl) (nav ?_)
      <;> try dsimp only)
    · refine ret_os 11 (Tryz.results44) rfl rfl rfl (hret _ ?_)
      unfold formedB
      rw [hgo]
      have h1 : decide (1 ≤ c.kind) = true := by simpa using hb70
      have h2 : decide (2 ≤ c.parts.length) = true := by simp; omega
      rw [h1, h2]; simp
    · refine ret_os 11 (Tryz.results44) rfl rfl rfl (hret _ ?_)
      have h1 : decide (1 ≤ c.kind) = false := by simpa using hb70
      unfold formedB
      rw [h1]; simp
    · refine ret_os 11 (Tryz.results44) rfl rfl rfl (hret _ ?_)
      have h2 : decide (2 ≤ c.parts.length) = false := by simp; omega
      unfold formedB
      rw [h2]; simp
end Go.Proofs.YtoanjgpdepaciaaGreat

namespace Go.Proofs.YtoanjgpdepaciaaGreat
open Go.RowKit Go.Cb Go.En
set_option linter.all false
set_option maxRecDepth 100000

theorem tAgg129_EwD : AggT Tryz.prog 129 2 = true := by kernel_rfl
theorem tEl125_EwD : ElT Tryz.prog 125 129 2 32 (.agg #[(.int .i64 0), (.slice none 0 0)]) := ⟨Tryz.underlying125, by kernel_rfl, rfl, by decide⟩
theorem tEl36_EwD : ElT Tryz.prog 36 9 1 16 (.string ByteArray.empty) := ⟨Tryz.underlying36, by kernel_rfl, rfl, by decide⟩
theorem tFl129_0_EwD : FldT Tryz.prog 129 0 0 = true := by kernel_rfl
theorem tFl129_1_EwD : FldT Tryz.prog 129 1 1 = true := by kernel_rfl
theorem tMp74_EwD : MpT Tryz.prog 74 9 3 .string (.int .i64 0) := ⟨Tryz.underlying74, Tryz.underlying9, .inl rfl, by show ZeroT _ _ _; unfold ZeroT; kernel_rfl⟩
theorem tNa36_EwD : NoAgg Tryz.prog 36 = true := by kernel_rfl
theorem tNa3_EwD : NoAgg Tryz.prog 3 = true := by kernel_rfl
theorem tNa74_EwD : NoAgg Tryz.prog 74 = true := by kernel_rfl
theorem tNa9_EwD : NoAgg Tryz.prog 9 = true := by kernel_rfl
theorem tSl125_EwD : SlT Tryz.prog 125 129 2 = true := by kernel_rfl
theorem tSl36_EwD : SlT Tryz.prog 36 9 1 = true := by kernel_rfl
theorem tSt129_EwD : stInfo Tryz.prog 129 = some ((.agg #[(.int .i64 0), (.slice none 0 0)]), ([0, 1] : List Nat).map fun o => (o, 1)) := by kernel_rfl
theorem tSz36_EwD : (Tryz.prog.info? 36).map (·.size) = some 1 := by kernel_rfl
theorem tSz3_EwD : (Tryz.prog.info? 3).map (·.size) = some 1 := by kernel_rfl
theorem tZr129_EwD : ZeroT Tryz.prog 129 (.agg #[(.int .i64 0), (.slice none 0 0)]) := by unfold ZeroT; kernel_rfl

theorem mg_part {es : List (ByteArray × Value)} {s : ByteArray} {n : Int} (h : aget es s = some (.int .i64 n)) : (mget (skv es) (.string s)).getD (.int .i64 0) = .int .i64 n := by rw [mget_skv, h]; rfl

theorem csplit1_e (parts : List (List ByteArray)) (ws : List ByteArray) (es : List (ByteArray × Value)) (s s0 : ByteArray) (h0 : ws[0]? = some s0) (hes : ∀ t ∈ ws, aget es t = some (.int .i64 (partOf parts t))) (hs : s ∈ ws) :
    AF Tryz.prog 121 [pStr s, .sptr 0 [.smap (skv es)], .sptr 0 [pStrs ws]] (· = pBool (partOf parts s != partOf parts s0)) := by
  have hlen : 0 < ws.length := by have := lt_of_get h0; omega
  have m1 := mg_part (hes s hs)
  have m2 := mg_part (hes s0 (List.mem_of_getElem? h0))
  have e1 : (ws.map pStr)[(0 : Int).toNat * 1]? = some (pStr s0) := map_at h0
  refine AF.of_body 14 Tryz.func121 rfl Tryz.ntmps121 (Nat.le_of_ble_eq_true rfl) ?_
  intro w0 M0 vs hl hv
  obtain ⟨v0, v1, v2, rfl⟩ := len3 hl
  obtain rfl := hv 0 _ _ rfl rfl
  clear hl hv
  refine nav ?_
  (refine aC_region ?_
    <;> refine xL 4 q_assign ?_
    <;> refine aL_end (nav ?_) <;> try dsimp only)
  (refine aC_draw (fun i => ([] : List Nat).elem i) [] (by kernel_rfl) ?_
    <;> (refine yD 0 5 rfl (q_ld tNa74_EwD) fun v5 hv5 => ?_; cases hv5)
    <;> refine xD 1 6 rfl q_move ?_
    <;> refine xD 2 7 rfl (q_lookE tMp74_EwD) ?_
    <;> (refine yD 3 8 rfl (q_ld tNa74_EwD) fun v8 hv8 => ?_; cases hv8)
    <;> (refine yE 4 9 rfl (q_ld tNa36_EwD) fun v9 hv9 => ?_; cases hv9)
    <;> refine xE 5 10 rfl (q_idxN tSl36_EwD) ?_
    <;> (refine yE 6 11 rfl (q_ld tNa9_EwD) fun v11 hv11 => ?_; cases hv11)
    <;> refine xE 7 12 rfl (q_lookE tMp74_EwD) ?_
    <;> refine xE 8 13 rfl q_neq ?_
    <;> refine xE 9 4 rfl q_assign ?_
    <;> refine aD_end (by kernel_rfl) (nav ?_)
    <;> try dsimp only)
  refine ret_shr (Tryz.results121) rfl ?_
  congr 2
  by_cases h : partOf parts s = partOf parts s0 <;> simp [h]

def RSplit (x : Option (List Piece)) (p : PV) : Prop := match x with
  | none => p = .tup [.val (.slice none 0 0), pBool false]
  | some ps => p = .tup [pPieces ps, pBool true]

def outK (parts : List (List ByteArray)) (ws : List ByteArray) (k : Nat) : List Piece := if k = 0 then [⟨0, []⟩] else runs parts [] (ws.take k)
theorem runs_len {parts : List (List ByteArray)} : ∀ (ws : List ByteArray) (ps : List Piece), (runs parts ps ws).length ≤ ps.length + ws.length ∧ ∀ n, (∀ p ∈ ps, p.word.length ≤ n) → ∀ p ∈ runs parts ps ws, p.word.length ≤ n + ws.length
  | [], ps => ⟨by simp [runs], fun n h p hp => by have := h p hp; simpa using this⟩
  | s :: ws, ps => by
    have hst : (runStep parts ps s).length ≤ ps.length + 1 ∧ ∀ n, (∀ p ∈ ps, p.word.length ≤ n) → ∀ p ∈ runStep parts ps s, p.word.length ≤ n + 1 := by
      unfold runStep
      split
      · exact ⟨by simp, fun n _ p hp => by simp at hp; subst hp; simp⟩
      · rename_i q hq
        split
        · refine ⟨by simp, fun n h p hp => ?_⟩
          rcases List.mem_or_eq_of_mem_set hp with h1 | h1
          · have := h p h1; omega
          · rw [h1]; have := h q (List.mem_of_getElem? hq); simp; omega
        · refine ⟨by simp, fun n h p hp => ?_⟩
          rcases List.mem_append.1 hp with h1 | h1
          · have := h p h1; omega
          · simp at h1; subst h1; simp
    obtain ⟨h1, h2⟩ := runs_len (parts := parts) ws (runStep parts ps s)
    have h3 := hst.1
    refine ⟨by show (runs parts (runStep parts ps s) ws).length ≤ _; rw [List.length_cons]; omega, fun n h p hp => ?_⟩
    have := h2 (n + 1) (hst.2 n h) p hp
    rw [List.length_cons]; omega
theorem outK_len (parts : List (List ByteArray)) (ws : List ByteArray) (k : Nat) (hk : k ≤ ws.length) : (outK parts ws k).length ≤ k + 1 ∧ ∀ p ∈ outK parts ws k, p.word.length ≤ k := by
  unfold outK
  split
  · exact ⟨by simp, fun p hp => by simp at hp; subst hp; simp⟩
  · obtain ⟨h1, h2⟩ := runs_len (parts := parts) (ws.take k) []
    have hl : (ws.take k).length = k := by simp; omega
    rw [hl] at h1 h2
    exact ⟨by simp at h1; omega, fun p hp => by have := h2 0 (by simp) p hp; omega⟩
theorem outK_last {parts : List (List ByteArray)} {ws : List ByteArray} {k : Nat} {y : ByteArray} (hk : 0 < k) (hy : ws[k - 1]? = some y) : ∃ m w, outK parts ws k = m ++ [⟨partOf parts y, w⟩] := by
  unfold outK
  rw [if_neg (by omega)]
  have := runs_snoc (parts := parts) hy
  rw [show k - 1 + 1 = k by omega] at this
  rw [this]
  exact runStep_last
theorem outK_step {parts : List (List ByteArray)} {ws : List ByteArray} {k : Nat} {s : ByteArray} (hs : ws[k]? = some s) (hk : 0 < k) : outK parts ws (k + 1) = runStep parts (outK parts ws k) s := by
  unfold outK
  rw [if_neg (by omega), if_neg (by omega)]
  exact runs_snoc hs
theorem outK_one {parts : List (List ByteArray)} {ws : List ByteArray} {s : ByteArray} (hs : ws[0]? = some s) : outK parts ws 1 = [⟨partOf parts s, [s]⟩] := by
  unfold outK
  rw [if_neg (by omega), show (1 : Nat) = 0 + 1 from rfl, runs_snoc hs]
  rfl

theorem rep_at {α β : Type} {zs : List β} {n i : Nat} {p : β} (f : α → β) (h : (List.replicate n zs).flatten[i]? = some p) : i / zs.length < n ∧ zs[i % zs.length]? = some p ∧ i = i / zs.length * zs.length + i % zs.length := by
  have hi := lt_of_get h
  have hl : (List.replicate n zs).flatten.length = n * zs.length := by simp
  rw [hl] at hi
  have hz : 0 < zs.length := by
    rcases Nat.eq_zero_or_pos zs.length with h0 | h0
    · rw [h0] at hi; omega
    · exact h0
  have hdiv : i / zs.length < n := by rw [Nat.div_lt_iff_lt_mul hz]; exact hi
  have hmod : i % zs.length < zs.length := Nat.mod_lt _ hz
  have he : i = i / zs.length * zs.length + i % zs.length := by rw [Nat.mul_comm]; exact (Nat.div_add_mod _ _).symm
  refine ⟨hdiv, ?_, he⟩
  have h2 := flat_at (f := fun _ : Nat => zs) (k := zs.length) (fun _ => rfl) (l := List.range n) (i := i / zs.length) (x := i / zs.length) (by simp [hdiv]) (j := i % zs.length) hmod
  rw [← he, show (List.range n).flatMap (fun _ => zs) = (List.replicate n zs).flatten by rw [List.flatMap_def, List.map_const', List.length_range], h] at h2
  exact h2.symm
theorem nilTo_rep (n e : Nat) : ∀ (i : Nat) (p p' : PV), (List.replicate n (List.map PV.val [.int .i64 0, .slice none 0 0])).flatten[i]? = some p → ((List.replicate n (⟨0, []⟩ : Piece)).flatMap (oPiece e))[i]? = some p' → nilTo p p' := fun i p p' h1 h2 => by
  obtain ⟨hd, hz, he⟩ := rep_at (fun x : Nat => p) h1
  simp only [List.length_map, List.length_cons, List.length_nil] at hd hz he
  have hm : i % 2 < 2 := Nat.mod_lt _ (by decide)
  rw [show (0 + 1 + 1 : Nat) = 2 from rfl] at hd hz he
  have h3 := flat_at (oPiece_len e) (l := List.replicate n (⟨0, []⟩ : Piece)) (i := i / 2) (x := ⟨0, []⟩) (by rw [List.getElem?_replicate, if_pos hd]) (j := i % 2) hm
  rw [← he, h2] at h3
  generalize i % 2 = r at hz h3 hm
  match r, hz, h3 with
  | 0, hz, h3 => simp [oPiece] at hz h3; exact .inl (h3.trans hz)
  | 1, hz, h3 => simp [oPiece] at hz h3; exact .inr ⟨hz.symm, _, _, h3⟩
  | r + 2, _, _ => omega

set_option maxHeartbeats 1000000 in
theorem csplit_e (c : Cut) (ws : List ByteArray) (es : List (ByteArray × Value)) (hes : ∀ t ∈ ws, aget es t = some (.int .i64 (partOf c.parts t))) (hin : ∀ t ∈ ws, 0 ≤ partOf c.parts t) (hlen : ws.length ≤ 1000) (hn0 : 0 < c.parts.length) (hn1 : c.parts.length ≤ 1000000) (hk1 : 1 ≤ c.kind) (hk4 : c.kind ≤ 4) :
    AF Tryz.prog 90 [pStrs ws, pInt c.kind, pInt c.parts.length, .smap (skv es)] (RSplit (splitOf c ws)) := by
  refine AF.of_body 185 Tryz.func90 rfl Tryz.ntmps90 (Nat.le_of_ble_eq_true rfl) ?_
  intro w0 M0 vs hl hv
  obtain ⟨v0, v1, v2, v3, rfl⟩ := len4 hl
  obtain rfl := hv 1 _ _ rfl rfl
  obtain rfl := hv 2 _ _ rfl rfl
  clear hl hv
  refine nav ?_
  (refine aC_region ?_
    <;> refine s_box 4 fun h4 => ?_
    <;> refine s_box 7 fun h7 => ?_
    <;> refine xL 8 q_assign ?_
    <;> refine xL 9 q_assign ?_
    <;> refine aL_end (nav ?_) <;> try dsimp only)
  (refine aC_region ?_
    <;> refine xL 19 q_move ?_
    <;> refine aL_end (nav ?_) <;> try dsimp only)
  (refine aC_region ?_
    <;> refine xL 21 q_eql ?_
    <;> refine xL 20 q_assign ?_
    <;> refine aL_end (nav ?_) <;> try dsimp only)
  refine aC_cond rfl ?_ ?_
  · intro hb
    have hk : c.kind = 1 := of_decide_eq_true hb
    refine nav ?_
    (refine aC_region ?_
      <;> (refine yL 22 (q_ldo 4 tNa36_EwD) fun v22 hv22 => ?_; cases hv22)
      <;> refine xL 23 (q_len tSl36_EwD) ?_
      <;> refine xL 24 q_eql ?_
      <;> refine xL 25 q_move ?_
      <;> (refine bLd 25 (fun hb25 => ?_) (fun hb25 => ?_) <;> (first | refine kL 26 ?_ | (refine yL 26 (q_ldo 4 tNa36_EwD) fun v26 hv26 => ?_; cases hv26)))
      <;> (first | refine kL 27 ?_ | refine xL 27 q_mkfn ?_)
      <;> (first | refine kL 28 ?_ | (have hcl : ws ≠ [] := (fun e => by subst e; exact hb25 rfl); refine (get_some (show 0 < ws.length by cases ws with | nil => exact absurd rfl hcl | cons => simp)).elim fun s0 hs0 => ?_; refine aL_cs 28 rfl rfl (Nat.le_of_ble_eq_true rfl) (callB rfl (Tryz.call17) (ps := [pStrs ws, .fn 121 [.sptr 0 [.smap (skv es)], .sptr 0 [pStrs ws]]]) ⟨⟨_, _, rfl, reads_slot (x := .tmp 26) rfl⟩, ⟨_, _, rfl, reads_fn2 (l1 := 7) (l2 := 4) rfl rfl rfl rfl⟩, trivial⟩ (containsFuncStr_e 121 _ (fun s => partOf c.parts s != partOf c.parts s0) ws (Tryz.call121) (fun s hs => csplit1_e c.parts ws es s s0 hs0 hes hs)) (fun p hp => by rw [hp]; rfl)) ?_; rintro p' rfl; refine ⟨rfl, ?_⟩; intro v28 hv28; cases hv28))
      <;> refine xL 29 q_pick ?_
      <;> refine aL_end (nav ?_) <;> try dsimp only)
    · have h0 : ws = [] := List.eq_nil_of_length_eq_zero (by omega)
      refine aC_cond rfl ?_ (fun h => by cases h)
      intro _
      refine nav ?_
      (refine aC_region ?_
        <;> refine xL 8 q_assign ?_
        <;> refine xL 9 q_assign ?_
        <;> refine aL_end (nav ?_) <;> try dsimp only)
      refine ret_ss (Tryz.results90) rfl rfl ?_
      rw [h0, splitOf_xor_nil hk]; rfl
    · obtain ⟨l, rfl⟩ : ∃ l, ws = s0 :: l := by
        cases ws with
        | nil => simp at hs0
        | cons a b => simp at hs0; subst hs0; exact ⟨b, rfl⟩
      have hsp := splitOf_xor (l := l) hk (hin s0 (by simp))
      refine aC_cond rfl ?_ ?_
      · intro hb3
        refine nav ?_
        (refine aC_region ?_
          <;> refine xL 8 q_assign ?_
          <;> refine xL 9 q_assign ?_
          <;> refine aL_end (nav ?_) <;> try dsimp only)
        refine ret_ss (Tryz.results90) rfl rfl ?_
        rw [hsp, hb3]; rfl
      · intro hb3
        have m2 := mg_part (hes s0 (by simp))
        have e1 : ((s0 :: l).map pStr)[(0 : Int).toNat * 1]? = some (pStr s0) := rfl
        refine nav ?_
        (refine aC_draw (fun i => ([] : List Nat).elem i) [4, 7] (by kernel_rfl) ?_
          <;> (refine yD 0 30 rfl (q_ldo 7 tNa74_EwD) fun v30 hv30 => ?_; cases hv30)
          <;> (refine yD 1 31 rfl (q_ldo 4 tNa36_EwD) fun v31 hv31 => ?_; cases hv31)
          <;> refine xD 2 32 rfl (q_idxN tSl36_EwD) ?_
          <;> (refine yD 3 33 rfl (q_ld tNa9_EwD) fun v33 hv33 => ?_; cases hv33)
          <;> refine xD 4 34 rfl (q_lookE tMp74_EwD) ?_
          <;> (refine yE 5 35 rfl (q_ldo 4 tNa36_EwD) fun v35 hv35 => ?_; cases hv35)
          <;> refine xE 6 36 rfl (q_build tSt129_EwD) ?_
          <;> (refine aD_one 7 (by kernel_rfl) ?_)
          <;> (refine aW_run rfl fun w9 M9 N9 DQ back => ?_)
          <;> refine s_lit1a 37 tEl125_EwD fun h37 ho37 => ?_
          <;> refine aL_end (back _ (nrm ?_))
          <;> refine xE 8 8 rfl q_assign ?_
          <;> refine xE 9 9 rfl q_assign ?_
          <;> refine aD_end (by kernel_rfl) (nav ?_)
          <;> try dsimp only)
        refine aR_ent (En.freeze (l := 37) (t := 8) rfl rfl) fun _ => ?_
        refine ret_ss (Tryz.results90) rfl rfl ?_
        rw [hsp, hb3]; rfl
  · intro hb
    have hk : c.kind ≠ 1 := of_decide_eq_false hb
    refine nav ?_
    (refine aC_region ?_
      <;> refine xL 39 q_eql ?_
      <;> refine xL 38 q_assign ?_
      <;> refine aL_end (nav ?_) <;> try dsimp only)
    refine aC_cond rfl ?_ ?_
    · intro hb2
      have hk' : c.kind = 4 := of_decide_eq_true hb2
      refine nav ?_
      (refine aC_region ?_
        <;> refine xL 40 (q_build tSt129_EwD) ?_
        <;> refine s_lit1a 41 tEl125_EwD fun h41 ho41 => ?_
        <;> refine xL 10 q_assign ?_
        <;> refine aL_end (nav ?_) <;> try dsimp only)
      refine aC_ent (nilCells (l := 41) ([⟨0, []⟩].flatMap (oPiece 9)) rfl rfl (fun i p p' h1 h2 => by
        match i with
        | 0 => simp [oPiece, setP] at h1 h2; exact .inl (h2.symm.trans h1)
        | 1 => simp [oPiece, setP] at h1 h2; exact .inr ⟨h1.symm, _, _, h2.symm⟩
        | i + 2 => simp [oPiece] at h2)) fun _ => ?_
      (refine aC_region ?_
        <;> (refine yL 42 (q_ldo 4 tNa36_EwD) fun v42 hv42 => ?_; cases hv42)
        <;> refine xL 43 (q_len tSl36_EwD) ?_
        <;> refine xL 44 q_move ?_
        <;> refine aL_end (nav ?_) <;> try dsimp only)
      refine aC_loop (ι := { x : Nat × Value // x.1 ≤ ws.length ∧ x.2.oneCell' = true }) (fun x => ⟨[(4, padd (sbase h4) 0, .val (padd (sbase h4) 0)), (7, padd (sbase h7) 0, .val (padd (sbase h7) 0)), (10, x.1.2, .val x.1.2), (42, v42, pStrs ws), (43, .int .i64 ws.length, pInt ws.length), (44, .int .i64 x.1.1, pInt x.1.1)], [(4, h4, .own 36 1 1 [pStrs ws]), (7, h7, .own 74 1 1 [.smap (skv es)]), (41, x.1.2, .own 129 2 (outK c.parts ws x.1.1).length ((outK c.parts ws x.1.1).flatMap (oPiece 9)))]⟩) (fun x => ws.length - x.1.1) ⟨(0, h41), by omega, ho41⟩ (fun a w H => H.weaken ⟨rfl, rfl, rfl, rfl, rfl, rfl, trivial⟩ ⟨rfl, rfl, rfl, trivial⟩) ?_
      rintro ⟨⟨k, h⟩, hk0, hho⟩
      dsimp only at hk0 hho ⊢
      refine nav ?_
      (refine aC_region ?_
        <;> refine xL 45 q_lss ?_
        <;> refine aL_end (nav ?_) <;> try dsimp only)
      refine aC_cond rfl ?_ ?_
      · intro hb3
        have hlt : k < ws.length := by have := of_decide_eq_true hb3; omega
        obtain ⟨s, hs⟩ := get_some hlt
        have e1 := map_at (f := pStr) hs
        have m1 := mg_part (hes s (List.mem_of_getElem? hs))
        obtain ⟨hol, how⟩ := outK_len c.parts ws k hk0
        have hprev : 0 < k → ∃ y, ws[k - 1]? = some y ∧ (ws.map pStr)[k - 1]? = some (pStr y) ∧ (mget (skv es) (.string y)).getD (.int .i64 0) = .int .i64 (partOf c.parts y) := fun h0 => by
          obtain ⟨y, hy⟩ := get_some (show k - 1 < ws.length by omega)
          exact ⟨y, hy, by rw [List.getElem?_map, hy]; rfl, mg_part (hes y (List.mem_of_getElem? hy))⟩
        refine nav ?_
        (refine aC_region ?_
          <;> refine xL 46 q_move ?_
          <;> refine xL 47 (q_idxN tSl36_EwD) ?_
          <;> (refine yL 48 (q_ld tNa9_EwD) fun v48 hv48 => ?_; cases hv48)
          <;> refine xL 11 q_assign ?_
          <;> refine xL 12 q_assign ?_
          <;> refine aL_end (nav ?_) <;> try dsimp only)
        (refine aC_draw (fun i => ([] : List Nat).elem i) [4, 7, 41] (by kernel_rfl) ?_
          <;> refine xE 0 49 rfl q_move ?_
          <;> refine xE 1 50 rfl q_eql ?_
          <;> refine xE 2 51 rfl q_move ?_
          <;> (refine bDd 51 (fun hb51 => ?_) (fun hb51 => ?_) <;> (first | refine kD 3 52 rfl ?_ | (refine yD 3 52 rfl (q_ldo 7 tNa74_EwD) fun v52 hv52 => ?_; cases hv52)))
          <;> (first | refine kD 4 53 rfl ?_ | refine xD 4 53 rfl q_move ?_)
          <;> (first | refine kD 5 54 rfl ?_ | refine xD 5 54 rfl (q_lookE tMp74_EwD) ?_)
          <;> (first | refine kD 6 55 rfl ?_ | (refine yD 6 55 rfl (q_ldo 7 tNa74_EwD) fun v55 hv55 => ?_; cases hv55))
          <;> (first | refine kD 7 56 rfl ?_ | (refine yD 7 56 rfl (q_ldo 4 tNa36_EwD) fun v56 hv56 => ?_; cases hv56))
          <;> (first | refine kD 8 57 rfl ?_ | refine xD 8 57 rfl q_move ?_)
          <;> (first | refine kD 9 58 rfl ?_ | refine xD 9 58 rfl q_sub ?_)
          <;> (first | refine kD 10 59 rfl ?_ | refine xD 10 59 rfl (q_idx tSl36_EwD) ?_)
          <;> (first | refine kD 11 60 rfl ?_ | (refine (hprev (by omega)).elim fun y hy => ?_; refine aD_y 11 60 rfl (by kernel_rfl) rfl rfl (Nat.le_of_ble_eq_true rfl) (y_ld_shrI (k - 1) tNa9_EwD rfl rfl (by omega) hy.2.1) ?_; intro v60 hv60; cases hv60; have m2 := hy.2.2))
          <;> (first | refine kD 12 61 rfl ?_ | refine xD 12 61 rfl (q_lookE tMp74_EwD) ?_)
          <;> (first | refine kD 13 62 rfl ?_ | refine xD 13 62 rfl q_neq ?_)
          <;> refine xE 14 63 rfl q_pick ?_
          <;> refine aD_end (by kernel_rfl) (nav ?_)
          <;> try dsimp only)
        · -- the first name
          have hk00 : k = 0 := by omega
          have hs' : ws[0]? = some s := hk00 ▸ hs
          have ho : outK c.parts ws k = [⟨0, []⟩] := by rw [hk00]; rfl
          rw [ho]
          refine aC_mid (ι := { x : Value × List Piece × Piece // x.1.oneCell' = true ∧ outK c.parts ws (k + 1) = x.2.1 ++ [⟨x.2.2.part, x.2.2.word ++ [s]⟩] ∧ x.2.1.length ≤ k + 1 ∧ x.2.2.word.length ≤ k }) (fun x => ⟨[(4, padd (sbase h4) 0, .val (padd (sbase h4) 0)), (7, padd (sbase h7) 0, .val (padd (sbase h7) 0)), (10, x.1.1, .val x.1.1), (12, .string s, pStr s), (42, v42, pStrs ws), (43, .int .i64 ws.length, pInt ws.length), (44, .int .i64 k, pInt k)], [(4, h4, .own 36 1 1 [pStrs ws]), (7, h7, .own 74 1 1 [.smap (skv es)]), (41, x.1.1, .own 129 2 (x.1.2.1.length + 1) ((x.1.2.1 ++ [x.1.2.2]).flatMap (oPiece 9)))]⟩) ?_ ?_
          · refine aC_cond rfl ?_ (fun h => by cases h)
            intro _
            refine nav ?_
            (refine aC_region ?_
              <;> refine xL 64 q_move ?_
              <;> refine xL 65 q_gtr ?_
              <;> refine aL_end (nav ?_) <;> try dsimp only)
            refine aC_cond rfl (fun h => by have := of_decide_eq_true h; omega) ?_
            intro _
            refine nav ?_
            (refine aC_region ?_
              <;> refine xL 70 q_move ?_
              <;> refine xL 71 q_move ?_
              <;> refine xL 72 (q_leno 41 tSl125_EwD) ?_
              <;> refine xL 73 q_sub ?_
              <;> (refine yL 74 (q_ldo 7 tNa74_EwD) fun v74 hv74 => ?_; cases hv74)
              <;> refine xL 75 q_move ?_
              <;> refine xL 76 (q_lookE tMp74_EwD) ?_
              <;> refine xL 77 (q_idxoN 41 tSl125_EwD) ?_
              <;> refine xL 78 (q_fldo 41 tFl129_0_EwD) ?_
              <;> refine aL_st1I 41 0 rfl rfl tNa3_EwD tSz3_EwD rfl rfl rfl rfl rfl (by simp) (by simp [oPiece]) ?_
              <;> refine aL_end (nav ?_) <;> try dsimp only)
            exact aN_cut ⟨(h, [], ⟨partOf c.parts s, []⟩), hho, by rw [hk00, outK_one hs']; rfl, by simp, by simp⟩ ⟨rfl, rfl, rfl, rfl, rfl, rfl, rfl, trivial⟩ ⟨rfl, rfl, rfl, trivial⟩
          · rintro ⟨⟨h9, m, q⟩, hh9, hout, hm1, hq1⟩
            dsimp only at hh9 hout hm1 hq1 ⊢
            have hqat : (m ++ [q])[m.length]? = some q := by simp
            have hfl := flat_len (oPiece_len 9) (m ++ [q])
            have hfl2 : ((m ++ [q]).flatMap (oPiece 9)).length = m.length * 2 + 2 := by rw [hfl]; simp; omega
            have hcell := flat_at (oPiece_len 9) hqat (j := 1) (by decide)
            refine aC_ent (focus (l := 41) (l' := 500) (j := m.length * 2 + 1) rfl hcell rfl) fun v => ?_
            have hc2 : (((m ++ [q]).flatMap (oPiece 9)).set (m.length * 2 + 1) (.val v))[m.length * 2 + 1]? = some (.val v) := List.getElem?_set_self (by omega)
            refine nav ?_
            (refine aC_region ?_
              <;> refine xL 79 q_move ?_
              <;> refine xL 80 q_move ?_
              <;> refine xL 81 (q_leno 41 tSl125_EwD) ?_
              <;> refine xL 82 q_sub ?_
              <;> refine xL 83 q_move ?_
              <;> refine xL 84 q_move ?_
              <;> refine xL 85 (q_leno 41 tSl125_EwD) ?_
              <;> refine xL 86 q_sub ?_
              <;> refine xL 87 (q_idxo 41 tSl125_EwD) ?_
              <;> refine xL 88 (q_fldo 41 tFl129_1_EwD) ?_
              <;> (refine aL_y 89 rfl rfl (Nat.le_of_ble_eq_true rfl) (y_ld_ownI 41 (m.length * 2 + 1) tNa36_EwD rfl rfl rfl (by omega) hc2 rfl) ?_; intro v89 hv89; cases hv89)
              <;> refine xL 90 q_move ?_
              <;> refine s_lit1 (kk := 1) 91 tEl36_EwD fun h91 ho91 => ?_
              <;> refine s_app 500 91 92 tEl36_EwD fun h92 ho92 => ?_
              <;> refine xL 93 (q_idxo 41 tSl125_EwD) ?_
              <;> refine xL 94 (q_fldo 41 tFl129_1_EwD) ?_
              <;> (refine aL_st1I 41 (m.length * 2 + 1) rfl rfl tNa36_EwD tSz36_EwD rfl rfl rfl (by assumption) rfl (by omega) (by rw [List.length_set, hfl2]; omega) ?_)
              <;> refine aL_end (nav ?_) <;> try dsimp only)
            have hc3 : ((((m ++ [q]).flatMap (oPiece 9)).set (m.length * 2 + 1) (.val v)).set (m.length * 2 + 1) (.val h92))[m.length * 2 + 1]? = some (.val h92) := List.getElem?_set_self (by rw [List.length_set]; omega)
            refine aC_ent (fold (l := 41) (l' := 92) (j := m.length * 2 + 1) rfl hc3 rfl rfl) fun _ => ?_
            have hcs : (((((m ++ [q]).flatMap (oPiece 9)).set (m.length * 2 + 1) (.val v)).set (m.length * 2 + 1) (.val h92)).set (m.length * 2 + 1) (.own 9 1 (q.word.length + 1) (q.word.map pStr ++ [pStr s]))) = (outK c.parts ws (k + 1)).flatMap (oPiece 9) := by
              rw [List.set_set, List.set_set, hout, flat_set (oPiece_len 9) (m ++ [q]) m.length 1 q ⟨q.part, q.word ++ [s]⟩ _ hqat (by decide) (by simp [oPiece])]
              congr 1
              rw [List.set_append_right _ _ (Nat.le_refl _), Nat.sub_self]; rfl
            (refine aC_region ?_
              <;> refine xL 95 q_add ?_
              <;> refine xL 44 q_move ?_
              <;> refine aL_end (nav ?_) <;> try dsimp only)
            exact aN_again ⟨(k + 1, h9), by show k + 1 ≤ ws.length; omega, hh9⟩ (by show ws.length - (k + 1) < ws.length - k; omega) ⟨rfl, rfl, rfl, rfl, rfl, rfl, trivial⟩ ⟨rfl, rfl, by show some _ = some _; rw [hcs, hout]; simp, trivial⟩
        · obtain ⟨m0, w0', hlast⟩ := outK_last (parts := c.parts) (show 0 < k by omega) hy.1
          have hstep := outK_step (parts := c.parts) hs (show 0 < k by omega)
          rw [hlast] at hol how hstep
          have hgl := get_last m0 ⟨partOf c.parts y, w0'⟩
          rw [hlast]
          have hol' : (m0 ++ [(⟨partOf c.parts y, w0'⟩ : Piece)]).length = m0.length + 1 := by simp
          refine aC_mid (ι := { x : Value × List Piece × Piece // x.1.oneCell' = true ∧ outK c.parts ws (k + 1) = x.2.1 ++ [⟨x.2.2.part, x.2.2.word ++ [s]⟩] ∧ x.2.1.length ≤ k + 1 ∧ x.2.2.word.length ≤ k }) (fun x => ⟨[(4, padd (sbase h4) 0, .val (padd (sbase h4) 0)), (7, padd (sbase h7) 0, .val (padd (sbase h7) 0)), (10, x.1.1, .val x.1.1), (12, .string s, pStr s), (42, v42, pStrs ws), (43, .int .i64 ws.length, pInt ws.length), (44, .int .i64 k, pInt k)], [(4, h4, .own 36 1 1 [pStrs ws]), (7, h7, .own 74 1 1 [.smap (skv es)]), (41, x.1.1, .own 129 2 (x.1.2.1.length + 1) ((x.1.2.1 ++ [x.1.2.2]).flatMap (oPiece 9)))]⟩) ?_ ?_
          · refine aC_cond rfl ?_ ?_
            · intro hb4
              have hne : partOf c.parts s ≠ partOf c.parts y := of_decide_eq_true hb4
              have hst2 : outK c.parts ws (k + 1) = (m0 ++ [(⟨partOf c.parts y, w0'⟩ : Piece)]) ++ [⟨partOf c.parts s, [] ++ [s]⟩] := by
                rw [hstep]; unfold runStep; rw [hgl]; simp [Ne.symm hne]
              have hfl := flat_len (oPiece_len 9) (m0 ++ [(⟨partOf c.parts y, w0'⟩ : Piece)])
              refine nav ?_
              (refine aC_region ?_
                <;> refine xL 64 q_move ?_
                <;> refine xL 65 q_gtr ?_
                <;> refine aL_end (nav ?_) <;> try dsimp only)
              refine aC_cond rfl ?_ (fun h => by have := of_decide_eq_false h; omega)
              intro _
              refine nav ?_
              (refine aC_region ?_
                <;> refine xL 66 q_move ?_
                <;> refine xL 67 (q_build tSt129_EwD) ?_
                <;> refine s_lit1a 68 tEl125_EwD fun h68 ho68 => ?_
                <;> refine s_app 41 68 69 tEl125_EwD fun h69 ho69 => ?_
                <;> refine xL 10 q_assign ?_
                <;> refine aL_end (nav ?_) <;> try dsimp only)
              refine aC_ent (nilCells (l := 69) (((m0 ++ [(⟨partOf c.parts y, w0'⟩ : Piece)]).flatMap (oPiece 9)) ++ [pInt 0, .own 9 1 0 []]) rfl (by simp [setP]) (nilTo_app _ _ _ _)) fun _ => ?_
              refine aC_ent (relabel (l := 69) 41 rfl rfl) fun _ => ?_
              (refine aC_region ?_
                <;> refine xL 70 q_move ?_
                <;> refine xL 71 q_move ?_
                <;> refine xL 72 (q_leno 41 tSl125_EwD) ?_
                <;> refine xL 73 q_sub ?_
                <;> (refine yL 74 (q_ldo 7 tNa74_EwD) fun v74 hv74 => ?_; cases hv74)
                <;> refine xL 75 q_move ?_
                <;> refine xL 76 (q_lookE tMp74_EwD) ?_
                <;> refine xL 77 (q_idxo 41 tSl125_EwD) ?_
                <;> refine xL 78 (q_fldo 41 tFl129_0_EwD) ?_
                <;> (refine aL_st1I 41 ((m0.length + 1) * 2) rfl rfl tNa3_EwD tSz3_EwD rfl rfl rfl rfl rfl (by omega) (by rw [List.length_append, hfl]; simp) ?_)
                <;> refine aL_end (nav ?_) <;> try dsimp only)
              have hcs : ((((m0 ++ [(⟨partOf c.parts y, w0'⟩ : Piece)]).flatMap (oPiece 9)) ++ [pInt 0, .own 9 1 0 []]).set ((m0.length + 1) * 2) (pInt (partOf c.parts s))) = ((m0 ++ [(⟨partOf c.parts y, w0'⟩ : Piece)]) ++ [(⟨partOf c.parts s, []⟩ : Piece)]).flatMap (oPiece 9) := by
                rw [List.set_append_right _ _ (by rw [hfl, hol']; exact Nat.le_refl _), hfl, hol', Nat.sub_self]
                simp only [List.flatMap_append]
                rfl
              exact aN_cut ⟨(h69, m0 ++ [⟨partOf c.parts y, w0'⟩], ⟨partOf c.parts s, []⟩), ho69, hst2, by show (m0 ++ [(⟨partOf c.parts y, w0'⟩ : Piece)]).length ≤ k + 1; omega, by simp⟩ ⟨rfl, rfl, rfl, rfl, rfl, rfl, rfl, trivial⟩ ⟨rfl, rfl, by show some _ = some _; rw [hcs], trivial⟩
            · intro hb4
              have heq : partOf c.parts s = partOf c.parts y := by have := of_decide_eq_false hb4; omega
              have hst2 : outK c.parts ws (k + 1) = m0 ++ [⟨partOf c.parts y, w0' ++ [s]⟩] := by
                rw [hstep]; unfold runStep; rw [hgl]; simp only []
                rw [if_pos heq.symm, set_last]
              refine nav ?_
              exact aN_cut ⟨(h, m0, ⟨partOf c.parts y, w0'⟩), hho, hst2, by show m0.length ≤ k + 1; omega, how _ (by simp)⟩ ⟨rfl, rfl, rfl, rfl, rfl, rfl, rfl, trivial⟩ ⟨rfl, rfl, by show some _ = some _; rw [hol'], trivial⟩
          · rintro ⟨⟨h9, m, q⟩, hh9, hout, hm1, hq1⟩
            dsimp only at hh9 hout hm1 hq1 ⊢
            have hqat : (m ++ [q])[m.length]? = some q := by simp
            have hfl := flat_len (oPiece_len 9) (m ++ [q])
            have hfl2 : ((m ++ [q]).flatMap (oPiece 9)).length = m.length * 2 + 2 := by rw [hfl]; simp; omega
            have hcell := flat_at (oPiece_len 9) hqat (j := 1) (by decide)
            refine aC_ent (focus (l := 41) (l' := 500) (j := m.length * 2 + 1) rfl hcell rfl) fun v => ?_
            have hc2 : (((m ++ [q]).flatMap (oPiece 9)).set (m.length * 2 + 1) (.val v))[m.length * 2 + 1]? = some (.val v) := List.getElem?_set_self (by omega)
            refine nav ?_
            (refine aC_region ?_
              <;> refine xL 79 q_move ?_
              <;> refine xL 80 q_move ?_
              <;> refine xL 81 (q_leno 41 tSl125_EwD) ?_
              <;> refine xL 82 q_sub ?_
              <;> refine xL 83 q_move ?_
              <;> refine xL 84 q_move ?_
              <;> refine xL 85 (q_leno 41 tSl125_EwD) ?_
              <;> refine xL 86 q_sub ?_
              <;> refine xL 87 (q_idxo 41 tSl125_EwD) ?_
              <;> refine xL 88 (q_fldo 41 tFl129_1_EwD) ?_
              <;> (refine aL_y 89 rfl rfl (Nat.le_of_ble_eq_true rfl) (y_ld_ownI 41 (m.length * 2 + 1) tNa36_EwD rfl rfl rfl (by omega) hc2 rfl) ?_; intro v89 hv89; cases hv89)
              <;> refine xL 90 q_move ?_
              <;> refine s_lit1 (kk := 1) 91 tEl36_EwD fun h91 ho91 => ?_
              <;> refine s_app 500 91 92 tEl36_EwD fun h92 ho92 => ?_
              <;> refine xL 93 (q_idxo 41 tSl125_EwD) ?_
              <;> refine xL 94 (q_fldo 41 tFl129_1_EwD) ?_
              <;> (refine aL_st1I 41 (m.length * 2 + 1) rfl rfl tNa36_EwD tSz36_EwD rfl rfl rfl (by assumption) rfl (by omega) (by rw [List.length_set, hfl2]; omega) ?_)
              <;> refine aL_end (nav ?_) <;> try dsimp only)
            have hc3 : ((((m ++ [q]).flatMap (oPiece 9)).set (m.length * 2 + 1) (.val v)).set (m.length * 2 + 1) (.val h92))[m.length * 2 + 1]? = some (.val h92) := List.getElem?_set_self (by rw [List.length_set]; omega)
            refine aC_ent (fold (l := 41) (l' := 92) (j := m.length * 2 + 1) rfl hc3 rfl rfl) fun _ => ?_
            have hcs : (((((m ++ [q]).flatMap (oPiece 9)).set (m.length * 2 + 1) (.val v)).set (m.length * 2 + 1) (.val h92)).set (m.length * 2 + 1) (.own 9 1 (q.word.length + 1) (q.word.map pStr ++ [pStr s]))) = (outK c.parts ws (k + 1)).flatMap (oPiece 9) := by
              rw [List.set_set, List.set_set, hout, flat_set (oPiece_len 9) (m ++ [q]) m.length 1 q ⟨q.part, q.word ++ [s]⟩ _ hqat (by decide) (by simp [oPiece])]
              congr 1
              rw [List.set_append_right _ _ (Nat.le_refl _), Nat.sub_self]; rfl
            (refine aC_region ?_
              <;> refine xL 95 q_add ?_
              <;> refine xL 44 q_move ?_
              <;> refine aL_end (nav ?_) <;> try dsimp only)
            exact aN_again ⟨(k + 1, h9), by show k + 1 ≤ ws.length; omega, hh9⟩ (by show ws.length - (k + 1) < ws.length - k; omega) ⟨rfl, rfl, rfl, rfl, rfl, rfl, trivial⟩ ⟨rfl, rfl, by show some _ = some _; rw [hcs, hout]; simp, trivial⟩
      · intro hb3
        have hge : k = ws.length := by have := of_decide_eq_false hb3; omega
        have hfin : splitOf c ws = if goodLoop (outK c.parts ws k) then some (outK c.parts ws k) else none := by
          unfold splitOf
          rw [if_pos hk']
          by_cases h0 : ws = []
          · have : k = 0 := by rw [hge, h0]; rfl
            rw [h0, this]
            rfl
          · have hk1' : k ≠ 0 := fun e => h0 (List.eq_nil_of_length_eq_zero (by omega))
            rw [piecesOf_runs h0]
            unfold outK
            rw [if_neg hk1', hge, List.take_length]
        obtain ⟨hol, _⟩ := outK_len c.parts ws k hk0
        generalize outK c.parts ws k = out at hfin hol ⊢
        refine nav ?_
        (refine aC_region ?_
          <;> refine xL 96 q_move ?_
          <;> refine xL 97 (q_leno 41 tSl125_EwD) ?_
          <;> refine xL 98 q_move ?_
          <;> refine aL_end (nav ?_) <;> try dsimp only)
        refine aC_loop (ι := { j : Nat // j ≤ out.length ∧ ∀ i, i < j → badPiece out i = false }) (fun j => ⟨[(10, h, .val h), (96, h, .val h), (97, .int .i64 out.length, pInt out.length), (98, .int .i64 j.1, pInt j.1)], [(41, h, .own 129 2 out.length (out.flatMap (oPiece 9)))]⟩) (fun j => out.length - j.1) ⟨0, by omega, by omega⟩ (fun a w H => H.weaken ⟨rfl, rfl, rfl, rfl, trivial⟩ ⟨rfl, trivial⟩) ?_
        rintro ⟨j, hj, hprej⟩
        dsimp only at hj hprej ⊢
        refine nav ?_
        (refine aC_region ?_
          <;> refine xL 99 q_lss ?_
          <;> refine aL_end (nav ?_) <;> try dsimp only)
        refine aC_cond rfl ?_ ?_
        · intro hb4
          have hltj : j < out.length := by have := of_decide_eq_true hb4; omega
          obtain ⟨q, hq⟩ := get_some hltj
          have hcell := flat_at (oPiece_len 9) hq (j := 1) (by decide)
          have hfl := flat_len (oPiece_len 9) out
          have hfit := flat_fit (oPiece_len 9) hq
          refine aC_ent (focusO (l := 41) (l' := 500) (j := j * 2 + 1) rfl hcell rfl rfl) fun v => ?_
          obtain ⟨v, hv1⟩ := v
          dsimp only
          have hD : ((((out.flatMap (oPiece 9)).set (j * 2 + 1) (.val v)).drop (j * 2)).take 2) = [pInt q.part, .val v] := by
            rw [List.drop_set, if_neg (by omega), List.take_set, flat_drop (oPiece_len 9) out j q hq, show j * 2 + 1 - j * 2 = 1 by omega]
            rfl
          have hnext : j + 1 < out.length → ∃ q', out[j + 1]? = some q' ∧ ((out.flatMap (oPiece 9)).set (j * 2 + 1) (.val v))[(j + 1) * 2 + 0]? = some (pInt q'.part) := fun h1 => by
            obtain ⟨q', hq'⟩ := get_some h1
            refine ⟨q', hq', ?_⟩
            rw [List.getElem?_set_ne (by omega), flat_at (oPiece_len 9) hq' (j := 0) (by decide)]
            rfl
          refine nav ?_
          (refine aC_region ?_
            <;> refine xL 100 q_move ?_
            <;> refine xL 101 (q_idxoN 41 tSl125_EwD) ?_
            <;> (refine yL 102 (q_ldao 41 tAgg129_EwD) fun v102 hv102 => ?_; cases hv102)
            <;> refine s_alloc [(.int .i64 0), (.slice none 0 0)] 2 14 tZr129_EwD fun h14 => ?_
            <;> refine xL 13 q_assign ?_
            <;> refine s_sta 14 tAgg129_EwD ?_
            <;> refine aL_end (nav ?_) <;> try dsimp only)
          (refine aC_region ?_
            <;> refine xL 103 (q_fldo 14 tFl129_0_EwD) ?_
            <;> (refine yL 104 (q_ldo 14 tNa3_EwD) fun v104 hv104 => ?_; cases hv104)
            <;> refine xL 105 q_neq ?_
            <;> refine xL 106 q_move ?_
            <;> (refine bLd 106 (fun hb106 => ?_) (fun hb106 => ?_) <;> (first | refine kL 107 ?_ | refine xL 107 q_move ?_))
            <;> (first | refine kL 108 ?_ | refine xL 108 q_eql ?_)
            <;> (first | refine kL 109 ?_ | refine xL 109 q_move ?_)
            <;> (first | refine kL 110 ?_ | (refine bLd 109 (fun hb109 => ?_) (fun hb109 => ?_) <;> (first | refine kL 110 ?_ | refine xL 110 q_move ?_)))
            <;> (first | refine kL 111 ?_ | refine xL 111 q_move ?_)
            <;> (first | refine kL 112 ?_ | refine xL 112 (q_leno 41 tSl125_EwD) ?_)
            <;> (first | refine kL 113 ?_ | refine xL 113 q_sub ?_)
            <;> (first | refine kL 114 ?_ | refine xL 114 q_eql ?_)
            <;> (first | refine kL 115 ?_ | refine xL 115 q_pick ?_)
            <;> (first | refine kL 116 ?_ | refine xL 116 q_move ?_)
            <;> (first | refine kL 117 ?_ | (refine bLd 116 (fun hb116 => ?_) (fun hb116 => ?_) <;> (first | refine kL 117 ?_ | refine xL 117 q_move ?_)))
            <;> (first | refine kL 118 ?_ | refine xL 118 q_move ?_)
            <;> (first | refine kL 119 ?_ | refine xL 119 q_add ?_)
            <;> (first | refine kL 120 ?_ | refine xL 120 (q_idxoN 41 tSl125_EwD) ?_)
            <;> (first | refine kL 121 ?_ | refine xL 121 (q_fldo 41 tFl129_0_EwD) ?_)
            <;> (first | refine kL 122 ?_ | (refine (hnext (by omega)).elim fun q' hq' => ?_; refine aL_y 122 rfl rfl (Nat.le_of_ble_eq_true rfl) (y_ld_ownI 41 ((j + 1) * 2 + 0) tNa3_EwD rfl rfl rfl (by first | rfl | omega) hq'.2 rfl) ?_; intro v122 hv122; cases hv122))
            <;> (first | refine kL 123 ?_ | refine xL 123 q_neq ?_)
            <;> (first | refine kL 124 ?_ | refine xL 124 q_pick ?_)
            <;> refine xL 125 q_pick ?_
            <;> refine aL_end (nav ?_) <;> try dsimp only)
          · have hj0 : j = 0 := by omega
            have hbp : badPiece out j = true := by unfold badPiece; rw [hq]; simp [hb106, hj0]
            have hbad : goodLoop out = false := by
              unfold goodLoop
              rw [List.all_eq_false]
              exact ⟨j, List.mem_range.2 hltj, by rw [hbp]; simp⟩
            refine aC_cond rfl ?_ (fun h => by cases h)
            intro _
            refine nav ?_
            (refine aC_region ?_
              <;> refine xL 8 q_assign ?_
              <;> refine xL 9 q_assign ?_
              <;> refine aL_end (nav ?_) <;> try dsimp only)
            refine ret_ss (Tryz.results90) rfl rfl ?_
            rw [hfin, hbad]; rfl
          · have hj0 : j = out.length - 1 := by omega
            have hbp : badPiece out j = true := by unfold badPiece; rw [hq]; simp [hb106, hj0]
            have hbad : goodLoop out = false := by
              unfold goodLoop
              rw [List.all_eq_false]
              exact ⟨j, List.mem_range.2 hltj, by rw [hbp]; simp⟩
            refine aC_cond rfl ?_ (fun h => by cases h)
            intro _
            refine nav ?_
            (refine aC_region ?_
              <;> refine xL 8 q_assign ?_
              <;> refine xL 9 q_assign ?_
              <;> refine aL_end (nav ?_) <;> try dsimp only)
            refine ret_ss (Tryz.results90) rfl rfl ?_
            rw [hfin, hbad]; rfl
          · refine aC_cond rfl ?_ ?_
            · intro hb5
              have hb5 := of_decide_eq_true hb5
              have hbp : badPiece out j = true := by unfold badPiece; rw [hq]; rw [hq'.1]; simp [hb106, hb5]
              have hbad : goodLoop out = false := by
                unfold goodLoop
                rw [List.all_eq_false]
                exact ⟨j, List.mem_range.2 hltj, by rw [hbp]; simp⟩
              refine nav ?_
              (refine aC_region ?_
                <;> refine xL 8 q_assign ?_
                <;> refine xL 9 q_assign ?_
                <;> refine aL_end (nav ?_) <;> try dsimp only)
              refine ret_ss (Tryz.results90) rfl rfl ?_
              rw [hfin, hbad]; rfl
            · intro hb5
              have hb5 : q'.part = 0 := by have := of_decide_eq_false hb5; omega
              have hja : j ≠ 0 := by omega
              have hjb : j ≠ out.length - 1 := by omega
              refine nav ?_
              (refine aC_region ?_
                <;> refine xL 126 q_add ?_
                <;> refine xL 98 q_move ?_
                <;> refine aL_end (nav ?_) <;> try dsimp only)
              have hbp : badPiece out j = false := by unfold badPiece; rw [hq]; rw [hq'.1]; simp [hb5, hja, hjb]
              refine aN_ent (fold (l := 41) (l' := 500) (j := j * 2 + 1) rfl (List.getElem?_set_self (by omega)) rfl rfl) fun _ => ?_
              have hcs : (((out.flatMap (oPiece 9)).set (j * 2 + 1) (.val v)).set (j * 2 + 1) (.own 9 1 q.word.length (q.word.map pStr))) = out.flatMap (oPiece 9) := by
                rw [List.set_set]
                exact set_same hcell
              refine aN_again ⟨j + 1, by omega, fun i hi => ?_⟩ (by show out.length - (j + 1) < out.length - j; omega) ⟨rfl, rfl, rfl, rfl, trivial⟩ ⟨by show some _ = some _; rw [hcs], trivial⟩
              by_cases e : i = j
              · subst e; exact hbp
              · exact hprej i (by omega)
          · have hz : q.part = 0 := by omega
            refine aC_cond rfl (fun h => by cases h) ?_
            intro _
            refine nav ?_
            (refine aC_region ?_
              <;> refine xL 126 q_add ?_
              <;> refine xL 98 q_move ?_
              <;> refine aL_end (nav ?_) <;> try dsimp only)
            have hbp : badPiece out j = false := by unfold badPiece; rw [hq]; simp [hz]
            refine aN_ent (fold (l := 41) (l' := 500) (j := j * 2 + 1) rfl (List.getElem?_set_self (by omega)) rfl rfl) fun _ => ?_
            have hcs : (((out.flatMap (oPiece 9)).set (j * 2 + 1) (.val v)).set (j * 2 + 1) (.own 9 1 q.word.length (q.word.map pStr))) = out.flatMap (oPiece 9) := by
              rw [List.set_set]
              exact set_same hcell
            refine aN_again ⟨j + 1, by omega, fun i hi => ?_⟩ (by show out.length - (j + 1) < out.length - j; omega) ⟨rfl, rfl, rfl, rfl, trivial⟩ ⟨by show some _ = some _; rw [hcs], trivial⟩
            by_cases e : i = j
            · subst e; exact hbp
            · exact hprej i (by omega)
        · intro hb4
          have hgej : out.length ≤ j := by have := of_decide_eq_false hb4; omega
          have hgood : goodLoop out = true := by
            unfold goodLoop
            rw [List.all_eq_true]
            intro i hi
            rw [hprej i (by have := List.mem_range.1 hi; omega)]; rfl
          refine nav ?_
          (refine aC_region ?_
            <;> refine xL 127 q_move ?_
            <;> refine xL 8 q_assign ?_
            <;> refine xL 9 q_assign ?_
            <;> refine aL_end (nav ?_) <;> try dsimp only)
          refine aR_ent (En.freeze (l := 41) (t := 8) rfl rfl) fun _ => ?_
          refine ret_ss (Tryz.results90) rfl rfl ?_
          rw [hfin, hgood]
          show _ = _
          simp only [share, shares_pieces]
          rfl
    · intro hb2
      have hk' : c.kind ≠ 4 := of_decide_eq_false hb2
      refine nav ?_
      (refine aC_region ?_
        <;> refine xL 128 q_move ?_
        <;> refine s_makeK [(.int .i64 0), (.slice none 0 0)] 129 tEl125_EwD fun h129 ho129 => ?_
        <;> refine xL 15 q_assign ?_
        <;> refine aL_end (nav ?_) <;> try dsimp only)
      have hini : (List.replicate c.parts.length (⟨0, []⟩ : Piece)) = noPart (initPs c.parts.length) := (noPart_init _).symm
      refine aC_ent (nilCells (l := 129) ((List.replicate c.parts.length (⟨0, []⟩ : Piece)).flatMap (oPiece 9)) rfl (by rw [flat_len (oPiece_len 9)]; simp) (nilTo_rep _ _)) fun _ => ?_
      rw [hini]
      (refine aC_region ?_
        <;> (refine yL 130 (q_ldo 4 tNa36_EwD) fun v130 hv130 => ?_; cases hv130)
        <;> refine xL 131 (q_len tSl36_EwD) ?_
        <;> refine xL 132 q_move ?_
        <;> refine aL_end (nav ?_) <;> try dsimp only)
      refine aC_loop (ι := { x : Nat × List Piece × Int // x.1 ≤ ws.length ∧ splitGo c.kind c.parts true 0 (initPs c.parts.length) ws = splitGo c.kind c.parts (decide (x.1 = 0)) x.2.2 x.2.1 (ws.drop x.1) ∧ InPlace x.2.1 ∧ x.2.1.length = c.parts.length ∧ (∀ p ∈ x.2.1, p.word.length ≤ x.1) ∧ (x.1 = 0 → x.2.2 = 0) ∧ ∀ y, 0 < x.1 → ws[x.1 - 1]? = some y → x.2.2 = partOf c.parts y }) (fun x => ⟨[(1, .int .i64 c.kind, pInt c.kind), (4, padd (sbase h4) 0, .val (padd (sbase h4) 0)), (7, padd (sbase h7) 0, .val (padd (sbase h7) 0)), (15, h129, .val h129), (130, v130, pStrs ws), (131, .int .i64 ws.length, pInt ws.length), (132, .int .i64 x.1.1, pInt x.1.1)], [(4, h4, .own 36 1 1 [pStrs ws]), (7, h7, .own 74 1 1 [.smap (skv es)]), (129, h129, .own 129 2 c.parts.length ((noPart x.1.2.1).flatMap (oPiece 9)))]⟩) (fun x => ws.length - x.1.1) ⟨(0, initPs c.parts.length, 0), by show 0 ≤ ws.length; omega, by simp, inPlace_init _, initPs_len _, fun p hp => by rw [initPs_word hp]; simp, fun _ => rfl, fun y h => by simp at h⟩ (fun a w H => H.weaken ⟨rfl, rfl, rfl, rfl, rfl, rfl, rfl, trivial⟩ ⟨rfl, rfl, rfl, trivial⟩) ?_
      rintro ⟨⟨k, ps, last⟩, hk0, hgo, hin', hpl, hpw, hl0, hl1⟩
      dsimp only at hk0 hgo hin' hpl hpw hl0 hl1 ⊢
      refine nav ?_
      (refine aC_region ?_
        <;> refine xL 133 q_lss ?_
        <;> refine aL_end (nav ?_) <;> try dsimp only)
      refine aC_cond rfl ?_ ?_
      · intro hb3
        have hlt : k < ws.length := by have := of_decide_eq_true hb3; omega
        obtain ⟨s, hs⟩ := get_some hlt
        have hsm := List.mem_of_getElem? hs
        have e1 := map_at (f := pStr) hs
        have m1 := mg_part (hes s hsm)
        have hge0 := hin s hsm
        obtain ⟨i, hi⟩ : ∃ i : Nat, partOf c.parts s = i := ⟨(partOf c.parts s).toNat, by omega⟩
        have hilt : i < c.parts.length := by have := partOf_lt c.parts s; omega
        have hprev : 0 < k → ∃ y, ws[k - 1]? = some y ∧ (ws.map pStr)[k - 1]? = some (pStr y) ∧ (mget (skv es) (.string y)).getD (.int .i64 0) = .int .i64 (partOf c.parts y) := fun h0 => by
          obtain ⟨y, hy⟩ := get_some (show k - 1 < ws.length by omega)
          exact ⟨y, hy, by rw [List.getElem?_map, hy]; rfl, mg_part (hes y (List.mem_of_getElem? hy))⟩
        have hgo2 : splitGo c.kind c.parts (decide (k = 0)) last ps (ws.drop k) = if badAt c.kind (decide (k = 0)) (partOf c.parts s) last then none else splitGo c.kind c.parts false (partOf c.parts s) (addAt ps (partOf c.parts s).toNat s) (ws.drop (k + 1)) := by
          rw [drop_at hs, splitGo]
        have hk1n : (c.kind == 1) = false := by simpa using hk
        rw [hi] at m1
        obtain ⟨q, hq⟩ := get_some (show i < ps.length by omega)
        have hqn := noPart_at hq
        have hcell := flat_at (oPiece_len 9) hqn (j := 1) (by decide)
        have hfl := flat_len (oPiece_len 9) (noPart ps)
        rw [noPart_len] at hfl
        have hqw : q.word.length ≤ k := hpw q (List.mem_of_getElem? hq)
        refine nav ?_
        (refine aC_region ?_
          <;> refine xL 134 q_move ?_
          <;> refine xL 135 (q_idxN tSl36_EwD) ?_
          <;> (refine yL 136 (q_ld tNa9_EwD) fun v136 hv136 => ?_; cases hv136)
          <;> refine xL 16 q_assign ?_
          <;> refine xL 17 q_assign ?_
          <;> refine aL_end (nav ?_) <;> try dsimp only)
        (refine aC_draw (fun i => ([] : List Nat).elem i) [4, 7, 129] (by kernel_rfl) ?_
          <;> refine xE 0 137 rfl q_move ?_
          <;> refine xE 1 138 rfl q_eql ?_
          <;> refine xE 2 139 rfl q_move ?_
          <;> (refine bDd 139 (fun hb139 => ?_) (fun hb139 => ?_) <;> (first | refine kD 3 140 rfl ?_ | refine xD 3 140 rfl q_move ?_))
          <;> (first | refine kD 4 141 rfl ?_ | refine xD 4 141 rfl q_gtr ?_)
          <;> refine xE 5 142 rfl q_pick ?_
          <;> refine xE 6 143 rfl q_move ?_
          <;> (first | refine kD 7 144 rfl ?_ | (refine bDd 143 (fun hb143 => ?_) (fun hb143 => ?_) <;> (first | refine kD 7 144 rfl ?_ | (refine yD 7 144 rfl (q_ldo 7 tNa74_EwD) fun v144 hv144 => ?_; cases hv144))))
          <;> (first | refine kD 8 145 rfl ?_ | refine xD 8 145 rfl q_move ?_)
          <;> (first | refine kD 9 146 rfl ?_ | refine xD 9 146 rfl (q_lookE tMp74_EwD) ?_)
          <;> (first | refine kD 10 147 rfl ?_ | (refine yD 10 147 rfl (q_ldo 7 tNa74_EwD) fun v147 hv147 => ?_; cases hv147))
          <;> (first | refine kD 11 148 rfl ?_ | (refine yD 11 148 rfl (q_ldo 4 tNa36_EwD) fun v148 hv148 => ?_; cases hv148))
          <;> (first | refine kD 12 149 rfl ?_ | refine xD 12 149 rfl q_move ?_)
          <;> (first | refine kD 13 150 rfl ?_ | refine xD 13 150 rfl q_sub ?_)
          <;> (first | refine kD 14 151 rfl ?_ | refine xD 14 151 rfl (q_idx tSl36_EwD) ?_)
          <;> (first | refine kD 15 152 rfl ?_ | (refine (hprev (by omega)).elim fun y hy => ?_; refine aD_y 15 152 rfl (by kernel_rfl) rfl rfl (Nat.le_of_ble_eq_true rfl) (y_ld_shrI (k - 1) tNa9_EwD rfl rfl (by omega) hy.2.1) ?_; intro v152 hv152; cases hv152; have m2 := hy.2.2))
          <;> (first | refine kD 16 153 rfl ?_ | refine xD 16 153 rfl (q_lookE tMp74_EwD) ?_)
          <;> (first | refine kD 17 154 rfl ?_ | refine xD 17 154 rfl q_lss ?_)
          <;> refine xE 18 155 rfl q_pick ?_
          <;> refine aD_end (by kernel_rfl) (nav ?_)
          <;> try dsimp only)
        · -- a sequence, not at its first name
          have hlast : last = partOf c.parts y := hl1 y (by omega) hy.1
          refine aC_cond rfl ?_ ?_
          · intro hb4
            have hb4 := of_decide_eq_true hb4
            have hno : splitOf c ws = none := by
              unfold splitOf
              rw [if_neg hk', hgo, hgo2]
              have : badAt c.kind (decide (k = 0)) (partOf c.parts s) last = true := by
                unfold badAt; rw [hi, hlast, hb139]; simp [hb4]
              rw [this]; rfl
            refine nav ?_
            (refine aC_region ?_
              <;> refine xL 8 q_assign ?_
              <;> refine xL 9 q_assign ?_
              <;> refine aL_end (nav ?_) <;> try dsimp only)
            refine ret_ss (Tryz.results90) rfl rfl ?_
            rw [hno]; rfl
          · intro hb4
            have hb4 := of_decide_eq_false hb4
            have hnb : badAt c.kind (decide (k = 0)) (partOf c.parts s) last = false := by
              unfold badAt; rw [hk1n, hi, hlast]; simp; intro _; omega
            refine nav ?_
            refine aC_ent (focusO (l := 129) (l' := 500) (j := i * 2 + 1) rfl hcell rfl rfl) fun v => ?_
            obtain ⟨v, hv1⟩ := v
            dsimp only
            have hc2 : (((noPart ps).flatMap (oPiece 9)).set (i * 2 + 1) (.val v))[i * 2 + 1]? = some (.val v) := List.getElem?_set_self (by omega)
            (refine aC_draw (fun i => ([16] : List Nat).elem i) [4, 7, 129] (by kernel_rfl) ?_
              <;> refine xD 0 156 rfl q_move ?_
              <;> (refine yD 1 157 rfl (q_ldo 7 tNa74_EwD) fun v157 hv157 => ?_; cases hv157)
              <;> refine xD 2 158 rfl q_move ?_
              <;> refine xD 3 159 rfl (q_lookE tMp74_EwD) ?_
              <;> refine xD 4 160 rfl q_move ?_
              <;> (refine yD 5 161 rfl (q_ldo 7 tNa74_EwD) fun v161 hv161 => ?_; cases hv161)
              <;> refine xD 6 162 rfl q_move ?_
              <;> refine xD 7 163 rfl (q_lookE tMp74_EwD) ?_
              <;> refine xD 8 164 rfl (q_idxoN 129 tSl125_EwD) ?_
              <;> refine xD 9 165 rfl (q_fldo 129 tFl129_1_EwD) ?_
              <;> (refine aD_y 10 166 rfl (by kernel_rfl) rfl rfl (Nat.le_of_ble_eq_true rfl) (y_ld_ownI 129 (i * 2 + 1) tNa36_EwD rfl rfl rfl (by first | rfl | omega) hc2 rfl) ?_; intro v166 hv166; cases hv166)
              <;> refine xE 11 167 rfl q_move ?_
              <;> (refine aD_one 12 (by kernel_rfl) ?_)
              <;> (refine aW_run rfl fun w9 M9 N9 DQ back => ?_)
              <;> refine s_lit1 (kk := 1) 168 tEl36_EwD fun h168 ho168 => ?_
              <;> refine aL_end (back _ (nrm ?_))
              <;> (refine aD_one 13 (by kernel_rfl) ?_)
              <;> (refine aW_run rfl fun w9 M9 N9 DQ back => ?_)
              <;> refine s_app 500 168 169 tEl36_EwD fun h169 ho169 => ?_
              <;> refine aL_end (back _ (nrm ?_))
              <;> refine xE 14 170 rfl (q_idxoN 129 tSl125_EwD) ?_
              <;> refine xE 15 171 rfl (q_fldo 129 tFl129_1_EwD) ?_
              <;> (refine aD_one 16 (by kernel_rfl) ?_)
              <;> (refine aW_last rfl rfl (by kernel_rfl) fun DQ back => ?_)
              <;> (refine aL_st1I 129 (i * 2 + 1) rfl rfl tNa36_EwD tSz36_EwD rfl rfl rfl (by assumption) rfl (by first | rfl | omega) (by rw [List.length_set, hfl]; omega) ?_)
              <;> refine aL_end (back _ (nav ?_))
              <;> try dsimp only)
            have hc3 : ((((noPart ps).flatMap (oPiece 9)).set (i * 2 + 1) (.val v)).set (i * 2 + 1) (.val h169))[i * 2 + 1]? = some (.val h169) := List.getElem?_set_self (by rw [List.length_set]; omega)
            refine aC_ent (fold (l := 129) (l' := 169) (j := i * 2 + 1) rfl hc3 rfl rfl) fun _ => ?_
            have hcs : ((((noPart ps).flatMap (oPiece 9)).set (i * 2 + 1) (.val v)).set (i * 2 + 1) (.val h169)).set (i * 2 + 1) (.own 9 1 (q.word.length + 1) (q.word.map pStr ++ [pStr s])) = (noPart (addAt ps i s)).flatMap (oPiece 9) := by
              rw [List.set_set, List.set_set, flat_set (oPiece_len 9) (noPart ps) i 1 ⟨0, q.word⟩ ⟨0, q.word ++ [s]⟩ _ hqn (by decide) (by simp [oPiece]), noPart_add s hq]
            (refine aC_region ?_
              <;> refine xL 172 q_add ?_
              <;> refine xL 132 q_move ?_
              <;> refine aL_end (nav ?_) <;> try dsimp only)
            refine aN_again ⟨(k + 1, addAt ps i s, (i : Int)), by show k + 1 ≤ ws.length; omega, ?_, hin'.add i s, by show (addAt ps i s).length = _; rw [addAt_len]; exact hpl, ?_, fun h => by simp at h, fun y _ hy => ?_⟩ (by show ws.length - (k + 1) < ws.length - k; omega) ⟨rfl, rfl, rfl, rfl, rfl, rfl, rfl, trivial⟩ ⟨rfl, rfl, by show some _ = some _; rw [hcs], trivial⟩
            · show _ = splitGo c.kind c.parts (decide (k + 1 = 0)) (i : Int) (addAt ps i s) (ws.drop (k + 1))
              rw [hgo, hgo2, hnb, hi, Int.toNat_natCast, show decide (k + 1 = 0) = false by simp]
              rfl
            · intro p hp
              show p.word.length ≤ k + 1
              change p ∈ addAt ps i s at hp
              rw [addAt_some hq] at hp
              rcases List.mem_or_eq_of_mem_set hp with h1 | h1
              · have := hpw p h1; omega
              · rw [h1]; simp; omega
            · have : y = s := by
                have h1 : ws[k + 1 - 1]? = some y := hy
                rw [Nat.add_sub_cancel, hs] at h1; cases h1; rfl
              rw [this]; exact hi.symm
        · have hnb : badAt c.kind (decide (k = 0)) (partOf c.parts s) last = false := by
            unfold badAt; rw [hk1n, hi, hl0 (by omega)]; simp
          refine aC_cond rfl (fun h => by cases h) ?_
          intro _
          refine nav ?_
          refine aC_ent (focusO (l := 129) (l' := 500) (j := i * 2 + 1) rfl hcell rfl rfl) fun v => ?_
          obtain ⟨v, hv1⟩ := v
          dsimp only
          have hc2 : (((noPart ps).flatMap (oPiece 9)).set (i * 2 + 1) (.val v))[i * 2 + 1]? = some (.val v) := List.getElem?_set_self (by omega)
          (refine aC_draw (fun i => ([16] : List Nat).elem i) [4, 7, 129] (by kernel_rfl) ?_
            <;> refine xD 0 156 rfl q_move ?_
            <;> (refine yD 1 157 rfl (q_ldo 7 tNa74_EwD) fun v157 hv157 => ?_; cases hv157)
            <;> refine xD 2 158 rfl q_move ?_
            <;> refine xD 3 159 rfl (q_lookE tMp74_EwD) ?_
            <;> refine xD 4 160 rfl q_move ?_
            <;> (refine yD 5 161 rfl (q_ldo 7 tNa74_EwD) fun v161 hv161 => ?_; cases hv161)
            <;> refine xD 6 162 rfl q_move ?_
            <;> refine xD 7 163 rfl (q_lookE tMp74_EwD) ?_
            <;> refine xD 8 164 rfl (q_idxoN 129 tSl125_EwD) ?_
            <;> refine xD 9 165 rfl (q_fldo 129 tFl129_1_EwD) ?_
            <;> (refine aD_y 10 166 rfl (by kernel_rfl) rfl rfl (Nat.le_of_ble_eq_true rfl) (y_ld_ownI 129 (i * 2 + 1) tNa36_EwD rfl rfl rfl (by first | rfl | omega) hc2 rfl) ?_; intro v166 hv166; cases hv166)
            <;> refine xE 11 167 rfl q_move ?_
            <;> (refine aD_one 12 (by kernel_rfl) ?_)
            <;> (refine aW_run rfl fun w9 M9 N9 DQ back => ?_)
            <;> refine s_lit1 (kk := 1) 168 tEl36_EwD fun h168 ho168 => ?_
            <;> refine aL_end (back _ (nrm ?_))
            <;> (refine aD_one 13 (by kernel_rfl) ?_)
            <;> (refine aW_run rfl fun w9 M9 N9 DQ back => ?_)
            <;> refine s_app 500 168 169 tEl36_EwD fun h169 ho169 => ?_
            <;> refine aL_end (back _ (nrm ?_))
            <;> refine xE 14 170 rfl (q_idxoN 129 tSl125_EwD) ?_
            <;> refine xE 15 171 rfl (q_fldo 129 tFl129_1_EwD) ?_
            <;> (refine aD_one 16 (by kernel_rfl) ?_)
            <;> (refine aW_last rfl rfl (by kernel_rfl) fun DQ back => ?_)
            <;> (refine aL_st1I 129 (i * 2 + 1) rfl rfl tNa36_EwD tSz36_EwD rfl rfl rfl (by assumption) rfl (by first | rfl | omega) (by rw [List.length_set, hfl]; omega) ?_)
            <;> refine aL_end (back _ (nav ?_))
            <;> try dsimp only)
          have hc3 : ((((noPart ps).flatMap (oPiece 9)).set (i * 2 + 1) (.val v)).set (i * 2 + 1) (.val h169))[i * 2 + 1]? = some (.val h169) := List.getElem?_set_self (by rw [List.length_set]; omega)
          refine aC_ent (fold (l := 129) (l' := 169) (j := i * 2 + 1) rfl hc3 rfl rfl) fun _ => ?_
          have hcs : ((((noPart ps).flatMap (oPiece 9)).set (i * 2 + 1) (.val v)).set (i * 2 + 1) (.val h169)).set (i * 2 + 1) (.own 9 1 (q.word.length + 1) (q.word.map pStr ++ [pStr s])) = (noPart (addAt ps i s)).flatMap (oPiece 9) := by
            rw [List.set_set, List.set_set, flat_set (oPiece_len 9) (noPart ps) i 1 ⟨0, q.word⟩ ⟨0, q.word ++ [s]⟩ _ hqn (by decide) (by simp [oPiece]), noPart_add s hq]
          (refine aC_region ?_
            <;> refine xL 172 q_add ?_
            <;> refine xL 132 q_move ?_
            <;> refine aL_end (nav ?_) <;> try dsimp only)
          refine aN_again ⟨(k + 1, addAt ps i s, (i : Int)), by show k + 1 ≤ ws.length; omega, ?_, hin'.add i s, by show (addAt ps i s).length = _; rw [addAt_len]; exact hpl, ?_, fun h => by simp at h, fun y _ hy => ?_⟩ (by show ws.length - (k + 1) < ws.length - k; omega) ⟨rfl, rfl, rfl, rfl, rfl, rfl, rfl, trivial⟩ ⟨rfl, rfl, by show some _ = some _; rw [hcs], trivial⟩
          · show _ = splitGo c.kind c.parts (decide (k + 1 = 0)) (i : Int) (addAt ps i s) (ws.drop (k + 1))
            rw [hgo, hgo2, hnb, hi, Int.toNat_natCast, show decide (k + 1 = 0) = false by simp]
            rfl
          · intro p hp
            show p.word.length ≤ k + 1
            change p ∈ addAt ps i s at hp
            rw [addAt_some hq] at hp
            rcases List.mem_or_eq_of_mem_set hp with h1 | h1
            · have := hpw p h1; omega
            · rw [h1]; simp; omega
          · have : y = s := by
              have h1 : ws[k + 1 - 1]? = some y := hy
              rw [Nat.add_sub_cancel, hs] at h1; cases h1; rfl
            rw [this]; exact hi.symm
        · have hnb : badAt c.kind (decide (k = 0)) (partOf c.parts s) last = false := by
            unfold badAt; rw [hk1n]; simp [hb139]
          refine aC_cond rfl (fun h => by cases h) ?_
          intro _
          refine nav ?_
          refine aC_ent (focusO (l := 129) (l' := 500) (j := i * 2 + 1) rfl hcell rfl rfl) fun v => ?_
          obtain ⟨v, hv1⟩ := v
          dsimp only
          have hc2 : (((noPart ps).flatMap (oPiece 9)).set (i * 2 + 1) (.val v))[i * 2 + 1]? = some (.val v) := List.getElem?_set_self (by omega)
          (refine aC_draw (fun i => ([16] : List Nat).elem i) [4, 7, 129] (by kernel_rfl) ?_
            <;> refine xD 0 156 rfl q_move ?_
            <;> (refine yD 1 157 rfl (q_ldo 7 tNa74_EwD) fun v157 hv157 => ?_; cases hv157)
            <;> refine xD 2 158 rfl q_move ?_
            <;> refine xD 3 159 rfl (q_lookE tMp74_EwD) ?_
            <;> refine xD 4 160 rfl q_move ?_
            <;> (refine yD 5 161 rfl (q_ldo 7 tNa74_EwD) fun v161 hv161 => ?_; cases hv161)
            <;> refine xD 6 162 rfl q_move ?_
            <;> refine xD 7 163 rfl (q_lookE tMp74_EwD) ?_
            <;> refine xD 8 164 rfl (q_idxoN 129 tSl125_EwD) ?_
            <;> refine xD 9 165 rfl (q_fldo 129 tFl129_1_EwD) ?_
            <;> (refine aD_y 10 166 rfl (by kernel_rfl) rfl rfl (Nat.le_of_ble_eq_true rfl) (y_ld_ownI 129 (i * 2 + 1) tNa36_EwD rfl rfl rfl (by first | rfl | omega) hc2 rfl) ?_; intro v166 hv166; cases hv166)
            <;> refine xE 11 167 rfl q_move ?_
            <;> (refine aD_one 12 (by kernel_rfl) ?_)
            <;> (refine aW_run rfl fun w9 M9 N9 DQ back => ?_)
            <;> refine s_lit1 (kk := 1) 168 tEl36_EwD fun h168 ho168 => ?_
            <;> refine aL_end (back _ (nrm ?_))
            <;> (refine aD_one 13 (by kernel_rfl) ?_)
            <;> (refine aW_run rfl fun w9 M9 N9 DQ back => ?_)
            <;> refine s_app 500 168 169 tEl36_EwD fun h169 ho169 => ?_
            <;> refine aL_end (back _ (nrm ?_))
            <;> refine xE 14 170 rfl (q_idxoN 129 tSl125_EwD) ?_
            <;> refine xE 15 171 rfl (q_fldo 129 tFl129_1_EwD) ?_
            <;> (refine aD_one 16 (by kernel_rfl) ?_)
            <;> (refine aW_last rfl rfl (by kernel_rfl) fun DQ back => ?_)
            <;> (refine aL_st1I 129 (i * 2 + 1) rfl rfl tNa36_EwD tSz36_EwD rfl rfl rfl (by assumption) rfl (by first | rfl | omega) (by rw [List.length_set, hfl]; omega) ?_)
            <;> refine aL_end (back _ (nav ?_))
            <;> try dsimp only)
          have hc3 : ((((noPart ps).flatMap (oPiece 9)).set (i * 2 + 1) (.val v)).set (i * 2 + 1) (.val h169))[i * 2 + 1]? = some (.val h169) := List.getElem?_set_self (by rw [List.length_set]; omega)
          refine aC_ent (fold (l := 129) (l' := 169) (j := i * 2 + 1) rfl hc3 rfl rfl) fun _ => ?_
          have hcs : ((((noPart ps).flatMap (oPiece 9)).set (i * 2 + 1) (.val v)).set (i * 2 + 1) (.val h169)).set (i * 2 + 1) (.own 9 1 (q.word.length + 1) (q.word.map pStr ++ [pStr s])) = (noPart (addAt ps i s)).flatMap (oPiece 9) := by
            rw [List.set_set, List.set_set, flat_set (oPiece_len 9) (noPart ps) i 1 ⟨0, q.word⟩ ⟨0, q.word ++ [s]⟩ _ hqn (by decide) (by simp [oPiece]), noPart_add s hq]
          (refine aC_region ?_
            <;> refine xL 172 q_add ?_
            <;> refine xL 132 q_move ?_
            <;> refine aL_end (nav ?_) <;> try dsimp only)
          refine aN_again ⟨(k + 1, addAt ps i s, (i : Int)), by show k + 1 ≤ ws.length; omega, ?_, hin'.add i s, by show (addAt ps i s).length = _; rw [addAt_len]; exact hpl, ?_, fun h => by simp at h, fun y _ hy => ?_⟩ (by show ws.length - (k + 1) < ws.length - k; omega) ⟨rfl, rfl, rfl, rfl, rfl, rfl, rfl, trivial⟩ ⟨rfl, rfl, by show some _ = some _; rw [hcs], trivial⟩
          · show _ = splitGo c.kind c.parts (decide (k + 1 = 0)) (i : Int) (addAt ps i s) (ws.drop (k + 1))
            rw [hgo, hgo2, hnb, hi, Int.toNat_natCast, show decide (k + 1 = 0) = false by simp]
            rfl
          · intro p hp
            show p.word.length ≤ k + 1
            change p ∈ addAt ps i s at hp
            rw [addAt_some hq] at hp
            rcases List.mem_or_eq_of_mem_set hp with h1 | h1
            · have := hpw p h1; omega
            · rw [h1]; simp; omega
          · have : y = s := by
              have h1 : ws[k + 1 - 1]? = some y := hy
              rw [Nat.add_sub_cancel, hs] at h1; cases h1; rfl
            rw [this]; exact hi.symm
      · intro hb3
        have hge : ws.length ≤ k := by have := of_decide_eq_false hb3; omega
        have hfin : splitOf c ws = some ps := by
          unfold splitOf
          rw [if_neg hk', hgo, List.drop_eq_nil_of_le hge, splitGo]
          simp only []
          rw [if_neg hk]
        refine nav ?_
        (refine aC_region ?_
          <;> refine xL 173 q_move ?_
          <;> refine xL 174 (q_leno 129 tSl125_EwD) ?_
          <;> refine xL 175 q_move ?_
          <;> refine aL_end (nav ?_) <;> try dsimp only)
        refine aC_loop (ι := { j : Nat // j ≤ ps.length }) (fun j => ⟨[(15, h129, .val h129), (174, .int .i64 c.parts.length, pInt c.parts.length), (175, .int .i64 j.1, pInt j.1)], [(129, h129, .own 129 2 c.parts.length ((ps.take j.1 ++ (noPart ps).drop j.1).flatMap (oPiece 9)))]⟩) (fun j => ps.length - j.1) ⟨0, by omega⟩ (fun a w H => H.weaken ⟨rfl, rfl, rfl, trivial⟩ ⟨rfl, trivial⟩) ?_
        rintro ⟨j, hj⟩
        dsimp only at hj ⊢
        refine nav ?_
        (refine aC_region ?_
          <;> refine xL 176 q_lss ?_
          <;> refine aL_end (nav ?_) <;> try dsimp only)
        refine aC_cond rfl ?_ ?_
        · intro hb4
          have hltj : j < ps.length := by have := of_decide_eq_true hb4; omega
          obtain ⟨q, hq⟩ := get_some hltj
          have hat := told_at hq
          have hfl := flat_len (oPiece_len 9) (ps.take j ++ (noPart ps).drop j)
          rw [told_len ps j hj] at hfl
          have hcs : (((ps.take j ++ (noPart ps).drop j).flatMap (oPiece 9)).set (j * 2 + 0) (pInt (j : Int))) = (ps.take (j + 1) ++ (noPart ps).drop (j + 1)).flatMap (oPiece 9) := by
            rw [flat_set (oPiece_len 9) _ j 0 ⟨0, q.word⟩ ⟨(j : Int), q.word⟩ (pInt (j : Int)) hat (by decide) rfl, told_step hin' hq]
          refine nav ?_
          (refine aC_region ?_
            <;> refine xL 177 q_move ?_
            <;> refine xL 18 q_assign ?_
            <;> refine aL_end (nav ?_) <;> try dsimp only)
          (refine aC_region ?_
            <;> refine xL 178 q_move ?_
            <;> refine xL 179 q_move ?_
            <;> refine xL 180 q_move ?_
            <;> refine xL 181 (q_idxoN 129 tSl125_EwD) ?_
            <;> refine xL 182 (q_fldo 129 tFl129_0_EwD) ?_
            <;> (refine aL_st1I 129 (j * 2 + 0) rfl rfl tNa3_EwD tSz3_EwD rfl rfl rfl rfl rfl (by first | rfl | omega) (by rw [hfl]; omega) ?_)
            <;> refine aL_end (nav ?_) <;> try dsimp only)
          (refine aC_region ?_
            <;> refine xL 183 q_add ?_
            <;> refine xL 175 q_move ?_
            <;> refine aL_end (nav ?_) <;> try dsimp only)
          exact aN_again ⟨j + 1, by omega⟩ (by show ps.length - (j + 1) < ps.length - j; omega) ⟨rfl, rfl, rfl, trivial⟩ ⟨by show some _ = some _; rw [hcs], trivial⟩
        · intro hb4
          have hgej : ps.length ≤ j := by have := of_decide_eq_false hb4; omega
          have hall : ps.take j ++ (noPart ps).drop j = ps := by
            rw [List.take_of_length_le hgej, List.drop_eq_nil_of_le (by rw [noPart_len]; exact hgej), List.append_nil]
          refine nav ?_
          (refine aC_region ?_
            <;> refine xL 184 q_move ?_
            <;> refine xL 8 q_assign ?_
            <;> refine xL 9 q_assign ?_
            <;> refine aL_end (nav ?_) <;> try dsimp only)
          refine aR_ent (En.freeze (l := 129) (t := 8) rfl rfl) fun _ => ?_
          refine ret_ss (Tryz.results90) rfl rfl ?_
          rw [hfin, hall]
          show _ = _
          simp only [share, shares_pieces, ← hpl]
          rfl
end Go.Proofs.YtoanjgpdepaciaaGreat
