/-
  Walks by the engine: casebookref02.Index.
  Walks by the engine: slices.IndexFunc, slices.ContainsFunc; contracts of other texts turned.
  Walks by the engine: cut.parts.
  Plain functions: a word is cut into runs of one part, as the program does it for a loop. No program in sight.
-/
import Derived.Test.YtoanjgpdepaciaaProg
import Derived.Test.YtoanjgpdepaciaaEng
import Derived.Test.YtoanjgpdepaciaaWalkOne
import Derived.Test.YtoanjgpdepaciaaPlain
namespace Go.Proofs.Ytoanjgpdepaciaa
open Go.RowKit Go.Cb Go.En
set_option linter.all false
set_option maxRecDepth 100000

theorem tNa9_EwA : NoAgg Try.prog 9 = true := by kernel_rfl
theorem tSl38_EwA : SlT Try.prog 38 9 1 = true := by kernel_rfl

theorem rIndex_e (l : List ByteArray) (s : ByteArray) : AF Try.prog 49 [pStrs l, pStr s] (· = pInt (idx (fun x => strEq x s) l)) := by
  refine AF.of_body 19 Try.func49 rfl Try.ntmps49 (Nat.le_of_ble_eq_true rfl) ?_
  intro w0 M0 vs hl hv
  obtain ⟨v0, v1, rfl⟩ := len2 hl
  obtain rfl := hv 1 _ _ rfl rfl
  clear hl hv
  refine aC_slen 0 rfl fun hlen => ?_
  (repeat (first | with_reducible refine aC_seq ?_ | with_reducible refine aC_block ?_ | with_reducible refine aN_then ?_ | with_reducible refine aN_block ?_ | with_reducible refine aC_skip ?_ | with_reducible refine aC_exit ?_ | with_reducible refine aX_then ?_ | with_reducible refine aX_block ?_ | with_reducible refine aX_other rfl ?_ | with_reducible refine aC_ret ?_ | with_reducible refine aR_then ?_ | with_reducible refine aR_block ?_))
  (refine aC_region ?_
    <;> refine aL_x 4 rfl rfl (Nat.le_of_ble_eq_true rfl) (y_assign rfl rfl) ?_
    <;> refine aL_end ?_
    <;> (repeat (first | with_reducible refine aC_seq ?_ | with_reducible refine aC_block ?_ | with_reducible refine aN_then ?_ | with_reducible refine aN_block ?_ | with_reducible refine aC_skip ?_ | with_reducible refine aC_exit ?_ | with_reducible refine aX_then ?_ | with_reducible refine aX_block ?_ | with_reducible refine aX_other rfl ?_ | with_reducible refine aC_ret ?_ | with_reducible refine aR_then ?_ | with_reducible refine aR_block ?_)) <;> (try dsimp only))
  (refine aC_region ?_
    <;> refine aL_x 5 rfl rfl (Nat.le_of_ble_eq_true rfl) (y_assign rfl rfl) ?_
    <;> refine aL_end ?_
    <;> (repeat (first | with_reducible refine aC_seq ?_ | with_reducible refine aC_block ?_ | with_reducible refine aN_then ?_ | with_reducible refine aN_block ?_ | with_reducible refine aC_skip ?_ | with_reducible refine aC_exit ?_ | with_reducible refine aX_then ?_ | with_reducible refine aX_block ?_ | with_reducible refine aX_other rfl ?_ | with_reducible refine aC_ret ?_ | with_reducible refine aR_then ?_ | with_reducible refine aR_block ?_)) <;> (try dsimp only))
  refine aC_loop (ι := { k : Nat // k ≤ l.length ∧ ∀ i y, i < k → l[i]? = some y → strEq y s = false }) (fun k => ⟨[(0, v0, pStrs l), (1, .string s, pStr s), (5, .int .i64 k.1, pInt k.1)], []⟩) (fun k => l.length - k.1) ⟨0, by omega, by omega⟩ (fun a w H => H.weaken ⟨rfl, rfl, rfl, trivial⟩ trivial) ?_
  rintro ⟨k, hk, hp⟩
  dsimp only
  (repeat (first | with_reducible refine aC_seq ?_ | with_reducible refine aC_block ?_ | with_reducible refine aN_then ?_ | with_reducible refine aN_block ?_ | with_reducible refine aC_skip ?_ | with_reducible refine aC_exit ?_ | with_reducible refine aX_then ?_ | with_reducible refine aX_block ?_ | with_reducible refine aX_other rfl ?_ | with_reducible refine aC_ret ?_ | with_reducible refine aR_then ?_ | with_reducible refine aR_block ?_))
  (refine aC_region ?_
    <;> refine aL_x 6 rfl rfl (Nat.le_of_ble_eq_true rfl) (y_move rfl rfl) ?_
    <;> refine aL_x 7 rfl rfl (Nat.le_of_ble_eq_true rfl) (y_move rfl rfl) ?_
    <;> refine aL_x 8 rfl rfl (Nat.le_of_ble_eq_true rfl) (y_len_shr tSl38_EwA rfl rfl) ?_
    <;> refine aL_x 9 rfl rfl (Nat.le_of_ble_eq_true rfl) (y_lss rfl rfl rfl) ?_
    <;> refine aL_end ?_
    <;> (repeat (first | with_reducible refine aC_seq ?_ | with_reducible refine aC_block ?_ | with_reducible refine aN_then ?_ | with_reducible refine aN_block ?_ | with_reducible refine aC_skip ?_ | with_reducible refine aC_exit ?_ | with_reducible refine aX_then ?_ | with_reducible refine aX_block ?_ | with_reducible refine aX_other rfl ?_ | with_reducible refine aC_ret ?_ | with_reducible refine aR_then ?_ | with_reducible refine aR_block ?_)) <;> (try dsimp only))
  refine aC_cond rfl ?_ ?_
  · intro hb
    have hlt : k < l.length := by have := of_decide_eq_true hb; omega
    obtain ⟨x, hx⟩ := get_some hlt
    have e1 := map_at (f := pStr) hx
    (repeat (first | with_reducible refine aC_seq ?_ | with_reducible refine aC_block ?_ | with_reducible refine aN_then ?_ | with_reducible refine aN_block ?_ | with_reducible refine aC_skip ?_ | with_reducible refine aC_exit ?_ | with_reducible refine aX_then ?_ | with_reducible refine aX_block ?_ | with_reducible refine aX_other rfl ?_ | with_reducible refine aC_ret ?_ | with_reducible refine aR_then ?_ | with_reducible refine aR_block ?_))
    (refine aC_region ?_
      <;> refine aL_x 12 rfl rfl (Nat.le_of_ble_eq_true rfl) (y_move rfl rfl) ?_
      <;> refine aL_x 13 rfl rfl (Nat.le_of_ble_eq_true rfl) (y_move rfl rfl) ?_
      <;> (first | refine aL_x 14 rfl rfl (Nat.le_of_ble_eq_true rfl) (y_idx_shrN tSl38_EwA rfl rfl rfl (by first | omega | (try simp only [List.length_cons, List.length_nil, List.length_map, List.length_set, List.length_append, List.length_replicate, List.length_singleton, List.flatMap_cons, List.flatMap_nil]; omega))) ?_ | refine aL_x 14 rfl rfl (Nat.le_of_ble_eq_true rfl) (y_idx_shr tSl38_EwA rfl rfl rfl (by first | omega | (try simp only [List.length_cons, List.length_nil, List.length_map, List.length_set, List.length_append, List.length_replicate, List.length_singleton, List.flatMap_cons, List.flatMap_nil]; omega)) (by first | omega | (try simp only [List.length_cons, List.length_nil, List.length_map, List.length_set, List.length_append, List.length_replicate, List.length_singleton, List.flatMap_cons, List.flatMap_nil]; omega))) ?_)
      <;> (first | (refine aL_y 15 rfl rfl (Nat.le_of_ble_eq_true rfl) (y_ld_shr tNa9_EwA rfl rfl rfl) ?_; intro v15 hv15; cases hv15) | (refine aL_y 15 rfl rfl (Nat.le_of_ble_eq_true rfl) (y_ld_shr tNa9_EwA rfl rfl (by assumption)) ?_; intro v15 hv15; cases hv15))
      <;> refine aL_x 16 rfl rfl (Nat.le_of_ble_eq_true rfl) (y_move rfl rfl) ?_
      <;> refine aL_x 17 rfl rfl (Nat.le_of_ble_eq_true rfl) (y_seql rfl rfl rfl) ?_
      <;> refine aL_end ?_
      <;> (repeat (first | with_reducible refine aC_seq ?_ | with_reducible refine aC_block ?_ | with_reducible refine aN_then ?_ | with_reducible refine aN_block ?_ | with_reducible refine aC_skip ?_ | with_reducible refine aC_exit ?_ | with_reducible refine aX_then ?_ | with_reducible refine aX_block ?_ | with_reducible refine aX_other rfl ?_ | with_reducible refine aC_ret ?_ | with_reducible refine aR_then ?_ | with_reducible refine aR_block ?_)) <;> (try dsimp only))
    refine aC_cond rfl ?_ ?_
    · intro hb2
      (repeat (first | with_reducible refine aC_seq ?_ | with_reducible refine aC_block ?_ | with_reducible refine aN_then ?_ | with_reducible refine aN_block ?_ | with_reducible refine aC_skip ?_ | with_reducible refine aC_exit ?_ | with_reducible refine aX_then ?_ | with_reducible refine aX_block ?_ | with_reducible refine aX_other rfl ?_ | with_reducible refine aC_ret ?_ | with_reducible refine aR_then ?_ | with_reducible refine aR_block ?_))
      (refine aC_region ?_
        <;> refine aL_x 18 rfl rfl (Nat.le_of_ble_eq_true rfl) (y_move rfl rfl) ?_
        <;> refine aL_x 4 rfl rfl (Nat.le_of_ble_eq_true rfl) (y_assign rfl rfl) ?_
        <;> refine aL_end ?_
        <;> (repeat (first | with_reducible refine aC_seq ?_ | with_reducible refine aC_block ?_ | with_reducible refine aN_then ?_ | with_reducible refine aN_block ?_ | with_reducible refine aC_skip ?_ | with_reducible refine aC_exit ?_ | with_reducible refine aX_then ?_ | with_reducible refine aX_block ?_ | with_reducible refine aX_other rfl ?_ | with_reducible refine aC_ret ?_ | with_reducible refine aR_then ?_ | with_reducible refine aR_block ?_)) <;> (try dsimp only))
      refine ret_shr (Try.results49) rfl ?_
      rw [idx_here hp hx hb2]
    · intro hb2
      (repeat (first | with_reducible refine aC_seq ?_ | with_reducible refine aC_block ?_ | with_reducible refine aN_then ?_ | with_reducible refine aN_block ?_ | with_reducible refine aC_skip ?_ | with_reducible refine aC_exit ?_ | with_reducible refine aX_then ?_ | with_reducible refine aX_block ?_ | with_reducible refine aX_other rfl ?_ | with_reducible refine aC_ret ?_ | with_reducible refine aR_then ?_ | with_reducible refine aR_block ?_))
      (refine aC_region ?_
        <;> refine aL_x 10 rfl rfl (Nat.le_of_ble_eq_true rfl) (y_move rfl rfl) ?_
        <;> refine aL_x 11 rfl rfl (Nat.le_of_ble_eq_true rfl) (y_add rfl rfl rfl (by first | omega | (try simp only [List.length_cons, List.length_nil, List.length_map, List.length_set, List.length_append, List.length_replicate, List.length_singleton, List.flatMap_cons, List.flatMap_nil]; omega)) (by first | omega | (try simp only [List.length_cons, List.length_nil, List.length_map, List.length_set, List.length_append, List.length_replicate, List.length_singleton, List.flatMap_cons, List.flatMap_nil]; omega))) ?_
        <;> refine aL_x 5 rfl rfl (Nat.le_of_ble_eq_true rfl) (y_assign rfl rfl) ?_
        <;> refine aL_end ?_
        <;> (repeat (first | with_reducible refine aC_seq ?_ | with_reducible refine aC_block ?_ | with_reducible refine aN_then ?_ | with_reducible refine aN_block ?_ | with_reducible refine aC_skip ?_ | with_reducible refine aC_exit ?_ | with_reducible refine aX_then ?_ | with_reducible refine aX_block ?_ | with_reducible refine aX_other rfl ?_ | with_reducible refine aC_ret ?_ | with_reducible refine aR_then ?_ | with_reducible refine aR_block ?_)) <;> (try dsimp only))
      refine aN_again ⟨k + 1, by omega, fun i y hi hy => ?_⟩ (by show l.length - (k + 1) < l.length - k; omega) ⟨rfl, rfl, rfl, trivial⟩ trivial
      by_cases e : i = k
      · subst e; rw [hx] at hy; cases hy; exact hb2
      · exact hp i y (by omega) hy
  · intro hb
    have hge : l.length ≤ k := by have := of_decide_eq_false hb; omega
    (repeat (first | with_reducible refine aC_seq ?_ | with_reducible refine aC_block ?_ | with_reducible refine aN_then ?_ | with_reducible refine aN_block ?_ | with_reducible refine aC_skip ?_ | with_reducible refine aC_exit ?_ | with_reducible refine aX_then ?_ | with_reducible refine aX_block ?_ | with_reducible refine aX_other rfl ?_ | with_reducible refine aC_ret ?_ | with_reducible refine aR_then ?_ | with_reducible refine aR_block ?_))
    (refine aC_region ?_
      <;> refine aL_x 4 rfl rfl (Nat.le_of_ble_eq_true rfl) (y_assign rfl rfl) ?_
      <;> refine aL_end ?_
      <;> (repeat (first | with_reducible refine aC_seq ?_ | with_reducible refine aC_block ?_ | with_reducible refine aN_then ?_ | with_reducible refine aN_block ?_ | with_reducible refine aC_skip ?_ | with_reducible refine aC_exit ?_ | with_reducible refine aX_then ?_ | with_reducible refine aX_block ?_ | with_reducible refine aX_other rfl ?_ | with_reducible refine aC_ret ?_ | with_reducible refine aR_then ?_ | with_reducible refine aR_block ?_)) <;> (try dsimp only))
    refine ret_shr (Try.results49) rfl ?_
    rw [idx_none fun i y hi hy => hp i y (by omega) hy]
end Go.Proofs.Ytoanjgpdepaciaa

namespace Go.Proofs.Ytoanjgpdepaciaa
open Go.RowKit Go.Cb Go.En
set_option linter.all false
set_option maxRecDepth 100000

theorem tAgg40_EwB : AggT Try.prog 40 2 = true := by kernel_rfl
theorem tNa9_EwB : NoAgg Try.prog 9 = true := by kernel_rfl
theorem tSl22_EwB : SlT Try.prog 22 40 2 = true := by kernel_rfl
theorem tSl38_EwB : SlT Try.prog 38 9 1 = true := by kernel_rfl

theorem AF.of_vals {P : Program} {f : FuncId} {vs : List Value} {v : Value} (h : ∀ w, Calls P f vs.toArray w fun e w' => e = .returned v ∧ Ext w w') : AF P f (vs.map PV.val) (· = .val v) := fun M w us hM hl hv => by
  have : us = vs := by
    apply List.ext_getElem?
    intro i
    rcases Nat.lt_or_ge i us.length with hi | hi
    · obtain ⟨u, hu⟩ := get_of_lt hi
      obtain ⟨p, hp⟩ := get_of_len hu hl
      have h1 := hv i u p hu hp
      rw [List.getElem?_map, Option.map_eq_some_iff] at hp
      obtain ⟨x, hx, rfl⟩ := hp
      have : u = x := h1.vOf
      rw [hu, hx, this]
    · rw [List.getElem?_eq_none hi, List.getElem?_eq_none (by rw [hl] at hi; simpa using hi)]
  subst this
  exact (h w).mono fun e w' ⟨h1, h2⟩ => ⟨v, _, fun _ => False, h1, rfl, h2, .shr (.val _) (fun _ h => h), fun _ h => h.elim⟩

theorem indexFuncStr_e (f : Nat) (caps : List PV) (p : ByteArray → Bool) (l : List ByteArray) (hc : ∀ args w, (callFunc f args).run Try.prog w = .ok (.enter f args) w) (hf : ∀ s ∈ l, AF Try.prog f (pStr s :: caps) (· = pBool (p s))) : AF Try.prog 35 [pStrs l, .fn f caps] (· = pInt (idx p l)) := by
  refine AF.of_body 19 Try.func35 rfl Try.ntmps35 (Nat.le_of_ble_eq_true rfl) ?_
  intro w0 M0 vs hl hv
  obtain ⟨v0, v1, rfl⟩ := len2 hl
  clear hl hv
  refine aC_slen 0 rfl fun hlen => ?_
  (repeat (first | with_reducible refine aC_seq ?_ | with_reducible refine aC_block ?_ | with_reducible refine aN_then ?_ | with_reducible refine aN_block ?_ | with_reducible refine aC_skip ?_ | with_reducible refine aC_exit ?_ | with_reducible refine aX_then ?_ | with_reducible refine aX_block ?_ | with_reducible refine aX_other rfl ?_ | with_reducible refine aC_ret ?_ | with_reducible refine aR_then ?_ | with_reducible refine aR_block ?_))
  (refine aC_region ?_
    <;> refine aL_x 4 rfl rfl (Nat.le_of_ble_eq_true rfl) (y_assign rfl rfl) ?_
    <;> refine aL_end ?_
    <;> (repeat (first | with_reducible refine aC_seq ?_ | with_reducible refine aC_block ?_ | with_reducible refine aN_then ?_ | with_reducible refine aN_block ?_ | with_reducible refine aC_skip ?_ | with_reducible refine aC_exit ?_ | with_reducible refine aX_then ?_ | with_reducible refine aX_block ?_ | with_reducible refine aX_other rfl ?_ | with_reducible refine aC_ret ?_ | with_reducible refine aR_then ?_ | with_reducible refine aR_block ?_)) <;> (try dsimp only))
  (refine aC_region ?_
    <;> refine aL_x 6 rfl rfl (Nat.le_of_ble_eq_true rfl) (y_move rfl rfl) ?_
    <;> refine aL_x 7 rfl rfl (Nat.le_of_ble_eq_true rfl) (y_len_shr tSl38_EwB rfl rfl) ?_
    <;> refine aL_x 8 rfl rfl (Nat.le_of_ble_eq_true rfl) (y_move rfl rfl) ?_
    <;> refine aL_end ?_
    <;> (repeat (first | with_reducible refine aC_seq ?_ | with_reducible refine aC_block ?_ | with_reducible refine aN_then ?_ | with_reducible refine aN_block ?_ | with_reducible refine aC_skip ?_ | with_reducible refine aC_exit ?_ | with_reducible refine aX_then ?_ | with_reducible refine aX_block ?_ | with_reducible refine aX_other rfl ?_ | with_reducible refine aC_ret ?_ | with_reducible refine aR_then ?_ | with_reducible refine aR_block ?_)) <;> (try dsimp only))
  refine aC_loop (ι := { k : Nat // k ≤ l.length ∧ ∀ i y, i < k → l[i]? = some y → p y = false }) (fun k => ⟨[(0, v0, pStrs l), (1, v1, .fn f caps), (7, .int .i64 l.length, pInt l.length), (8, .int .i64 k.1, pInt k.1)], []⟩) (fun k => l.length - k.1) ⟨0, by omega, by omega⟩ (fun a w H => H.weaken ⟨rfl, rfl, rfl, rfl, trivial⟩ trivial) ?_
  rintro ⟨k, hk, hp⟩
  dsimp only
  (repeat (first | with_reducible refine aC_seq ?_ | with_reducible refine aC_block ?_ | with_reducible refine aN_then ?_ | with_reducible refine aN_block ?_ | with_reducible refine aC_skip ?_ | with_reducible refine aC_exit ?_ | with_reducible refine aX_then ?_ | with_reducible refine aX_block ?_ | with_reducible refine aX_other rfl ?_ | with_reducible refine aC_ret ?_ | with_reducible refine aR_then ?_ | with_reducible refine aR_block ?_))
  (refine aC_region ?_
    <;> refine aL_x 9 rfl rfl (Nat.le_of_ble_eq_true rfl) (y_lss rfl rfl rfl) ?_
    <;> refine aL_end ?_
    <;> (repeat (first | with_reducible refine aC_seq ?_ | with_reducible refine aC_block ?_ | with_reducible refine aN_then ?_ | with_reducible refine aN_block ?_ | with_reducible refine aC_skip ?_ | with_reducible refine aC_exit ?_ | with_reducible refine aX_then ?_ | with_reducible refine aX_block ?_ | with_reducible refine aX_other rfl ?_ | with_reducible refine aC_ret ?_ | with_reducible refine aR_then ?_ | with_reducible refine aR_block ?_)) <;> (try dsimp only))
  refine aC_cond rfl ?_ ?_
  · intro hb
    have hlt : k < l.length := by have := of_decide_eq_true hb; omega
    obtain ⟨x, hx⟩ := get_some hlt
    have e1 := map_at (f := pStr) hx
    (repeat (first | with_reducible refine aC_seq ?_ | with_reducible refine aC_block ?_ | with_reducible refine aN_then ?_ | with_reducible refine aN_block ?_ | with_reducible refine aC_skip ?_ | with_reducible refine aC_exit ?_ | with_reducible refine aX_then ?_ | with_reducible refine aX_block ?_ | with_reducible refine aX_other rfl ?_ | with_reducible refine aC_ret ?_ | with_reducible refine aR_then ?_ | with_reducible refine aR_block ?_))
    (refine aC_region ?_
      <;> refine aL_x 10 rfl rfl (Nat.le_of_ble_eq_true rfl) (y_move rfl rfl) ?_
      <;> refine aL_x 5 rfl rfl (Nat.le_of_ble_eq_true rfl) (y_assign rfl rfl) ?_
      <;> refine aL_end ?_
      <;> (repeat (first | with_reducible refine aC_seq ?_ | with_reducible refine aC_block ?_ | with_reducible refine aN_then ?_ | with_reducible refine aN_block ?_ | with_reducible refine aC_skip ?_ | with_reducible refine aC_exit ?_ | with_reducible refine aX_then ?_ | with_reducible refine aX_block ?_ | with_reducible refine aX_other rfl ?_ | with_reducible refine aC_ret ?_ | with_reducible refine aR_then ?_ | with_reducible refine aR_block ?_)) <;> (try dsimp only))
    (refine aC_region ?_
      <;> refine aL_x 11 rfl rfl (Nat.le_of_ble_eq_true rfl) (y_move rfl rfl) ?_
      <;> refine aL_x 12 rfl rfl (Nat.le_of_ble_eq_true rfl) (y_move rfl rfl) ?_
      <;> refine aL_x 13 rfl rfl (Nat.le_of_ble_eq_true rfl) (y_move rfl rfl) ?_
      <;> (first | refine aL_x 14 rfl rfl (Nat.le_of_ble_eq_true rfl) (y_idx_shrN tSl38_EwB rfl rfl rfl (by first | omega | (try simp only [List.length_cons, List.length_nil, List.length_map, List.length_set, List.length_append, List.length_replicate, List.length_singleton, List.flatMap_cons, List.flatMap_nil]; omega))) ?_ | refine aL_x 14 rfl rfl (Nat.le_of_ble_eq_true rfl) (y_idx_shr tSl38_EwB rfl rfl rfl (by first | omega | (try simp only [List.length_cons, List.length_nil, List.length_map, List.length_set, List.length_append, List.length_replicate, List.length_singleton, List.flatMap_cons, List.flatMap_nil]; omega)) (by first | omega | (try simp only [List.length_cons, List.length_nil, List.length_map, List.length_set, List.length_append, List.length_replicate, List.length_singleton, List.flatMap_cons, List.flatMap_nil]; omega))) ?_)
      <;> (first | (refine aL_y 15 rfl rfl (Nat.le_of_ble_eq_true rfl) (y_ld_shr tNa9_EwB rfl rfl rfl) ?_; intro v15 hv15; cases hv15) | (refine aL_y 15 rfl rfl (Nat.le_of_ble_eq_true rfl) (y_ld_shr tNa9_EwB rfl rfl (by assumption)) ?_; intro v15 hv15; cases hv15))
      <;> (refine aL_cs 16 rfl rfl (Nat.le_of_ble_eq_true rfl) (callF (f := f) (ps := caps) rfl ⟨_, rfl⟩ hc rfl (hf x (List.mem_of_getElem? hx))) ?_; rintro p' rfl; refine ⟨rfl, ?_⟩; intro v16 hv16; cases hv16)
      <;> refine aL_end ?_
      <;> (repeat (first | with_reducible refine aC_seq ?_ | with_reducible refine aC_block ?_ | with_reducible refine aN_then ?_ | with_reducible refine aN_block ?_ | with_reducible refine aC_skip ?_ | with_reducible refine aC_exit ?_ | with_reducible refine aX_then ?_ | with_reducible refine aX_block ?_ | with_reducible refine aX_other rfl ?_ | with_reducible refine aC_ret ?_ | with_reducible refine aR_then ?_ | with_reducible refine aR_block ?_)) <;> (try dsimp only))
    refine aC_cond rfl ?_ ?_
    · intro hb2
      (repeat (first | with_reducible refine aC_seq ?_ | with_reducible refine aC_block ?_ | with_reducible refine aN_then ?_ | with_reducible refine aN_block ?_ | with_reducible refine aC_skip ?_ | with_reducible refine aC_exit ?_ | with_reducible refine aX_then ?_ | with_reducible refine aX_block ?_ | with_reducible refine aX_other rfl ?_ | with_reducible refine aC_ret ?_ | with_reducible refine aR_then ?_ | with_reducible refine aR_block ?_))
      (refine aC_region ?_
        <;> refine aL_x 17 rfl rfl (Nat.le_of_ble_eq_true rfl) (y_move rfl rfl) ?_
        <;> refine aL_x 4 rfl rfl (Nat.le_of_ble_eq_true rfl) (y_assign rfl rfl) ?_
        <;> refine aL_end ?_
        <;> (repeat (first | with_reducible refine aC_seq ?_ | with_reducible refine aC_block ?_ | with_reducible refine aN_then ?_ | with_reducible refine aN_block ?_ | with_reducible refine aC_skip ?_ | with_reducible refine aC_exit ?_ | with_reducible refine aX_then ?_ | with_reducible refine aX_block ?_ | with_reducible refine aX_other rfl ?_ | with_reducible refine aC_ret ?_ | with_reducible refine aR_then ?_ | with_reducible refine aR_block ?_)) <;> (try dsimp only))
      refine ret_shr (Try.results35) rfl ?_
      rw [idx_here hp hx hb2]
    · intro hb2
      (repeat (first | with_reducible refine aC_seq ?_ | with_reducible refine aC_block ?_ | with_reducible refine aN_then ?_ | with_reducible refine aN_block ?_ | with_reducible refine aC_skip ?_ | with_reducible refine aC_exit ?_ | with_reducible refine aX_then ?_ | with_reducible refine aX_block ?_ | with_reducible refine aX_other rfl ?_ | with_reducible refine aC_ret ?_ | with_reducible refine aR_then ?_ | with_reducible refine aR_block ?_))
      (refine aC_region ?_
        <;> refine aL_x 18 rfl rfl (Nat.le_of_ble_eq_true rfl) (y_add rfl rfl rfl (by first | omega | (try simp only [List.length_cons, List.length_nil, List.length_map, List.length_set, List.length_append, List.length_replicate, List.length_singleton, List.flatMap_cons, List.flatMap_nil]; omega)) (by first | omega | (try simp only [List.length_cons, List.length_nil, List.length_map, List.length_set, List.length_append, List.length_replicate, List.length_singleton, List.flatMap_cons, List.flatMap_nil]; omega))) ?_
        <;> refine aL_x 8 rfl rfl (Nat.le_of_ble_eq_true rfl) (y_move rfl rfl) ?_
        <;> refine aL_end ?_
        <;> (repeat (first | with_reducible refine aC_seq ?_ | with_reducible refine aC_block ?_ | with_reducible refine aN_then ?_ | with_reducible refine aN_block ?_ | with_reducible refine aC_skip ?_ | with_reducible refine aC_exit ?_ | with_reducible refine aX_then ?_ | with_reducible refine aX_block ?_ | with_reducible refine aX_other rfl ?_ | with_reducible refine aC_ret ?_ | with_reducible refine aR_then ?_ | with_reducible refine aR_block ?_)) <;> (try dsimp only))
      refine aN_again ⟨k + 1, by omega, fun i y hi hy => ?_⟩ (by show l.length - (k + 1) < l.length - k; omega) ⟨rfl, rfl, rfl, rfl, trivial⟩ trivial
      by_cases e : i = k
      · subst e; rw [hx] at hy; cases hy; exact hb2
      · exact hp i y (by omega) hy
  · intro hb
    have hge : l.length ≤ k := by have := of_decide_eq_false hb; omega
    (repeat (first | with_reducible refine aC_seq ?_ | with_reducible refine aC_block ?_ | with_reducible refine aN_then ?_ | with_reducible refine aN_block ?_ | with_reducible refine aC_skip ?_ | with_reducible refine aC_exit ?_ | with_reducible refine aX_then ?_ | with_reducible refine aX_block ?_ | with_reducible refine aX_other rfl ?_ | with_reducible refine aC_ret ?_ | with_reducible refine aR_then ?_ | with_reducible refine aR_block ?_))
    (refine aC_region ?_
      <;> refine aL_x 4 rfl rfl (Nat.le_of_ble_eq_true rfl) (y_assign rfl rfl) ?_
      <;> refine aL_end ?_
      <;> (repeat (first | with_reducible refine aC_seq ?_ | with_reducible refine aC_block ?_ | with_reducible refine aN_then ?_ | with_reducible refine aN_block ?_ | with_reducible refine aC_skip ?_ | with_reducible refine aC_exit ?_ | with_reducible refine aX_then ?_ | with_reducible refine aX_block ?_ | with_reducible refine aX_other rfl ?_ | with_reducible refine aC_ret ?_ | with_reducible refine aR_then ?_ | with_reducible refine aR_block ?_)) <;> (try dsimp only))
    refine ret_shr (Try.results35) rfl ?_
    rw [idx_none fun i y hi hy => hp i y (by omega) hy]
theorem containsFuncStr_e (f : Nat) (caps : List PV) (p : ByteArray → Bool) (l : List ByteArray) (hc : ∀ args w, (callFunc f args).run Try.prog w = .ok (.enter f args) w) (hf : ∀ s ∈ l, AF Try.prog f (pStr s :: caps) (· = pBool (p s))) : AF Try.prog 14 [pStrs l, .fn f caps] (· = pBool (l.any p)) := by
  refine AF.of_body 9 Try.func14 rfl Try.ntmps14 (Nat.le_of_ble_eq_true rfl) ?_
  intro w0 M0 vs hl hv
  obtain ⟨v0, v1, rfl⟩ := len2 hl
  clear hl hv
  (repeat (first | with_reducible refine aC_seq ?_ | with_reducible refine aC_block ?_ | with_reducible refine aN_then ?_ | with_reducible refine aN_block ?_ | with_reducible refine aC_skip ?_ | with_reducible refine aC_exit ?_ | with_reducible refine aX_then ?_ | with_reducible refine aX_block ?_ | with_reducible refine aX_other rfl ?_ | with_reducible refine aC_ret ?_ | with_reducible refine aR_then ?_ | with_reducible refine aR_block ?_))
  (refine aC_region ?_
    <;> refine aL_x 4 rfl rfl (Nat.le_of_ble_eq_true rfl) (y_assign rfl rfl) ?_
    <;> refine aL_end ?_
    <;> (repeat (first | with_reducible refine aC_seq ?_ | with_reducible refine aC_block ?_ | with_reducible refine aN_then ?_ | with_reducible refine aN_block ?_ | with_reducible refine aC_skip ?_ | with_reducible refine aC_exit ?_ | with_reducible refine aX_then ?_ | with_reducible refine aX_block ?_ | with_reducible refine aX_other rfl ?_ | with_reducible refine aC_ret ?_ | with_reducible refine aR_then ?_ | with_reducible refine aR_block ?_)) <;> (try dsimp only))
  (refine aC_region ?_
    <;> refine aL_x 5 rfl rfl (Nat.le_of_ble_eq_true rfl) (y_move rfl rfl) ?_
    <;> refine aL_x 6 rfl rfl (Nat.le_of_ble_eq_true rfl) (y_move rfl rfl) ?_
    <;> (refine aL_cs 7 rfl rfl (Nat.le_of_ble_eq_true rfl) (callA rfl (Try.call35) rfl (indexFuncStr_e f caps p l hc hf)) ?_; rintro p' rfl; refine ⟨rfl, ?_⟩; intro v7 hv7; cases hv7)
    <;> refine aL_x 8 rfl rfl (Nat.le_of_ble_eq_true rfl) (y_geq rfl rfl rfl) ?_
    <;> refine aL_x 4 rfl rfl (Nat.le_of_ble_eq_true rfl) (y_assign rfl rfl) ?_
    <;> refine aL_end ?_
    <;> (repeat (first | with_reducible refine aC_seq ?_ | with_reducible refine aC_block ?_ | with_reducible refine aN_then ?_ | with_reducible refine aN_block ?_ | with_reducible refine aC_skip ?_ | with_reducible refine aC_exit ?_ | with_reducible refine aX_then ?_ | with_reducible refine aX_block ?_ | with_reducible refine aX_other rfl ?_ | with_reducible refine aC_ret ?_ | with_reducible refine aR_then ?_ | with_reducible refine aR_block ?_)) <;> (try dsimp only))
  refine ret_shr (Try.results14) rfl ?_
  rw [idx_any]
theorem indexFuncVar_e (f : Nat) (caps : List PV) (p : Var → Bool) (l : List Var) (hc : ∀ args w, (callFunc f args).run Try.prog w = .ok (.enter f args) w) (hf : ∀ s ∈ l, AF Try.prog f (.agg (cVar s) :: caps) (· = pBool (p s))) : AF Try.prog 34 [pVars l, .fn f caps] (· = pInt (idx p l)) := by
  refine AF.of_body 19 Try.func34 rfl Try.ntmps34 (Nat.le_of_ble_eq_true rfl) ?_
  intro w0 M0 vs hl hv
  obtain ⟨v0, v1, rfl⟩ := len2 hl
  clear hl hv
  refine aC_slen 0 rfl fun hlen => ?_
  (repeat (first | with_reducible refine aC_seq ?_ | with_reducible refine aC_block ?_ | with_reducible refine aN_then ?_ | with_reducible refine aN_block ?_ | with_reducible refine aC_skip ?_ | with_reducible refine aC_exit ?_ | with_reducible refine aX_then ?_ | with_reducible refine aX_block ?_ | with_reducible refine aX_other rfl ?_ | with_reducible refine aC_ret ?_ | with_reducible refine aR_then ?_ | with_reducible refine aR_block ?_))
  (refine aC_region ?_
    <;> refine aL_x 4 rfl rfl (Nat.le_of_ble_eq_true rfl) (y_assign rfl rfl) ?_
    <;> refine aL_end ?_
    <;> (repeat (first | with_reducible refine aC_seq ?_ | with_reducible refine aC_block ?_ | with_reducible refine aN_then ?_ | with_reducible refine aN_block ?_ | with_reducible refine aC_skip ?_ | with_reducible refine aC_exit ?_ | with_reducible refine aX_then ?_ | with_reducible refine aX_block ?_ | with_reducible refine aX_other rfl ?_ | with_reducible refine aC_ret ?_ | with_reducible refine aR_then ?_ | with_reducible refine aR_block ?_)) <;> (try dsimp only))
  (refine aC_region ?_
    <;> refine aL_x 6 rfl rfl (Nat.le_of_ble_eq_true rfl) (y_move rfl rfl) ?_
    <;> refine aL_x 7 rfl rfl (Nat.le_of_ble_eq_true rfl) (y_len_shr tSl22_EwB rfl rfl) ?_
    <;> refine aL_x 8 rfl rfl (Nat.le_of_ble_eq_true rfl) (y_move rfl rfl) ?_
    <;> refine aL_end ?_
    <;> (repeat (first | with_reducible refine aC_seq ?_ | with_reducible refine aC_block ?_ | with_reducible refine aN_then ?_ | with_reducible refine aN_block ?_ | with_reducible refine aC_skip ?_ | with_reducible refine aC_exit ?_ | with_reducible refine aX_then ?_ | with_reducible refine aX_block ?_ | with_reducible refine aX_other rfl ?_ | with_reducible refine aC_ret ?_ | with_reducible refine aR_then ?_ | with_reducible refine aR_block ?_)) <;> (try dsimp only))
  refine aC_loop (ι := { k : Nat // k ≤ l.length ∧ ∀ i y, i < k → l[i]? = some y → p y = false }) (fun k => ⟨[(0, v0, pVars l), (1, v1, .fn f caps), (7, .int .i64 l.length, pInt l.length), (8, .int .i64 k.1, pInt k.1)], []⟩) (fun k => l.length - k.1) ⟨0, by omega, by omega⟩ (fun a w H => H.weaken ⟨rfl, rfl, rfl, rfl, trivial⟩ trivial) ?_
  rintro ⟨k, hk, hp⟩
  dsimp only
  (repeat (first | with_reducible refine aC_seq ?_ | with_reducible refine aC_block ?_ | with_reducible refine aN_then ?_ | with_reducible refine aN_block ?_ | with_reducible refine aC_skip ?_ | with_reducible refine aC_exit ?_ | with_reducible refine aX_then ?_ | with_reducible refine aX_block ?_ | with_reducible refine aX_other rfl ?_ | with_reducible refine aC_ret ?_ | with_reducible refine aR_then ?_ | with_reducible refine aR_block ?_))
  (refine aC_region ?_
    <;> refine aL_x 9 rfl rfl (Nat.le_of_ble_eq_true rfl) (y_lss rfl rfl rfl) ?_
    <;> refine aL_end ?_
    <;> (repeat (first | with_reducible refine aC_seq ?_ | with_reducible refine aC_block ?_ | with_reducible refine aN_then ?_ | with_reducible refine aN_block ?_ | with_reducible refine aC_skip ?_ | with_reducible refine aC_exit ?_ | with_reducible refine aX_then ?_ | with_reducible refine aX_block ?_ | with_reducible refine aX_other rfl ?_ | with_reducible refine aC_ret ?_ | with_reducible refine aR_then ?_ | with_reducible refine aR_block ?_)) <;> (try dsimp only))
  refine aC_cond rfl ?_ ?_
  · intro hb
    have hlt : k < l.length := by have := of_decide_eq_true hb; omega
    obtain ⟨x, hx⟩ := get_some hlt
    have e1 := flat_drop cVar_len l k x hx
    have e2 := flat_fit cVar_len hx
    (repeat (first | with_reducible refine aC_seq ?_ | with_reducible refine aC_block ?_ | with_reducible refine aN_then ?_ | with_reducible refine aN_block ?_ | with_reducible refine aC_skip ?_ | with_reducible refine aC_exit ?_ | with_reducible refine aX_then ?_ | with_reducible refine aX_block ?_ | with_reducible refine aX_other rfl ?_ | with_reducible refine aC_ret ?_ | with_reducible refine aR_then ?_ | with_reducible refine aR_block ?_))
    (refine aC_region ?_
      <;> refine aL_x 10 rfl rfl (Nat.le_of_ble_eq_true rfl) (y_move rfl rfl) ?_
      <;> refine aL_x 5 rfl rfl (Nat.le_of_ble_eq_true rfl) (y_assign rfl rfl) ?_
      <;> refine aL_end ?_
      <;> (repeat (first | with_reducible refine aC_seq ?_ | with_reducible refine aC_block ?_ | with_reducible refine aN_then ?_ | with_reducible refine aN_block ?_ | with_reducible refine aC_skip ?_ | with_reducible refine aC_exit ?_ | with_reducible refine aX_then ?_ | with_reducible refine aX_block ?_ | with_reducible refine aX_other rfl ?_ | with_reducible refine aC_ret ?_ | with_reducible refine aR_then ?_ | with_reducible refine aR_block ?_)) <;> (try dsimp only))
    (refine aC_region ?_
      <;> refine aL_x 11 rfl rfl (Nat.le_of_ble_eq_true rfl) (y_move rfl rfl) ?_
      <;> refine aL_x 12 rfl rfl (Nat.le_of_ble_eq_true rfl) (y_move rfl rfl) ?_
      <;> refine aL_x 13 rfl rfl (Nat.le_of_ble_eq_true rfl) (y_move rfl rfl) ?_
      <;> (first | refine aL_x 14 rfl rfl (Nat.le_of_ble_eq_true rfl) (y_idx_shrN tSl22_EwB rfl rfl rfl (by first | omega | (try simp only [List.length_cons, List.length_nil, List.length_map, List.length_set, List.length_append, List.length_replicate, List.length_singleton, List.flatMap_cons, List.flatMap_nil]; omega))) ?_ | refine aL_x 14 rfl rfl (Nat.le_of_ble_eq_true rfl) (y_idx_shr tSl22_EwB rfl rfl rfl (by first | omega | (try simp only [List.length_cons, List.length_nil, List.length_map, List.length_set, List.length_append, List.length_replicate, List.length_singleton, List.flatMap_cons, List.flatMap_nil]; omega)) (by first | omega | (try simp only [List.length_cons, List.length_nil, List.length_map, List.length_set, List.length_append, List.length_replicate, List.length_singleton, List.flatMap_cons, List.flatMap_nil]; omega))) ?_)
      <;> (refine aL_y 15 rfl rfl (Nat.le_of_ble_eq_true rfl) (y_lda_shrE tAgg40_EwB rfl rfl (by first | omega | (try simp only [List.length_cons, List.length_nil, List.length_map, List.length_set, List.length_append, List.length_replicate, List.length_singleton, List.flatMap_cons, List.flatMap_nil]; omega)) (by first | assumption | rfl)) ?_; intro v15 hv15; cases hv15)
      <;> (refine aL_cs 16 rfl rfl (Nat.le_of_ble_eq_true rfl) (callF (f := f) (ps := caps) rfl ⟨_, rfl⟩ hc rfl (hf x (List.mem_of_getElem? hx))) ?_; rintro p' rfl; refine ⟨rfl, ?_⟩; intro v16 hv16; cases hv16)
      <;> refine aL_end ?_
      <;> (repeat (first | with_reducible refine aC_seq ?_ | with_reducible refine aC_block ?_ | with_reducible refine aN_then ?_ | with_reducible refine aN_block ?_ | with_reducible refine aC_skip ?_ | with_reducible refine aC_exit ?_ | with_reducible refine aX_then ?_ | with_reducible refine aX_block ?_ | with_reducible refine aX_other rfl ?_ | with_reducible refine aC_ret ?_ | with_reducible refine aR_then ?_ | with_reducible refine aR_block ?_)) <;> (try dsimp only))
    refine aC_cond rfl ?_ ?_
    · intro hb2
      (repeat (first | with_reducible refine aC_seq ?_ | with_reducible refine aC_block ?_ | with_reducible refine aN_then ?_ | with_reducible refine aN_block ?_ | with_reducible refine aC_skip ?_ | with_reducible refine aC_exit ?_ | with_reducible refine aX_then ?_ | with_reducible refine aX_block ?_ | with_reducible refine aX_other rfl ?_ | with_reducible refine aC_ret ?_ | with_reducible refine aR_then ?_ | with_reducible refine aR_block ?_))
      (refine aC_region ?_
        <;> refine aL_x 17 rfl rfl (Nat.le_of_ble_eq_true rfl) (y_move rfl rfl) ?_
        <;> refine aL_x 4 rfl rfl (Nat.le_of_ble_eq_true rfl) (y_assign rfl rfl) ?_
        <;> refine aL_end ?_
        <;> (repeat (first | with_reducible refine aC_seq ?_ | with_reducible refine aC_block ?_ | with_reducible refine aN_then ?_ | with_reducible refine aN_block ?_ | with_reducible refine aC_skip ?_ | with_reducible refine aC_exit ?_ | with_reducible refine aX_then ?_ | with_reducible refine aX_block ?_ | with_reducible refine aX_other rfl ?_ | with_reducible refine aC_ret ?_ | with_reducible refine aR_then ?_ | with_reducible refine aR_block ?_)) <;> (try dsimp only))
      refine ret_shr (Try.results34) rfl ?_
      rw [idx_here hp hx hb2]
    · intro hb2
      (repeat (first | with_reducible refine aC_seq ?_ | with_reducible refine aC_block ?_ | with_reducible refine aN_then ?_ | with_reducible refine aN_block ?_ | with_reducible refine aC_skip ?_ | with_reducible refine aC_exit ?_ | with_reducible refine aX_then ?_ | with_reducible refine aX_block ?_ | with_reducible refine aX_other rfl ?_ | with_reducible refine aC_ret ?_ | with_reducible refine aR_then ?_ | with_reducible refine aR_block ?_))
      (refine aC_region ?_
        <;> refine aL_x 18 rfl rfl (Nat.le_of_ble_eq_true rfl) (y_add rfl rfl rfl (by first | omega | (try simp only [List.length_cons, List.length_nil, List.length_map, List.length_set, List.length_append, List.length_replicate, List.length_singleton, List.flatMap_cons, List.flatMap_nil]; omega)) (by first | omega | (try simp only [List.length_cons, List.length_nil, List.length_map, List.length_set, List.length_append, List.length_replicate, List.length_singleton, List.flatMap_cons, List.flatMap_nil]; omega))) ?_
        <;> refine aL_x 8 rfl rfl (Nat.le_of_ble_eq_true rfl) (y_move rfl rfl) ?_
        <;> refine aL_end ?_
        <;> (repeat (first | with_reducible refine aC_seq ?_ | with_reducible refine aC_block ?_ | with_reducible refine aN_then ?_ | with_reducible refine aN_block ?_ | with_reducible refine aC_skip ?_ | with_reducible refine aC_exit ?_ | with_reducible refine aX_then ?_ | with_reducible refine aX_block ?_ | with_reducible refine aX_other rfl ?_ | with_reducible refine aC_ret ?_ | with_reducible refine aR_then ?_ | with_reducible refine aR_block ?_)) <;> (try dsimp only))
      refine aN_again ⟨k + 1, by omega, fun i y hi hy => ?_⟩ (by show l.length - (k + 1) < l.length - k; omega) ⟨rfl, rfl, rfl, rfl, trivial⟩ trivial
      by_cases e : i = k
      · subst e; rw [hx] at hy; cases hy; exact hb2
      · exact hp i y (by omega) hy
  · intro hb
    have hge : l.length ≤ k := by have := of_decide_eq_false hb; omega
    (repeat (first | with_reducible refine aC_seq ?_ | with_reducible refine aC_block ?_ | with_reducible refine aN_then ?_ | with_reducible refine aN_block ?_ | with_reducible refine aC_skip ?_ | with_reducible refine aC_exit ?_ | with_reducible refine aX_then ?_ | with_reducible refine aX_block ?_ | with_reducible refine aX_other rfl ?_ | with_reducible refine aC_ret ?_ | with_reducible refine aR_then ?_ | with_reducible refine aR_block ?_))
    (refine aC_region ?_
      <;> refine aL_x 4 rfl rfl (Nat.le_of_ble_eq_true rfl) (y_assign rfl rfl) ?_
      <;> refine aL_end ?_
      <;> (repeat (first | with_reducible refine aC_seq ?_ | with_reducible refine aC_block ?_ | with_reducible refine aN_then ?_ | with_reducible refine aN_block ?_ | with_reducible refine aC_skip ?_ | with_reducible refine aC_exit ?_ | with_reducible refine aX_then ?_ | with_reducible refine aX_block ?_ | with_reducible refine aX_other rfl ?_ | with_reducible refine aC_ret ?_ | with_reducible refine aR_then ?_ | with_reducible refine aR_block ?_)) <;> (try dsimp only))
    refine ret_shr (Try.results34) rfl ?_
    rw [idx_none fun i y hi hy => hp i y (by omega) hy]
theorem containsFuncVar_e (f : Nat) (caps : List PV) (p : Var → Bool) (l : List Var) (hc : ∀ args w, (callFunc f args).run Try.prog w = .ok (.enter f args) w) (hf : ∀ s ∈ l, AF Try.prog f (.agg (cVar s) :: caps) (· = pBool (p s))) : AF Try.prog 12 [pVars l, .fn f caps] (· = pBool (l.any p)) := by
  refine AF.of_body 9 Try.func12 rfl Try.ntmps12 (Nat.le_of_ble_eq_true rfl) ?_
  intro w0 M0 vs hl hv
  obtain ⟨v0, v1, rfl⟩ := len2 hl
  clear hl hv
  (repeat (first | with_reducible refine aC_seq ?_ | with_reducible refine aC_block ?_ | with_reducible refine aN_then ?_ | with_reducible refine aN_block ?_ | with_reducible refine aC_skip ?_ | with_reducible refine aC_exit ?_ | with_reducible refine aX_then ?_ | with_reducible refine aX_block ?_ | with_reducible refine aX_other rfl ?_ | with_reducible refine aC_ret ?_ | with_reducible refine aR_then ?_ | with_reducible refine aR_block ?_))
  (refine aC_region ?_
    <;> refine aL_x 4 rfl rfl (Nat.le_of_ble_eq_true rfl) (y_assign rfl rfl) ?_
    <;> refine aL_end ?_
    <;> (repeat (first | with_reducible refine aC_seq ?_ | with_reducible refine aC_block ?_ | with_reducible refine aN_then ?_ | with_reducible refine aN_block ?_ | with_reducible refine aC_skip ?_ | with_reducible refine aC_exit ?_ | with_reducible refine aX_then ?_ | with_reducible refine aX_block ?_ | with_reducible refine aX_other rfl ?_ | with_reducible refine aC_ret ?_ | with_reducible refine aR_then ?_ | with_reducible refine aR_block ?_)) <;> (try dsimp only))
  (refine aC_region ?_
    <;> refine aL_x 5 rfl rfl (Nat.le_of_ble_eq_true rfl) (y_move rfl rfl) ?_
    <;> refine aL_x 6 rfl rfl (Nat.le_of_ble_eq_true rfl) (y_move rfl rfl) ?_
    <;> (refine aL_cs 7 rfl rfl (Nat.le_of_ble_eq_true rfl) (callA rfl (Try.call34) rfl (indexFuncVar_e f caps p l hc hf)) ?_; rintro p' rfl; refine ⟨rfl, ?_⟩; intro v7 hv7; cases hv7)
    <;> refine aL_x 8 rfl rfl (Nat.le_of_ble_eq_true rfl) (y_geq rfl rfl rfl) ?_
    <;> refine aL_x 4 rfl rfl (Nat.le_of_ble_eq_true rfl) (y_assign rfl rfl) ?_
    <;> refine aL_end ?_
    <;> (repeat (first | with_reducible refine aC_seq ?_ | with_reducible refine aC_block ?_ | with_reducible refine aN_then ?_ | with_reducible refine aN_block ?_ | with_reducible refine aC_skip ?_ | with_reducible refine aC_exit ?_ | with_reducible refine aX_then ?_ | with_reducible refine aX_block ?_ | with_reducible refine aX_other rfl ?_ | with_reducible refine aC_ret ?_ | with_reducible refine aR_then ?_ | with_reducible refine aR_block ?_)) <;> (try dsimp only))
  refine ret_shr (Try.results12) rfl ?_
  rw [idx_any]
end Go.Proofs.Ytoanjgpdepaciaa

namespace Go.Proofs.Ytoanjgpdepaciaa
open Go.RowKit Go.Cb Go.En
set_option linter.all false
set_option maxRecDepth 100000

theorem tFl25_0_EwC : FldT Try.prog 25 0 0 = true := by kernel_rfl
theorem tFl25_1_EwC : FldT Try.prog 25 1 1 = true := by kernel_rfl
theorem tMp47_EwC : MpT Try.prog 47 9 3 .string (.int .i64 0) := ⟨Try.underlying47, Try.underlying9, .inl rfl, by show ZeroT _ _ _; unfold ZeroT; kernel_rfl⟩
theorem tNa23_EwC : NoAgg Try.prog 23 = true := by kernel_rfl
theorem tNa38_EwC : NoAgg Try.prog 38 = true := by kernel_rfl
theorem tNa3_EwC : NoAgg Try.prog 3 = true := by kernel_rfl
theorem tNa9_EwC : NoAgg Try.prog 9 = true := by kernel_rfl
theorem tSl23_EwC : SlT Try.prog 23 38 1 = true := by kernel_rfl
theorem tSl38_EwC : SlT Try.prog 38 9 1 = true := by kernel_rfl

theorem isName_e (s : ByteArray) (hs : s.size ≤ 140737488355328) : AF Try.prog 37 [pStr s] (· = pBool (isName s)) := AF.of_vals (vs := [.string s]) fun w => (isName_c s w hs).mono fun e w' ⟨h1, h2⟩ => ⟨h1, h2 ▸ Ext.rfl' _⟩

/-! ### The entries of the map -/
def entP (i : Nat) (p : List ByteArray) : List (ByteArray × Value) := p.map fun s => (s, Value.int .i64 (i : Int))
def entries : Nat → List (List ByteArray) → List (ByteArray × Value)
  | _, [] => []
  | i, p :: ps => entP i p ++ entries (i + 1) ps
theorem entries_snoc : ∀ (ps : List (List ByteArray)) (i : Nat) (p : List ByteArray), entries i (ps ++ [p]) = entries i ps ++ entP (i + ps.length) p
  | [], i, p => by simp [entries]
  | q :: ps, i, p => by
    rw [List.cons_append, entries, entries, entries_snoc ps (i + 1) p, List.append_assoc]
    congr 3
    simp; omega
theorem aget_append {es fs : List (ByteArray × Value)} {s : ByteArray} : aget (es ++ fs) s = match aget es s with | some v => some v | none => aget fs s := by
  induction es with
  | nil => rfl
  | cons x l ih =>
    simp only [List.cons_append, aget]
    split
    · rfl
    · exact ih
theorem aget_entP (i : Nat) (p : List ByteArray) (s : ByteArray) : aget (entP i p) s = if hasStr p s then some (.int .i64 (i : Int)) else none := by
  induction p with
  | nil => rfl
  | cons x p ih =>
    simp only [entP, List.map_cons, aget]
    by_cases h : s = x
    · subst h
      have : hasStr (s :: p) s = true := by unfold hasStr; simp; exact .inl (strEq_iff.2 rfl)
      simp [this]
    · have h0 : strEq x s = false := by
        cases h1 : strEq x s
        · rfl
        · exact absurd (strEq_iff.1 h1).symm h
      have : hasStr (x :: p) s = hasStr p s := by unfold hasStr; simp [h0]
      rw [if_neg h, this]
      exact ih
theorem aget_entries : ∀ (ps : List (List ByteArray)) (i : Nat) (s : ByteArray), aget (entries i ps) s = (ps.findIdx? fun p => hasStr p s).map fun (j : Nat) => Value.int .i64 ((i + j : Nat) : Int)
  | [], i, s => rfl
  | p :: ps, i, s => by
    rw [entries, aget_append, aget_entP, List.findIdx?_cons, aget_entries ps (i + 1) s]
    cases hasStr p s
    · simp [Function.comp_def]
      cases ps.findIdx? fun p => hasStr p s <;> simp
      omega
    · simp
theorem aget_parts (ps : List (List ByteArray)) (s : ByteArray) : aget (entries 0 ps) s = (partMap ps s).map fun n => Value.int .i64 n := by
  rw [aget_entries]
  unfold partMap
  rw [Option.map_map]
  congr 1
  funext j
  simp
theorem aput_fresh {es : List (ByteArray × Value)} {s : ByteArray} {v : Value} (h : aget es s = none) : aput es s v = es ++ [(s, v)] := by
  induction es with
  | nil => rfl
  | cons x l ih =>
    simp only [aget] at h
    split at h
    · cases h
    · rename_i hx
      rw [aput, if_neg hx, ih h, List.cons_append]
theorem entries_len : ∀ (ps : List (List ByteArray)) (i : Nat), (entries i ps).length = ps.flatten.length
  | [], _ => rfl
  | p :: ps, i => by rw [entries, List.length_append, entries_len ps, List.flatten_cons, List.length_append]; simp [entP]
theorem aget_two (ps : List (List ByteArray)) (p : List ByteArray) (s : ByteArray) (k : Nat) : (aget (entries 0 ps ++ entP k p) s).isSome = hasStr (ps.flatten ++ p) s := by
  rw [aget_append, aget_parts]
  have h1 := partMap_isSome ps s
  have h2 : hasStr (ps.flatten ++ p) s = (hasStr ps.flatten s || hasStr p s) := by unfold hasStr; rw [List.any_append]
  rw [h2, ← h1, aget_entP]
  cases partMap ps s <;> cases hasStr p s <;> rfl

/-- What cut.parts hands back. -/
def RParts (c : Cut) (p : PV) : Prop := ∃ q, p = .tup [q, pBool (formedB c)] ∧ (formedB c = true → q = .omap (skv (entries 0 c.parts))) ∧ (q = .val (.map none) ∨ ∃ es, q = .omap es)
theorem formed_no {c : Cut} (h : formedGo [] c.parts = false) : formedB c = false := by unfold formedB; rw [h]; simp
theorem rparts_no {c : Cut} (h : formedB c = false) : RParts c (.tup [.val (.map none), pBool false]) := ⟨_, by rw [h], fun h' => (by rw [h] at h'; cases h'), .inl rfl⟩

set_option maxHeartbeats 1000000 in
theorem cparts_e (c : Cut) (hs : ∀ p ∈ c.parts, ∀ s ∈ p, s.size ≤ 140737488355328) : AF Try.prog 19 [pCut c] (RParts c) := by
  refine AF.of_body 75 Try.func19 rfl Try.ntmps19 (Nat.le_of_ble_eq_true rfl) ?_
  intro w0 M0 vs hl hv
  obtain ⟨v0, rfl⟩ := len1 hl
  clear hl hv
  (repeat (first | with_reducible refine aC_seq ?_ | with_reducible refine aC_block ?_ | with_reducible refine aN_then ?_ | with_reducible refine aN_block ?_ | with_reducible refine aC_skip ?_ | with_reducible refine aC_exit ?_ | with_reducible refine aX_then ?_ | with_reducible refine aX_block ?_ | with_reducible refine aX_other rfl ?_ | with_reducible refine aC_ret ?_ | with_reducible refine aR_then ?_ | with_reducible refine aR_block ?_))
  (refine aC_region ?_
    <;> (refine aL_boxa 1 2 rfl rfl (Nat.le_of_ble_eq_true rfl) rfl rfl rfl rfl ?_; intro h1)
    <;> refine aL_x 2 rfl rfl (Nat.le_of_ble_eq_true rfl) (y_assign rfl rfl) ?_
    <;> refine aL_x 3 rfl rfl (Nat.le_of_ble_eq_true rfl) (y_assign rfl rfl) ?_
    <;> refine aL_end ?_
    <;> (repeat (first | with_reducible refine aC_seq ?_ | with_reducible refine aC_block ?_ | with_reducible refine aN_then ?_ | with_reducible refine aN_block ?_ | with_reducible refine aC_skip ?_ | with_reducible refine aC_exit ?_ | with_reducible refine aX_then ?_ | with_reducible refine aX_block ?_ | with_reducible refine aX_other rfl ?_ | with_reducible refine aC_ret ?_ | with_reducible refine aR_then ?_ | with_reducible refine aR_block ?_)) <;> (try dsimp only))
  (refine aC_region ?_
    <;> (refine aL_mkmap 11 rfl rfl (Nat.le_of_ble_eq_true rfl) rfl rfl ?_; intro h11 ho11)
    <;> refine aL_x 4 rfl rfl (Nat.le_of_ble_eq_true rfl) (y_assign rfl rfl) ?_
    <;> refine aL_end ?_
    <;> (repeat (first | with_reducible refine aC_seq ?_ | with_reducible refine aC_block ?_ | with_reducible refine aN_then ?_ | with_reducible refine aN_block ?_ | with_reducible refine aC_skip ?_ | with_reducible refine aC_exit ?_ | with_reducible refine aX_then ?_ | with_reducible refine aX_block ?_ | with_reducible refine aX_other rfl ?_ | with_reducible refine aC_ret ?_ | with_reducible refine aR_then ?_ | with_reducible refine aR_block ?_)) <;> (try dsimp only))
  (refine aC_region ?_
    <;> (first | refine aL_x 12 rfl rfl (Nat.le_of_ble_eq_true rfl) (y_fld_shr tFl25_1_EwC rfl rfl) ?_ | refine aL_x 12 rfl rfl (Nat.le_of_ble_eq_true rfl) (y_fld_own 1 tFl25_1_EwC rfl rfl rfl (by first | omega | (try simp only [List.length_cons, List.length_nil, List.length_map, List.length_set, List.length_append, List.length_replicate, List.length_singleton, List.flatMap_cons, List.flatMap_nil]; omega))) ?_ | refine aL_x 12 rfl rfl (Nat.le_of_ble_eq_true rfl) (y_fld_own 11 tFl25_1_EwC rfl rfl rfl (by first | omega | (try simp only [List.length_cons, List.length_nil, List.length_map, List.length_set, List.length_append, List.length_replicate, List.length_singleton, List.flatMap_cons, List.flatMap_nil]; omega))) ?_)
    <;> (first | (refine aL_y 13 rfl rfl (Nat.le_of_ble_eq_true rfl) (y_ld_shr tNa23_EwC rfl rfl rfl) ?_; intro v13 hv13; cases hv13) | (refine aL_y 13 rfl rfl (Nat.le_of_ble_eq_true rfl) (y_ld_own 1 tNa23_EwC rfl rfl rfl rfl rfl) ?_; intro v13 hv13; cases hv13) | (refine aL_y 13 rfl rfl (Nat.le_of_ble_eq_true rfl) (y_ld_own 11 tNa23_EwC rfl rfl rfl rfl rfl) ?_; intro v13 hv13; cases hv13) | (refine aL_y 13 rfl rfl (Nat.le_of_ble_eq_true rfl) (y_ld_shr tNa23_EwC rfl rfl (by assumption)) ?_; intro v13 hv13; cases hv13) | (refine aL_y 13 rfl rfl (Nat.le_of_ble_eq_true rfl) (y_ld_own 1 tNa23_EwC rfl rfl rfl (by assumption) rfl) ?_; intro v13 hv13; cases hv13) | (refine aL_y 13 rfl rfl (Nat.le_of_ble_eq_true rfl) (y_ld_own 11 tNa23_EwC rfl rfl rfl (by assumption) rfl) ?_; intro v13 hv13; cases hv13))
    <;> (first | refine aL_x 14 rfl rfl (Nat.le_of_ble_eq_true rfl) (y_len_shr tSl23_EwC rfl rfl) ?_ | refine aL_x 14 rfl rfl (Nat.le_of_ble_eq_true rfl) (y_len_own 1 tSl23_EwC rfl rfl rfl) ?_ | refine aL_x 14 rfl rfl (Nat.le_of_ble_eq_true rfl) (y_len_own 11 tSl23_EwC rfl rfl rfl) ?_)
    <;> refine aL_x 15 rfl rfl (Nat.le_of_ble_eq_true rfl) (y_move rfl rfl) ?_
    <;> refine aL_end ?_
    <;> (repeat (first | with_reducible refine aC_seq ?_ | with_reducible refine aC_block ?_ | with_reducible refine aN_then ?_ | with_reducible refine aN_block ?_ | with_reducible refine aC_skip ?_ | with_reducible refine aC_exit ?_ | with_reducible refine aX_then ?_ | with_reducible refine aX_block ?_ | with_reducible refine aX_other rfl ?_ | with_reducible refine aC_ret ?_ | with_reducible refine aR_then ?_ | with_reducible refine aR_block ?_)) <;> (try dsimp only))
  refine aC_slen 13 rfl fun hlen => ?_
  refine aC_loop (ι := { k : Nat // k ≤ c.parts.length ∧ formedGo [] c.parts = formedGo (c.parts.take k).flatten (c.parts.drop k) }) (fun k => ⟨[(1, padd (sbase h1) 0, .val (padd (sbase h1) 0)), (4, h11, .val h11), (13, v13, pStrss c.parts), (14, .int .i64 c.parts.length, pInt c.parts.length), (15, .int .i64 k.1, pInt k.1)], [(1, h1, .own 25 2 1 [pInt c.kind, pStrss c.parts]), (11, h11, .omap (skv (entries 0 (c.parts.take k.1))))]⟩) (fun k => c.parts.length - k.1) ⟨0, by omega, rfl⟩ (fun a w H => H.weaken ⟨rfl, rfl, rfl, rfl, rfl, trivial⟩ ⟨rfl, rfl, trivial⟩) ?_
  rintro ⟨k, hk, hpre⟩
  dsimp only
  (repeat (first | with_reducible refine aC_seq ?_ | with_reducible refine aC_block ?_ | with_reducible refine aN_then ?_ | with_reducible refine aN_block ?_ | with_reducible refine aC_skip ?_ | with_reducible refine aC_exit ?_ | with_reducible refine aX_then ?_ | with_reducible refine aX_block ?_ | with_reducible refine aX_other rfl ?_ | with_reducible refine aC_ret ?_ | with_reducible refine aR_then ?_ | with_reducible refine aR_block ?_))
  (refine aC_region ?_
    <;> refine aL_x 16 rfl rfl (Nat.le_of_ble_eq_true rfl) (y_lss rfl rfl rfl) ?_
    <;> refine aL_end ?_
    <;> (repeat (first | with_reducible refine aC_seq ?_ | with_reducible refine aC_block ?_ | with_reducible refine aN_then ?_ | with_reducible refine aN_block ?_ | with_reducible refine aC_skip ?_ | with_reducible refine aC_exit ?_ | with_reducible refine aX_then ?_ | with_reducible refine aX_block ?_ | with_reducible refine aX_other rfl ?_ | with_reducible refine aC_ret ?_ | with_reducible refine aR_then ?_ | with_reducible refine aR_block ?_)) <;> (try dsimp only))
  refine aC_cond rfl ?_ ?_
  · intro hb
    have hlt : k < c.parts.length := by have := of_decide_eq_true hb; omega
    obtain ⟨p, hx⟩ := get_some hlt
    have e1 := map_at (f := pStrs) hx
    have hpm := hs p (List.mem_of_getElem? hx)
    have HD : formedGo (c.parts.take k).flatten (c.parts.drop k) = ((partOk p && freshB (c.parts.take k).flatten p) && formedGo (c.parts.take (k + 1)).flatten (c.parts.drop (k + 1))) := by
      rw [drop_at hx, formedGo, flat_snoc hx]
    (repeat (first | with_reducible refine aC_seq ?_ | with_reducible refine aC_block ?_ | with_reducible refine aN_then ?_ | with_reducible refine aN_block ?_ | with_reducible refine aC_skip ?_ | with_reducible refine aC_exit ?_ | with_reducible refine aX_then ?_ | with_reducible refine aX_block ?_ | with_reducible refine aX_other rfl ?_ | with_reducible refine aC_ret ?_ | with_reducible refine aR_then ?_ | with_reducible refine aR_block ?_))
    (refine aC_region ?_
      <;> refine aL_x 17 rfl rfl (Nat.le_of_ble_eq_true rfl) (y_move rfl rfl) ?_
      <;> (first | refine aL_x 18 rfl rfl (Nat.le_of_ble_eq_true rfl) (y_idx_shrN tSl23_EwC rfl rfl rfl (by first | omega | (try simp only [List.length_cons, List.length_nil, List.length_map, List.length_set, List.length_append, List.length_replicate, List.length_singleton, List.flatMap_cons, List.flatMap_nil]; omega))) ?_ | refine aL_x 18 rfl rfl (Nat.le_of_ble_eq_true rfl) (y_idx_ownN 1 tSl23_EwC rfl rfl rfl rfl (by first | omega | (try simp only [List.length_cons, List.length_nil, List.length_map, List.length_set, List.length_append, List.length_replicate, List.length_singleton, List.flatMap_cons, List.flatMap_nil]; omega))) ?_ | refine aL_x 18 rfl rfl (Nat.le_of_ble_eq_true rfl) (y_idx_ownN 11 tSl23_EwC rfl rfl rfl rfl (by first | omega | (try simp only [List.length_cons, List.length_nil, List.length_map, List.length_set, List.length_append, List.length_replicate, List.length_singleton, List.flatMap_cons, List.flatMap_nil]; omega))) ?_ | refine aL_x 18 rfl rfl (Nat.le_of_ble_eq_true rfl) (y_idx_shr tSl23_EwC rfl rfl rfl (by first | omega | (try simp only [List.length_cons, List.length_nil, List.length_map, List.length_set, List.length_append, List.length_replicate, List.length_singleton, List.flatMap_cons, List.flatMap_nil]; omega)) (by first | omega | (try simp only [List.length_cons, List.length_nil, List.length_map, List.length_set, List.length_append, List.length_replicate, List.length_singleton, List.flatMap_cons, List.flatMap_nil]; omega))) ?_ | refine aL_x 18 rfl rfl (Nat.le_of_ble_eq_true rfl) (y_idx_own 1 tSl23_EwC rfl rfl rfl rfl (by first | omega | (try simp only [List.length_cons, List.length_nil, List.length_map, List.length_set, List.length_append, List.length_replicate, List.length_singleton, List.flatMap_cons, List.flatMap_nil]; omega)) (by first | omega | (try simp only [List.length_cons, List.length_nil, List.length_map, List.length_set, List.length_append, List.length_replicate, List.length_singleton, List.flatMap_cons, List.flatMap_nil]; omega))) ?_ | refine aL_x 18 rfl rfl (Nat.le_of_ble_eq_true rfl) (y_idx_own 11 tSl23_EwC rfl rfl rfl rfl (by first | omega | (try simp only [List.length_cons, List.length_nil, List.length_map, List.length_set, List.length_append, List.length_replicate, List.length_singleton, List.flatMap_cons, List.flatMap_nil]; omega)) (by first | omega | (try simp only [List.length_cons, List.length_nil, List.length_map, List.length_set, List.length_append, List.length_replicate, List.length_singleton, List.flatMap_cons, List.flatMap_nil]; omega))) ?_)
      <;> (first | (refine aL_y 19 rfl rfl (Nat.le_of_ble_eq_true rfl) (y_ld_shr tNa38_EwC rfl rfl rfl) ?_; intro v19 hv19; cases hv19) | (refine aL_y 19 rfl rfl (Nat.le_of_ble_eq_true rfl) (y_ld_own 1 tNa38_EwC rfl rfl rfl rfl rfl) ?_; intro v19 hv19; cases hv19) | (refine aL_y 19 rfl rfl (Nat.le_of_ble_eq_true rfl) (y_ld_own 11 tNa38_EwC rfl rfl rfl rfl rfl) ?_; intro v19 hv19; cases hv19) | (refine aL_y 19 rfl rfl (Nat.le_of_ble_eq_true rfl) (y_ld_shr tNa38_EwC rfl rfl (by assumption)) ?_; intro v19 hv19; cases hv19) | (refine aL_y 19 rfl rfl (Nat.le_of_ble_eq_true rfl) (y_ld_own 1 tNa38_EwC rfl rfl rfl (by assumption) rfl) ?_; intro v19 hv19; cases hv19) | (refine aL_y 19 rfl rfl (Nat.le_of_ble_eq_true rfl) (y_ld_own 11 tNa38_EwC rfl rfl rfl (by assumption) rfl) ?_; intro v19 hv19; cases hv19))
      <;> refine aL_x 5 rfl rfl (Nat.le_of_ble_eq_true rfl) (y_assign rfl rfl) ?_
      <;> refine aL_x 6 rfl rfl (Nat.le_of_ble_eq_true rfl) (y_assign rfl rfl) ?_
      <;> refine aL_end ?_
      <;> (repeat (first | with_reducible refine aC_seq ?_ | with_reducible refine aC_block ?_ | with_reducible refine aN_then ?_ | with_reducible refine aN_block ?_ | with_reducible refine aC_skip ?_ | with_reducible refine aC_exit ?_ | with_reducible refine aX_then ?_ | with_reducible refine aX_block ?_ | with_reducible refine aX_other rfl ?_ | with_reducible refine aC_ret ?_ | with_reducible refine aR_then ?_ | with_reducible refine aR_block ?_)) <;> (try dsimp only))
    refine aC_slen 6 rfl fun hlenp => ?_
    (refine aC_region ?_
      <;> refine aL_x 20 rfl rfl (Nat.le_of_ble_eq_true rfl) (y_move rfl rfl) ?_
      <;> (first | refine aL_x 21 rfl rfl (Nat.le_of_ble_eq_true rfl) (y_len_shr tSl38_EwC rfl rfl) ?_ | refine aL_x 21 rfl rfl (Nat.le_of_ble_eq_true rfl) (y_len_own 1 tSl38_EwC rfl rfl rfl) ?_ | refine aL_x 21 rfl rfl (Nat.le_of_ble_eq_true rfl) (y_len_own 11 tSl38_EwC rfl rfl rfl) ?_)
      <;> refine aL_x 22 rfl rfl (Nat.le_of_ble_eq_true rfl) (y_move rfl rfl) ?_
      <;> refine aL_end ?_
      <;> (repeat (first | with_reducible refine aC_seq ?_ | with_reducible refine aC_block ?_ | with_reducible refine aN_then ?_ | with_reducible refine aN_block ?_ | with_reducible refine aC_skip ?_ | with_reducible refine aC_exit ?_ | with_reducible refine aX_then ?_ | with_reducible refine aX_block ?_ | with_reducible refine aX_other rfl ?_ | with_reducible refine aC_ret ?_ | with_reducible refine aR_then ?_ | with_reducible refine aR_block ?_)) <;> (try dsimp only))
    refine aC_loop (ι := { j : Nat // j ≤ p.length ∧ ∀ m s, m < j → p[m]? = some s → wordOk (c.parts.take k).flatten p m s }) (fun j => ⟨[(1, padd (sbase h1) 0, .val (padd (sbase h1) 0)), (4, h11, .val h11), (5, .int .i64 k, pInt k), (6, v19, pStrs p), (20, v19, pStrs p), (21, .int .i64 p.length, pInt p.length), (22, .int .i64 j.1, pInt j.1), (13, v13, pStrss c.parts), (14, .int .i64 c.parts.length, pInt c.parts.length), (15, .int .i64 k, pInt k)], [(1, h1, .own 25 2 1 [pInt c.kind, pStrss c.parts]), (11, h11, .omap (skv (entries 0 (c.parts.take k) ++ entP k (p.take j.1))))]⟩) (fun j => p.length - j.1) ⟨0, by omega, fun m s hm => by omega⟩ (fun a w H => H.weaken ⟨rfl, rfl, rfl, rfl, rfl, rfl, rfl, rfl, rfl, rfl, trivial⟩ ⟨rfl, by simp [entP]; rfl, trivial⟩) ?_
    rintro ⟨j, hj, hprei⟩
    dsimp only
    (repeat (first | with_reducible refine aC_seq ?_ | with_reducible refine aC_block ?_ | with_reducible refine aN_then ?_ | with_reducible refine aN_block ?_ | with_reducible refine aC_skip ?_ | with_reducible refine aC_exit ?_ | with_reducible refine aX_then ?_ | with_reducible refine aX_block ?_ | with_reducible refine aX_other rfl ?_ | with_reducible refine aC_ret ?_ | with_reducible refine aR_then ?_ | with_reducible refine aR_block ?_))
    (refine aC_region ?_
      <;> refine aL_x 23 rfl rfl (Nat.le_of_ble_eq_true rfl) (y_lss rfl rfl rfl) ?_
      <;> refine aL_end ?_
      <;> (repeat (first | with_reducible refine aC_seq ?_ | with_reducible refine aC_block ?_ | with_reducible refine aN_then ?_ | with_reducible refine aN_block ?_ | with_reducible refine aC_skip ?_ | with_reducible refine aC_exit ?_ | with_reducible refine aX_then ?_ | with_reducible refine aX_block ?_ | with_reducible refine aX_other rfl ?_ | with_reducible refine aC_ret ?_ | with_reducible refine aR_then ?_ | with_reducible refine aR_block ?_)) <;> (try dsimp only))
    refine aC_cond rfl ?_ ?_
    · intro hb2
      have hltj : j < p.length := by have := of_decide_eq_true hb2; omega
      obtain ⟨s, hsj⟩ := get_some hltj
      have e2 := map_at (f := pStr) hsj
      have hss := hpm s (List.mem_of_getElem? hsj)
      have hy : 0 < j → ∃ y, p[j - 1]? = some y ∧ (p.map pStr)[j - 1]? = some (pStr y) := fun h0 => by
        obtain ⟨y, hy⟩ := get_some (show j - 1 < p.length by omega)
        exact ⟨y, hy, by rw [List.getElem?_map, hy]; rfl⟩
      have hmg := mget_skv (entries 0 (c.parts.take k) ++ entP k (p.take j)) s
      have hsome := aget_two (c.parts.take k) (p.take j) s k
      (repeat (first | with_reducible refine aC_seq ?_ | with_reducible refine aC_block ?_ | with_reducible refine aN_then ?_ | with_reducible refine aN_block ?_ | with_reducible refine aC_skip ?_ | with_reducible refine aC_exit ?_ | with_reducible refine aX_then ?_ | with_reducible refine aX_block ?_ | with_reducible refine aX_other rfl ?_ | with_reducible refine aC_ret ?_ | with_reducible refine aR_then ?_ | with_reducible refine aR_block ?_))
      (refine aC_region ?_
        <;> refine aL_x 24 rfl rfl (Nat.le_of_ble_eq_true rfl) (y_move rfl rfl) ?_
        <;> (first | refine aL_x 25 rfl rfl (Nat.le_of_ble_eq_true rfl) (y_idx_shrN tSl38_EwC rfl rfl rfl (by first | omega | (try simp only [List.length_cons, List.length_nil, List.length_map, List.length_set, List.length_append, List.length_replicate, List.length_singleton, List.flatMap_cons, List.flatMap_nil]; omega))) ?_ | refine aL_x 25 rfl rfl (Nat.le_of_ble_eq_true rfl) (y_idx_ownN 1 tSl38_EwC rfl rfl rfl rfl (by first | omega | (try simp only [List.length_cons, List.length_nil, List.length_map, List.length_set, List.length_append, List.length_replicate, List.length_singleton, List.flatMap_cons, List.flatMap_nil]; omega))) ?_ | refine aL_x 25 rfl rfl (Nat.le_of_ble_eq_true rfl) (y_idx_ownN 11 tSl38_EwC rfl rfl rfl rfl (by first | omega | (try simp only [List.length_cons, List.length_nil, List.length_map, List.length_set, List.length_append, List.length_replicate, List.length_singleton, List.flatMap_cons, List.flatMap_nil]; omega))) ?_ | refine aL_x 25 rfl rfl (Nat.le_of_ble_eq_true rfl) (y_idx_shr tSl38_EwC rfl rfl rfl (by first | omega | (try simp only [List.length_cons, List.length_nil, List.length_map, List.length_set, List.length_append, List.length_replicate, List.length_singleton, List.flatMap_cons, List.flatMap_nil]; omega)) (by first | omega | (try simp only [List.length_cons, List.length_nil, List.length_map, List.length_set, List.length_append, List.length_replicate, List.length_singleton, List.flatMap_cons, List.flatMap_nil]; omega))) ?_ | refine aL_x 25 rfl rfl (Nat.le_of_ble_eq_true rfl) (y_idx_own 1 tSl38_EwC rfl rfl rfl rfl (by first | omega | (try simp only [List.length_cons, List.length_nil, List.length_map, List.length_set, List.length_append, List.length_replicate, List.length_singleton, List.flatMap_cons, List.flatMap_nil]; omega)) (by first | omega | (try simp only [List.length_cons, List.length_nil, List.length_map, List.length_set, List.length_append, List.length_replicate, List.length_singleton, List.flatMap_cons, List.flatMap_nil]; omega))) ?_ | refine aL_x 25 rfl rfl (Nat.le_of_ble_eq_true rfl) (y_idx_own 11 tSl38_EwC rfl rfl rfl rfl (by first | omega | (try simp only [List.length_cons, List.length_nil, List.length_map, List.length_set, List.length_append, List.length_replicate, List.length_singleton, List.flatMap_cons, List.flatMap_nil]; omega)) (by first | omega | (try simp only [List.length_cons, List.length_nil, List.length_map, List.length_set, List.length_append, List.length_replicate, List.length_singleton, List.flatMap_cons, List.flatMap_nil]; omega))) ?_)
        <;> (first | (refine aL_y 26 rfl rfl (Nat.le_of_ble_eq_true rfl) (y_ld_shr tNa9_EwC rfl rfl rfl) ?_; intro v26 hv26; cases hv26) | (refine aL_y 26 rfl rfl (Nat.le_of_ble_eq_true rfl) (y_ld_own 1 tNa9_EwC rfl rfl rfl rfl rfl) ?_; intro v26 hv26; cases hv26) | (refine aL_y 26 rfl rfl (Nat.le_of_ble_eq_true rfl) (y_ld_own 11 tNa9_EwC rfl rfl rfl rfl rfl) ?_; intro v26 hv26; cases hv26) | (refine aL_y 26 rfl rfl (Nat.le_of_ble_eq_true rfl) (y_ld_shr tNa9_EwC rfl rfl (by assumption)) ?_; intro v26 hv26; cases hv26) | (refine aL_y 26 rfl rfl (Nat.le_of_ble_eq_true rfl) (y_ld_own 1 tNa9_EwC rfl rfl rfl (by assumption) rfl) ?_; intro v26 hv26; cases hv26) | (refine aL_y 26 rfl rfl (Nat.le_of_ble_eq_true rfl) (y_ld_own 11 tNa9_EwC rfl rfl rfl (by assumption) rfl) ?_; intro v26 hv26; cases hv26))
        <;> refine aL_x 7 rfl rfl (Nat.le_of_ble_eq_true rfl) (y_assign rfl rfl) ?_
        <;> refine aL_x 8 rfl rfl (Nat.le_of_ble_eq_true rfl) (y_assign rfl rfl) ?_
        <;> refine aL_end ?_
        <;> (repeat (first | with_reducible refine aC_seq ?_ | with_reducible refine aC_block ?_ | with_reducible refine aN_then ?_ | with_reducible refine aN_block ?_ | with_reducible refine aC_skip ?_ | with_reducible refine aC_exit ?_ | with_reducible refine aX_then ?_ | with_reducible refine aX_block ?_ | with_reducible refine aX_other rfl ?_ | with_reducible refine aC_ret ?_ | with_reducible refine aR_then ?_ | with_reducible refine aR_block ?_)) <;> (try dsimp only))
      (refine aC_region ?_
        <;> refine aL_x 28 rfl rfl (Nat.le_of_ble_eq_true rfl) (y_move rfl rfl) ?_
        <;> refine aL_x 29 rfl rfl (Nat.le_of_ble_eq_true rfl) (y_move rfl rfl) ?_
        <;> (first | refine aL_x 30 rfl rfl (Nat.le_of_ble_eq_true rfl) (y_look_s2 tMp47_EwC rfl rfl rfl (by first | exact kok_skv _ _ | exact kok_ikv _ _ | exact kok_nil _ _ | assumption)) ?_ | refine aL_x 30 rfl rfl (Nat.le_of_ble_eq_true rfl) (y_look_o2 1 tMp47_EwC rfl rfl rfl rfl (by first | exact kok_skv _ _ | exact kok_ikv _ _ | exact kok_nil _ _ | assumption)) ?_ | refine aL_x 30 rfl rfl (Nat.le_of_ble_eq_true rfl) (y_look_o2 11 tMp47_EwC rfl rfl rfl rfl (by first | exact kok_skv _ _ | exact kok_ikv _ _ | exact kok_nil _ _ | assumption)) ?_)
        <;> refine aL_x 27 rfl rfl (Nat.le_of_ble_eq_true rfl) (y_move rfl rfl) ?_
        <;> refine aL_x 31 rfl rfl (Nat.le_of_ble_eq_true rfl) (y_extract rfl rfl rfl rfl) ?_
        <;> refine aL_x 32 rfl rfl (Nat.le_of_ble_eq_true rfl) (y_extract rfl rfl rfl rfl) ?_
        <;> refine aL_x 9 rfl rfl (Nat.le_of_ble_eq_true rfl) (y_assign rfl rfl) ?_
        <;> refine aL_x 10 rfl rfl (Nat.le_of_ble_eq_true rfl) (y_assign rfl rfl) ?_
        <;> refine aL_end ?_
        <;> (repeat (first | with_reducible refine aC_seq ?_ | with_reducible refine aC_block ?_ | with_reducible refine aN_then ?_ | with_reducible refine aN_block ?_ | with_reducible refine aC_skip ?_ | with_reducible refine aC_exit ?_ | with_reducible refine aX_then ?_ | with_reducible refine aX_block ?_ | with_reducible refine aX_other rfl ?_ | with_reducible refine aC_ret ?_ | with_reducible refine aR_then ?_ | with_reducible refine aR_block ?_)) <;> (try dsimp only))
      (refine aC_region ?_
        <;> refine aL_x 33 rfl rfl (Nat.le_of_ble_eq_true rfl) (y_move rfl rfl) ?_
        <;> refine aL_x 34 rfl rfl (Nat.le_of_ble_eq_true rfl) (y_move rfl rfl) ?_
        <;> (first | refine aL_skip 35 rfl rfl (Nat.le_of_ble_eq_true rfl) ?_ | refine aL_x 35 rfl rfl (Nat.le_of_ble_eq_true rfl) (y_move rfl rfl) ?_ | ((refine aL_bcase 34 rfl ?_ ?_ <;> intro hb34 <;> (first | replace hb34 := of_decide_eq_true hb34 | replace hb34 := of_decide_eq_false hb34 | skip)) <;> (first | refine aL_skip 35 rfl rfl (Nat.le_of_ble_eq_true rfl) ?_ | refine aL_x 35 rfl rfl (Nat.le_of_ble_eq_true rfl) (y_move rfl rfl) ?_)))
        <;> (first | refine aL_skip 36 rfl rfl (Nat.le_of_ble_eq_true rfl) ?_ | (refine aL_cs 36 rfl rfl (Nat.le_of_ble_eq_true rfl) (callA rfl (Try.call37) rfl (isName_e s hss)) ?_; rintro p' rfl; refine ⟨rfl, ?_⟩; intro v36 hv36; cases hv36) | ((refine aL_bcase 34 rfl ?_ ?_ <;> intro hb34 <;> (first | replace hb34 := of_decide_eq_true hb34 | replace hb34 := of_decide_eq_false hb34 | skip)) <;> (first | refine aL_skip 36 rfl rfl (Nat.le_of_ble_eq_true rfl) ?_ | (refine aL_cs 36 rfl rfl (Nat.le_of_ble_eq_true rfl) (callA rfl (Try.call37) rfl (isName_e s hss)) ?_; rintro p' rfl; refine ⟨rfl, ?_⟩; intro v36 hv36; cases hv36))))
        <;> (first | refine aL_skip 37 rfl rfl (Nat.le_of_ble_eq_true rfl) ?_ | refine aL_x 37 rfl rfl (Nat.le_of_ble_eq_true rfl) (y_not rfl rfl) ?_ | ((refine aL_bcase 34 rfl ?_ ?_ <;> intro hb34 <;> (first | replace hb34 := of_decide_eq_true hb34 | replace hb34 := of_decide_eq_false hb34 | skip)) <;> (first | refine aL_skip 37 rfl rfl (Nat.le_of_ble_eq_true rfl) ?_ | refine aL_x 37 rfl rfl (Nat.le_of_ble_eq_true rfl) (y_not rfl rfl) ?_)))
        <;> (first | refine aL_x 38 rfl rfl (Nat.le_of_ble_eq_true rfl) (y_pick rfl rfl rfl) ?_ | ((refine aL_bcase 34 rfl ?_ ?_ <;> intro hb34 <;> (first | replace hb34 := of_decide_eq_true hb34 | replace hb34 := of_decide_eq_false hb34 | skip)) <;> refine aL_x 38 rfl rfl (Nat.le_of_ble_eq_true rfl) (y_pick rfl rfl rfl) ?_))
        <;> refine aL_x 39 rfl rfl (Nat.le_of_ble_eq_true rfl) (y_move rfl rfl) ?_
        <;> (first | refine aL_skip 40 rfl rfl (Nat.le_of_ble_eq_true rfl) ?_ | refine aL_x 40 rfl rfl (Nat.le_of_ble_eq_true rfl) (y_move rfl rfl) ?_ | ((refine aL_bcase 39 rfl ?_ ?_ <;> intro hb39 <;> (first | replace hb39 := of_decide_eq_true hb39 | replace hb39 := of_decide_eq_false hb39 | skip)) <;> (first | refine aL_skip 40 rfl rfl (Nat.le_of_ble_eq_true rfl) ?_ | refine aL_x 40 rfl rfl (Nat.le_of_ble_eq_true rfl) (y_move rfl rfl) ?_)))
        <;> (first | refine aL_skip 41 rfl rfl (Nat.le_of_ble_eq_true rfl) ?_ | refine aL_x 41 rfl rfl (Nat.le_of_ble_eq_true rfl) (y_gtr rfl rfl rfl) ?_ | ((refine aL_bcase 39 rfl ?_ ?_ <;> intro hb39 <;> (first | replace hb39 := of_decide_eq_true hb39 | replace hb39 := of_decide_eq_false hb39 | skip)) <;> (first | refine aL_skip 41 rfl rfl (Nat.le_of_ble_eq_true rfl) ?_ | refine aL_x 41 rfl rfl (Nat.le_of_ble_eq_true rfl) (y_gtr rfl rfl rfl) ?_)))
        <;> (first | refine aL_skip 42 rfl rfl (Nat.le_of_ble_eq_true rfl) ?_ | refine aL_x 42 rfl rfl (Nat.le_of_ble_eq_true rfl) (y_move rfl rfl) ?_ | ((refine aL_bcase 39 rfl ?_ ?_ <;> intro hb39 <;> (first | replace hb39 := of_decide_eq_true hb39 | replace hb39 := of_decide_eq_false hb39 | skip)) <;> (first | refine aL_skip 42 rfl rfl (Nat.le_of_ble_eq_true rfl) ?_ | refine aL_x 42 rfl rfl (Nat.le_of_ble_eq_true rfl) (y_move rfl rfl) ?_)))
        <;> (first | refine aL_skip 43 rfl rfl (Nat.le_of_ble_eq_true rfl) ?_ | refine aL_x 43 rfl rfl (Nat.le_of_ble_eq_true rfl) (y_move rfl rfl) ?_ | ((refine aL_bcase 42 rfl ?_ ?_ <;> intro hb42 <;> (first | replace hb42 := of_decide_eq_true hb42 | replace hb42 := of_decide_eq_false hb42 | skip)) <;> (first | refine aL_skip 43 rfl rfl (Nat.le_of_ble_eq_true rfl) ?_ | refine aL_x 43 rfl rfl (Nat.le_of_ble_eq_true rfl) (y_move rfl rfl) ?_)))
        <;> (first | refine aL_skip 44 rfl rfl (Nat.le_of_ble_eq_true rfl) ?_ | refine aL_x 44 rfl rfl (Nat.le_of_ble_eq_true rfl) (y_move rfl rfl) ?_ | ((refine aL_bcase 42 rfl ?_ ?_ <;> intro hb42 <;> (first | replace hb42 := of_decide_eq_true hb42 | replace hb42 := of_decide_eq_false hb42 | skip)) <;> (first | refine aL_skip 44 rfl rfl (Nat.le_of_ble_eq_true rfl) ?_ | refine aL_x 44 rfl rfl (Nat.le_of_ble_eq_true rfl) (y_move rfl rfl) ?_)))
        <;> (first | refine aL_skip 45 rfl rfl (Nat.le_of_ble_eq_true rfl) ?_ | refine aL_x 45 rfl rfl (Nat.le_of_ble_eq_true rfl) (y_sub rfl rfl rfl (by first | omega | (try simp only [List.length_cons, List.length_nil, List.length_map, List.length_set, List.length_append, List.length_replicate, List.length_singleton, List.flatMap_cons, List.flatMap_nil]; omega)) (by first | omega | (try simp only [List.length_cons, List.length_nil, List.length_map, List.length_set, List.length_append, List.length_replicate, List.length_singleton, List.flatMap_cons, List.flatMap_nil]; omega))) ?_ | ((refine aL_bcase 42 rfl ?_ ?_ <;> intro hb42 <;> (first | replace hb42 := of_decide_eq_true hb42 | replace hb42 := of_decide_eq_false hb42 | skip)) <;> (first | refine aL_skip 45 rfl rfl (Nat.le_of_ble_eq_true rfl) ?_ | refine aL_x 45 rfl rfl (Nat.le_of_ble_eq_true rfl) (y_sub rfl rfl rfl (by first | omega | (try simp only [List.length_cons, List.length_nil, List.length_map, List.length_set, List.length_append, List.length_replicate, List.length_singleton, List.flatMap_cons, List.flatMap_nil]; omega)) (by first | omega | (try simp only [List.length_cons, List.length_nil, List.length_map, List.length_set, List.length_append, List.length_replicate, List.length_singleton, List.flatMap_cons, List.flatMap_nil]; omega))) ?_)))
        <;> (first | refine aL_skip 46 rfl rfl (Nat.le_of_ble_eq_true rfl) ?_ | refine aL_x 46 rfl rfl (Nat.le_of_ble_eq_true rfl) (y_idx_shrN tSl38_EwC rfl rfl rfl (by first | omega | (try simp only [List.length_cons, List.length_nil, List.length_map, List.length_set, List.length_append, List.length_replicate, List.length_singleton, List.flatMap_cons, List.flatMap_nil]; omega))) ?_ | refine aL_x 46 rfl rfl (Nat.le_of_ble_eq_true rfl) (y_idx_ownN 1 tSl38_EwC rfl rfl rfl rfl (by first | omega | (try simp only [List.length_cons, List.length_nil, List.length_map, List.length_set, List.length_append, List.length_replicate, List.length_singleton, List.flatMap_cons, List.flatMap_nil]; omega))) ?_ | refine aL_x 46 rfl rfl (Nat.le_of_ble_eq_true rfl) (y_idx_ownN 11 tSl38_EwC rfl rfl rfl rfl (by first | omega | (try simp only [List.length_cons, List.length_nil, List.length_map, List.length_set, List.length_append, List.length_replicate, List.length_singleton, List.flatMap_cons, List.flatMap_nil]; omega))) ?_ | refine aL_x 46 rfl rfl (Nat.le_of_ble_eq_true rfl) (y_idx_shr tSl38_EwC rfl rfl rfl (by first | omega | (try simp only [List.length_cons, List.length_nil, List.length_map, List.length_set, List.length_append, List.length_replicate, List.length_singleton, List.flatMap_cons, List.flatMap_nil]; omega)) (by first | omega | (try simp only [List.length_cons, List.length_nil, List.length_map, List.length_set, List.length_append, List.length_replicate, List.length_singleton, List.flatMap_cons, List.flatMap_nil]; omega))) ?_ | refine aL_x 46 rfl rfl (Nat.le_of_ble_eq_true rfl) (y_idx_own 1 tSl38_EwC rfl rfl rfl rfl (by first | omega | (try simp only [List.length_cons, List.length_nil, List.length_map, List.length_set, List.length_append, List.length_replicate, List.length_singleton, List.flatMap_cons, List.flatMap_nil]; omega)) (by first | omega | (try simp only [List.length_cons, List.length_nil, List.length_map, List.length_set, List.length_append, List.length_replicate, List.length_singleton, List.flatMap_cons, List.flatMap_nil]; omega))) ?_ | refine aL_x 46 rfl rfl (Nat.le_of_ble_eq_true rfl) (y_idx_own 11 tSl38_EwC rfl rfl rfl rfl (by first | omega | (try simp only [List.length_cons, List.length_nil, List.length_map, List.length_set, List.length_append, List.length_replicate, List.length_singleton, List.flatMap_cons, List.flatMap_nil]; omega)) (by first | omega | (try simp only [List.length_cons, List.length_nil, List.length_map, List.length_set, List.length_append, List.length_replicate, List.length_singleton, List.flatMap_cons, List.flatMap_nil]; omega))) ?_ | ((refine aL_bcase 42 rfl ?_ ?_ <;> intro hb42 <;> (first | replace hb42 := of_decide_eq_true hb42 | replace hb42 := of_decide_eq_false hb42 | skip)) <;> (first | refine aL_skip 46 rfl rfl (Nat.le_of_ble_eq_true rfl) ?_ | refine aL_x 46 rfl rfl (Nat.le_of_ble_eq_true rfl) (y_idx_shrN tSl38_EwC rfl rfl rfl (by first | omega | (try simp only [List.length_cons, List.length_nil, List.length_map, List.length_set, List.length_append, List.length_replicate, List.length_singleton, List.flatMap_cons, List.flatMap_nil]; omega))) ?_ | refine aL_x 46 rfl rfl (Nat.le_of_ble_eq_true rfl) (y_idx_ownN 1 tSl38_EwC rfl rfl rfl rfl (by first | omega | (try simp only [List.length_cons, List.length_nil, List.length_map, List.length_set, List.length_append, List.length_replicate, List.length_singleton, List.flatMap_cons, List.flatMap_nil]; omega))) ?_ | refine aL_x 46 rfl rfl (Nat.le_of_ble_eq_true rfl) (y_idx_ownN 11 tSl38_EwC rfl rfl rfl rfl (by first | omega | (try simp only [List.length_cons, List.length_nil, List.length_map, List.length_set, List.length_append, List.length_replicate, List.length_singleton, List.flatMap_cons, List.flatMap_nil]; omega))) ?_ | refine aL_x 46 rfl rfl (Nat.le_of_ble_eq_true rfl) (y_idx_shr tSl38_EwC rfl rfl rfl (by first | omega | (try simp only [List.length_cons, List.length_nil, List.length_map, List.length_set, List.length_append, List.length_replicate, List.length_singleton, List.flatMap_cons, List.flatMap_nil]; omega)) (by first | omega | (try simp only [List.length_cons, List.length_nil, List.length_map, List.length_set, List.length_append, List.length_replicate, List.length_singleton, List.flatMap_cons, List.flatMap_nil]; omega))) ?_ | refine aL_x 46 rfl rfl (Nat.le_of_ble_eq_true rfl) (y_idx_own 1 tSl38_EwC rfl rfl rfl rfl (by first | omega | (try simp only [List.length_cons, List.length_nil, List.length_map, List.length_set, List.length_append, List.length_replicate, List.length_singleton, List.flatMap_cons, List.flatMap_nil]; omega)) (by first | omega | (try simp only [List.length_cons, List.length_nil, List.length_map, List.length_set, List.length_append, List.length_replicate, List.length_singleton, List.flatMap_cons, List.flatMap_nil]; omega))) ?_ | refine aL_x 46 rfl rfl (Nat.le_of_ble_eq_true rfl) (y_idx_own 11 tSl38_EwC rfl rfl rfl rfl (by first | omega | (try simp only [List.length_cons, List.length_nil, List.length_map, List.length_set, List.length_append, List.length_replicate, List.length_singleton, List.flatMap_cons, List.flatMap_nil]; omega)) (by first | omega | (try simp only [List.length_cons, List.length_nil, List.length_map, List.length_set, List.length_append, List.length_replicate, List.length_singleton, List.flatMap_cons, List.flatMap_nil]; omega))) ?_)))
        <;> (first | refine aL_skip 47 rfl rfl (Nat.le_of_ble_eq_true rfl) ?_ | (refine (hy (by omega)).elim fun y hy12 => ?_; refine aL_y 47 rfl rfl (Nat.le_of_ble_eq_true rfl) (y_ld_shrI (j - 1) tNa9_EwC rfl rfl (by omega) hy12.2) ?_; intro v47 hv47; cases hv47) | ((refine aL_bcase 42 rfl ?_ ?_ <;> intro hb42 <;> (first | replace hb42 := of_decide_eq_true hb42 | replace hb42 := of_decide_eq_false hb42 | skip)) <;> (first | refine aL_skip 47 rfl rfl (Nat.le_of_ble_eq_true rfl) ?_ | (refine (hy (by omega)).elim fun y hy12 => ?_; refine aL_y 47 rfl rfl (Nat.le_of_ble_eq_true rfl) (y_ld_shrI (j - 1) tNa9_EwC rfl rfl (by omega) hy12.2) ?_; intro v47 hv47; cases hv47))))
        <;> (first | refine aL_skip 48 rfl rfl (Nat.le_of_ble_eq_true rfl) ?_ | refine aL_x 48 rfl rfl (Nat.le_of_ble_eq_true rfl) (y_move rfl rfl) ?_ | ((refine aL_bcase 42 rfl ?_ ?_ <;> intro hb42 <;> (first | replace hb42 := of_decide_eq_true hb42 | replace hb42 := of_decide_eq_false hb42 | skip)) <;> (first | refine aL_skip 48 rfl rfl (Nat.le_of_ble_eq_true rfl) ?_ | refine aL_x 48 rfl rfl (Nat.le_of_ble_eq_true rfl) (y_move rfl rfl) ?_)))
        <;> (first | refine aL_skip 49 rfl rfl (Nat.le_of_ble_eq_true rfl) ?_ | refine aL_x 49 rfl rfl (Nat.le_of_ble_eq_true rfl) (y_sgeq rfl rfl rfl) ?_ | ((refine aL_bcase 42 rfl ?_ ?_ <;> intro hb42 <;> (first | replace hb42 := of_decide_eq_true hb42 | replace hb42 := of_decide_eq_false hb42 | skip)) <;> (first | refine aL_skip 49 rfl rfl (Nat.le_of_ble_eq_true rfl) ?_ | refine aL_x 49 rfl rfl (Nat.le_of_ble_eq_true rfl) (y_sgeq rfl rfl rfl) ?_)))
        <;> (first | refine aL_skip 50 rfl rfl (Nat.le_of_ble_eq_true rfl) ?_ | refine aL_x 50 rfl rfl (Nat.le_of_ble_eq_true rfl) (y_pick rfl rfl rfl) ?_ | ((refine aL_bcase 42 rfl ?_ ?_ <;> intro hb42 <;> (first | replace hb42 := of_decide_eq_true hb42 | replace hb42 := of_decide_eq_false hb42 | skip)) <;> refine aL_x 50 rfl rfl (Nat.le_of_ble_eq_true rfl) (y_pick rfl rfl rfl) ?_) | ((refine aL_bcase 39 rfl ?_ ?_ <;> intro hb39 <;> (first | replace hb39 := of_decide_eq_true hb39 | replace hb39 := of_decide_eq_false hb39 | skip)) <;> (first | refine aL_skip 50 rfl rfl (Nat.le_of_ble_eq_true rfl) ?_ | refine aL_x 50 rfl rfl (Nat.le_of_ble_eq_true rfl) (y_pick rfl rfl rfl) ?_ | ((refine aL_bcase 42 rfl ?_ ?_ <;> intro hb42 <;> (first | replace hb42 := of_decide_eq_true hb42 | replace hb42 := of_decide_eq_false hb42 | skip)) <;> refine aL_x 50 rfl rfl (Nat.le_of_ble_eq_true rfl) (y_pick rfl rfl rfl) ?_))))
        <;> (first | refine aL_x 51 rfl rfl (Nat.le_of_ble_eq_true rfl) (y_pick rfl rfl rfl) ?_ | ((refine aL_bcase 39 rfl ?_ ?_ <;> intro hb39 <;> (first | replace hb39 := of_decide_eq_true hb39 | replace hb39 := of_decide_eq_false hb39 | skip)) <;> refine aL_x 51 rfl rfl (Nat.le_of_ble_eq_true rfl) (y_pick rfl rfl rfl) ?_))
        <;> refine aL_end ?_
        <;> (repeat (first | with_reducible refine aC_seq ?_ | with_reducible refine aC_block ?_ | with_reducible refine aN_then ?_ | with_reducible refine aN_block ?_ | with_reducible refine aC_skip ?_ | with_reducible refine aC_exit ?_ | with_reducible refine aX_then ?_ | with_reducible refine aX_block ?_ | with_reducible refine aX_other rfl ?_ | with_reducible refine aC_ret ?_ | with_reducible refine aR_then ?_ | with_reducible refine aR_block ?_)) <;> (try dsimp only))
      · -- known already
        have hF : formedB c = false := formed_no (by
          rw [hpre, HD, part_bad hsj (fun h => by have := h.1; rw [← hsome, ← hmg, hb34] at this; cases this)]; rfl)
        refine aC_cond rfl ?_ (fun h => by cases h)
        intro _
        (repeat (first | with_reducible refine aC_seq ?_ | with_reducible refine aC_block ?_ | with_reducible refine aN_then ?_ | with_reducible refine aN_block ?_ | with_reducible refine aC_skip ?_ | with_reducible refine aC_exit ?_ | with_reducible refine aX_then ?_ | with_reducible refine aX_block ?_ | with_reducible refine aX_other rfl ?_ | with_reducible refine aC_ret ?_ | with_reducible refine aR_then ?_ | with_reducible refine aR_block ?_))
        (refine aC_region ?_
          <;> refine aL_x 2 rfl rfl (Nat.le_of_ble_eq_true rfl) (y_assign rfl rfl) ?_
          <;> refine aL_x 3 rfl rfl (Nat.le_of_ble_eq_true rfl) (y_assign rfl rfl) ?_
          <;> refine aL_end ?_
          <;> (repeat (first | with_reducible refine aC_seq ?_ | with_reducible refine aC_block ?_ | with_reducible refine aN_then ?_ | with_reducible refine aN_block ?_ | with_reducible refine aC_skip ?_ | with_reducible refine aC_exit ?_ | with_reducible refine aX_then ?_ | with_reducible refine aX_block ?_ | with_reducible refine aX_other rfl ?_ | with_reducible refine aC_ret ?_ | with_reducible refine aR_then ?_ | with_reducible refine aR_block ?_)) <;> (try dsimp only))
        exact ret_ss (Try.results19) rfl rfl (rparts_no hF)
      · -- no name
        have hF : formedB c = false := formed_no (by
          rw [hpre, HD, part_bad hsj (fun h => by have := h.2.1; rw [this] at hb39; cases hb39)]; rfl)
        refine aC_cond rfl ?_ (fun h => by cases h)
        intro _
        (repeat (first | with_reducible refine aC_seq ?_ | with_reducible refine aC_block ?_ | with_reducible refine aN_then ?_ | with_reducible refine aN_block ?_ | with_reducible refine aC_skip ?_ | with_reducible refine aC_exit ?_ | with_reducible refine aX_then ?_ | with_reducible refine aX_block ?_ | with_reducible refine aX_other rfl ?_ | with_reducible refine aC_ret ?_ | with_reducible refine aR_then ?_ | with_reducible refine aR_block ?_))
        (refine aC_region ?_
          <;> refine aL_x 2 rfl rfl (Nat.le_of_ble_eq_true rfl) (y_assign rfl rfl) ?_
          <;> refine aL_x 3 rfl rfl (Nat.le_of_ble_eq_true rfl) (y_assign rfl rfl) ?_
          <;> refine aL_end ?_
          <;> (repeat (first | with_reducible refine aC_seq ?_ | with_reducible refine aC_block ?_ | with_reducible refine aN_then ?_ | with_reducible refine aN_block ?_ | with_reducible refine aC_skip ?_ | with_reducible refine aC_exit ?_ | with_reducible refine aX_then ?_ | with_reducible refine aX_block ?_ | with_reducible refine aX_other rfl ?_ | with_reducible refine aC_ret ?_ | with_reducible refine aR_then ?_ | with_reducible refine aR_block ?_)) <;> (try dsimp only))
        exact ret_ss (Try.results19) rfl rfl (rparts_no hF)
      · refine aC_cond rfl ?_ ?_
        · intro hb3
          have hF : formedB c = false := formed_no (by
            rw [hpre, HD, part_bad hsj (fun h => by
              have := h.2.2 y (by omega) hy12.1
              unfold strLt at this
              rw [this] at hb3; cases hb3)]; rfl)
          (repeat (first | with_reducible refine aC_seq ?_ | with_reducible refine aC_block ?_ | with_reducible refine aN_then ?_ | with_reducible refine aN_block ?_ | with_reducible refine aC_skip ?_ | with_reducible refine aC_exit ?_ | with_reducible refine aX_then ?_ | with_reducible refine aX_block ?_ | with_reducible refine aX_other rfl ?_ | with_reducible refine aC_ret ?_ | with_reducible refine aR_then ?_ | with_reducible refine aR_block ?_))
          (refine aC_region ?_
            <;> refine aL_x 2 rfl rfl (Nat.le_of_ble_eq_true rfl) (y_assign rfl rfl) ?_
            <;> refine aL_x 3 rfl rfl (Nat.le_of_ble_eq_true rfl) (y_assign rfl rfl) ?_
            <;> refine aL_end ?_
            <;> (repeat (first | with_reducible refine aC_seq ?_ | with_reducible refine aC_block ?_ | with_reducible refine aN_then ?_ | with_reducible refine aN_block ?_ | with_reducible refine aC_skip ?_ | with_reducible refine aC_exit ?_ | with_reducible refine aX_then ?_ | with_reducible refine aX_block ?_ | with_reducible refine aX_other rfl ?_ | with_reducible refine aC_ret ?_ | with_reducible refine aR_then ?_ | with_reducible refine aR_block ?_)) <;> (try dsimp only))
          exact ret_ss (Try.results19) rfl rfl (rparts_no hF)
        · intro hb3
          have hok : wordOk (c.parts.take k).flatten p j s := ⟨by rw [← hsome, ← hmg]; exact hb34, by cases h : isName s <;> simp_all, fun y' _ hy' => by
            rw [hy12.1] at hy'; cases hy'
            unfold strLt
            cases h : Op.bytesLess y.toList s.toList
            · rw [h] at hb3; cases hb3
            · rfl⟩
          have hput : mput (skv (entries 0 (c.parts.take k) ++ entP k (p.take j))) (.string s) (.int .i64 (k : Int)) = skv (entries 0 (c.parts.take k) ++ entP k (p.take (j + 1))) := by
            rw [mput_skv, aput_fresh (by rw [← mget_skv]; cases h : mget (skv (entries 0 (c.parts.take k) ++ entP k (p.take j))) (.string s) with | none => rfl | some _ => rw [h] at hb34; cases hb34), List.append_assoc, take_snoc hsj]
            congr 2
            simp [entP]
          (repeat (first | with_reducible refine aC_seq ?_ | with_reducible refine aC_block ?_ | with_reducible refine aN_then ?_ | with_reducible refine aN_block ?_ | with_reducible refine aC_skip ?_ | with_reducible refine aC_exit ?_ | with_reducible refine aX_then ?_ | with_reducible refine aX_block ?_ | with_reducible refine aX_other rfl ?_ | with_reducible refine aC_ret ?_ | with_reducible refine aR_then ?_ | with_reducible refine aR_block ?_))
          (refine aC_region ?_
            <;> refine aL_x 52 rfl rfl (Nat.le_of_ble_eq_true rfl) (y_move rfl rfl) ?_
            <;> refine aL_x 53 rfl rfl (Nat.le_of_ble_eq_true rfl) (y_move rfl rfl) ?_
            <;> refine aL_x 54 rfl rfl (Nat.le_of_ble_eq_true rfl) (y_move rfl rfl) ?_
            <;> (first | refine aL_mput 1 rfl rfl tMp47_EwC rfl rfl rfl rfl rfl (by first | exact kok_skv _ _ | exact kok_ikv _ _ | exact kok_nil _ _ | assumption) rfl ?_ | refine aL_mput 11 rfl rfl tMp47_EwC rfl rfl rfl rfl rfl (by first | exact kok_skv _ _ | exact kok_ikv _ _ | exact kok_nil _ _ | assumption) rfl ?_)
            <;> refine aL_end ?_
            <;> (repeat (first | with_reducible refine aC_seq ?_ | with_reducible refine aC_block ?_ | with_reducible refine aN_then ?_ | with_reducible refine aN_block ?_ | with_reducible refine aC_skip ?_ | with_reducible refine aC_exit ?_ | with_reducible refine aX_then ?_ | with_reducible refine aX_block ?_ | with_reducible refine aX_other rfl ?_ | with_reducible refine aC_ret ?_ | with_reducible refine aR_then ?_ | with_reducible refine aR_block ?_)) <;> (try dsimp only))
          (refine aC_region ?_
            <;> refine aL_x 55 rfl rfl (Nat.le_of_ble_eq_true rfl) (y_add rfl rfl rfl (by first | omega | (try simp only [List.length_cons, List.length_nil, List.length_map, List.length_set, List.length_append, List.length_replicate, List.length_singleton, List.flatMap_cons, List.flatMap_nil]; omega)) (by first | omega | (try simp only [List.length_cons, List.length_nil, List.length_map, List.length_set, List.length_append, List.length_replicate, List.length_singleton, List.flatMap_cons, List.flatMap_nil]; omega))) ?_
            <;> refine aL_x 22 rfl rfl (Nat.le_of_ble_eq_true rfl) (y_move rfl rfl) ?_
            <;> refine aL_end ?_
            <;> (repeat (first | with_reducible refine aC_seq ?_ | with_reducible refine aC_block ?_ | with_reducible refine aN_then ?_ | with_reducible refine aN_block ?_ | with_reducible refine aC_skip ?_ | with_reducible refine aC_exit ?_ | with_reducible refine aX_then ?_ | with_reducible refine aX_block ?_ | with_reducible refine aX_other rfl ?_ | with_reducible refine aC_ret ?_ | with_reducible refine aR_then ?_ | with_reducible refine aR_block ?_)) <;> (try dsimp only))
          refine aN_again ⟨j + 1, by omega, fun m s' hm hs' => ?_⟩ (by show p.length - (j + 1) < p.length - j; omega) ⟨rfl, rfl, rfl, rfl, rfl, rfl, rfl, rfl, rfl, rfl, trivial⟩ ⟨rfl, by show some _ = some _; rw [hput], trivial⟩
          by_cases e : m = j
          · subst e; rw [hsj] at hs'; cases hs'; exact hok
          · exact hprei m s' (by omega) hs'
      · refine aC_cond rfl (fun h => by cases h) ?_
        intro _
        have hok : wordOk (c.parts.take k).flatten p j s := ⟨by rw [← hsome, ← hmg]; exact hb34, by cases h : isName s <;> simp_all, fun y' h1 => by omega⟩
        have hput : mput (skv (entries 0 (c.parts.take k) ++ entP k (p.take j))) (.string s) (.int .i64 (k : Int)) = skv (entries 0 (c.parts.take k) ++ entP k (p.take (j + 1))) := by
          rw [mput_skv, aput_fresh (by rw [← mget_skv]; cases h : mget (skv (entries 0 (c.parts.take k) ++ entP k (p.take j))) (.string s) with | none => rfl | some _ => rw [h] at hb34; cases hb34), List.append_assoc, take_snoc hsj]
          congr 2
          simp [entP]
        (repeat (first | with_reducible refine aC_seq ?_ | with_reducible refine aC_block ?_ | with_reducible refine aN_then ?_ | with_reducible refine aN_block ?_ | with_reducible refine aC_skip ?_ | with_reducible refine aC_exit ?_ | with_reducible refine aX_then ?_ | with_reducible refine aX_block ?_ | with_reducible refine aX_other rfl ?_ | with_reducible refine aC_ret ?_ | with_reducible refine aR_then ?_ | with_reducible refine aR_block ?_))
        (refine aC_region ?_
          <;> refine aL_x 52 rfl rfl (Nat.le_of_ble_eq_true rfl) (y_move rfl rfl) ?_
          <;> refine aL_x 53 rfl rfl (Nat.le_of_ble_eq_true rfl) (y_move rfl rfl) ?_
          <;> refine aL_x 54 rfl rfl (Nat.le_of_ble_eq_true rfl) (y_move rfl rfl) ?_
          <;> (first | refine aL_mput 1 rfl rfl tMp47_EwC rfl rfl rfl rfl rfl (by first | exact kok_skv _ _ | exact kok_ikv _ _ | exact kok_nil _ _ | assumption) rfl ?_ | refine aL_mput 11 rfl rfl tMp47_EwC rfl rfl rfl rfl rfl (by first | exact kok_skv _ _ | exact kok_ikv _ _ | exact kok_nil _ _ | assumption) rfl ?_)
          <;> refine aL_end ?_
          <;> (repeat (first | with_reducible refine aC_seq ?_ | with_reducible refine aC_block ?_ | with_reducible refine aN_then ?_ | with_reducible refine aN_block ?_ | with_reducible refine aC_skip ?_ | with_reducible refine aC_exit ?_ | with_reducible refine aX_then ?_ | with_reducible refine aX_block ?_ | with_reducible refine aX_other rfl ?_ | with_reducible refine aC_ret ?_ | with_reducible refine aR_then ?_ | with_reducible refine aR_block ?_)) <;> (try dsimp only))
        (refine aC_region ?_
          <;> refine aL_x 55 rfl rfl (Nat.le_of_ble_eq_true rfl) (y_add rfl rfl rfl (by first | omega | (try simp only [List.length_cons, List.length_nil, List.length_map, List.length_set, List.length_append, List.length_replicate, List.length_singleton, List.flatMap_cons, List.flatMap_nil]; omega)) (by first | omega | (try simp only [List.length_cons, List.length_nil, List.length_map, List.length_set, List.length_append, List.length_replicate, List.length_singleton, List.flatMap_cons, List.flatMap_nil]; omega))) ?_
          <;> refine aL_x 22 rfl rfl (Nat.le_of_ble_eq_true rfl) (y_move rfl rfl) ?_
          <;> refine aL_end ?_
          <;> (repeat (first | with_reducible refine aC_seq ?_ | with_reducible refine aC_block ?_ | with_reducible refine aN_then ?_ | with_reducible refine aN_block ?_ | with_reducible refine aC_skip ?_ | with_reducible refine aC_exit ?_ | with_reducible refine aX_then ?_ | with_reducible refine aX_block ?_ | with_reducible refine aX_other rfl ?_ | with_reducible refine aC_ret ?_ | with_reducible refine aR_then ?_ | with_reducible refine aR_block ?_)) <;> (try dsimp only))
        refine aN_again ⟨j + 1, by omega, fun m s' hm hs' => ?_⟩ (by show p.length - (j + 1) < p.length - j; omega) ⟨rfl, rfl, rfl, rfl, rfl, rfl, rfl, rfl, rfl, rfl, trivial⟩ ⟨rfl, by show some _ = some _; rw [hput], trivial⟩
        by_cases e : m = j
        · subst e; rw [hsj] at hs'; cases hs'; exact hok
        · exact hprei m s' (by omega) hs'
    · intro hb2
      have hge : p.length ≤ j := by have := of_decide_eq_false hb2; omega
      (repeat (first | with_reducible refine aC_seq ?_ | with_reducible refine aC_block ?_ | with_reducible refine aN_then ?_ | with_reducible refine aN_block ?_ | with_reducible refine aC_skip ?_ | with_reducible refine aC_exit ?_ | with_reducible refine aX_then ?_ | with_reducible refine aX_block ?_ | with_reducible refine aX_other rfl ?_ | with_reducible refine aC_ret ?_ | with_reducible refine aR_then ?_ | with_reducible refine aR_block ?_))
      (refine aC_region ?_
        <;> refine aL_x 56 rfl rfl (Nat.le_of_ble_eq_true rfl) (y_move rfl rfl) ?_
        <;> (first | refine aL_x 57 rfl rfl (Nat.le_of_ble_eq_true rfl) (y_len_shr tSl38_EwC rfl rfl) ?_ | refine aL_x 57 rfl rfl (Nat.le_of_ble_eq_true rfl) (y_len_own 1 tSl38_EwC rfl rfl rfl) ?_ | refine aL_x 57 rfl rfl (Nat.le_of_ble_eq_true rfl) (y_len_own 11 tSl38_EwC rfl rfl rfl) ?_)
        <;> refine aL_x 58 rfl rfl (Nat.le_of_ble_eq_true rfl) (y_eql rfl rfl rfl) ?_
        <;> refine aL_end ?_
        <;> (repeat (first | with_reducible refine aC_seq ?_ | with_reducible refine aC_block ?_ | with_reducible refine aN_then ?_ | with_reducible refine aN_block ?_ | with_reducible refine aC_skip ?_ | with_reducible refine aC_exit ?_ | with_reducible refine aX_then ?_ | with_reducible refine aX_block ?_ | with_reducible refine aX_other rfl ?_ | with_reducible refine aC_ret ?_ | with_reducible refine aR_then ?_ | with_reducible refine aR_block ?_)) <;> (try dsimp only))
      refine aC_cond rfl ?_ ?_
      · intro hb3
        have h0 : p = [] := List.eq_nil_of_length_eq_zero (by have := of_decide_eq_true hb3; omega)
        have hF : formedB c = false := formed_no (by rw [hpre, HD, h0]; rfl)
        (repeat (first | with_reducible refine aC_seq ?_ | with_reducible refine aC_block ?_ | with_reducible refine aN_then ?_ | with_reducible refine aN_block ?_ | with_reducible refine aC_skip ?_ | with_reducible refine aC_exit ?_ | with_reducible refine aX_then ?_ | with_reducible refine aX_block ?_ | with_reducible refine aX_other rfl ?_ | with_reducible refine aC_ret ?_ | with_reducible refine aR_then ?_ | with_reducible refine aR_block ?_))
        (refine aC_region ?_
          <;> refine aL_x 2 rfl rfl (Nat.le_of_ble_eq_true rfl) (y_assign rfl rfl) ?_
          <;> refine aL_x 3 rfl rfl (Nat.le_of_ble_eq_true rfl) (y_assign rfl rfl) ?_
          <;> refine aL_end ?_
          <;> (repeat (first | with_reducible refine aC_seq ?_ | with_reducible refine aC_block ?_ | with_reducible refine aN_then ?_ | with_reducible refine aN_block ?_ | with_reducible refine aC_skip ?_ | with_reducible refine aC_exit ?_ | with_reducible refine aX_then ?_ | with_reducible refine aX_block ?_ | with_reducible refine aX_other rfl ?_ | with_reducible refine aC_ret ?_ | with_reducible refine aR_then ?_ | with_reducible refine aR_block ?_)) <;> (try dsimp only))
        exact ret_ss (Try.results19) rfl rfl (rparts_no hF)
      · intro hb3
        have h0 : p ≠ [] := fun h => by rw [h] at hb3; cases hb3
        have hok := (part_iff p (c.parts.take k).flatten).2 ⟨h0, fun m s hs' => hprei m s (by have := lt_of_get hs'; omega) hs'⟩
        have hent : entries 0 (c.parts.take k) ++ entP k (p.take j) = entries 0 (c.parts.take (k + 1)) := by
          rw [take_snoc hx, entries_snoc, List.take_of_length_le hge]
          congr 2
          simp; omega
        (repeat (first | with_reducible refine aC_seq ?_ | with_reducible refine aC_block ?_ | with_reducible refine aN_then ?_ | with_reducible refine aN_block ?_ | with_reducible refine aC_skip ?_ | with_reducible refine aC_exit ?_ | with_reducible refine aX_then ?_ | with_reducible refine aX_block ?_ | with_reducible refine aX_other rfl ?_ | with_reducible refine aC_ret ?_ | with_reducible refine aR_then ?_ | with_reducible refine aR_block ?_))
        (refine aC_region ?_
          <;> refine aL_x 59 rfl rfl (Nat.le_of_ble_eq_true rfl) (y_add rfl rfl rfl (by first | omega | (try simp only [List.length_cons, List.length_nil, List.length_map, List.length_set, List.length_append, List.length_replicate, List.length_singleton, List.flatMap_cons, List.flatMap_nil]; omega)) (by first | omega | (try simp only [List.length_cons, List.length_nil, List.length_map, List.length_set, List.length_append, List.length_replicate, List.length_singleton, List.flatMap_cons, List.flatMap_nil]; omega))) ?_
          <;> refine aL_x 15 rfl rfl (Nat.le_of_ble_eq_true rfl) (y_move rfl rfl) ?_
          <;> refine aL_end ?_
          <;> (repeat (first | with_reducible refine aC_seq ?_ | with_reducible refine aC_block ?_ | with_reducible refine aN_then ?_ | with_reducible refine aN_block ?_ | with_reducible refine aC_skip ?_ | with_reducible refine aC_exit ?_ | with_reducible refine aX_then ?_ | with_reducible refine aX_block ?_ | with_reducible refine aX_other rfl ?_ | with_reducible refine aC_ret ?_ | with_reducible refine aR_then ?_ | with_reducible refine aR_block ?_)) <;> (try dsimp only))
        exact aN_again ⟨k + 1, by omega, by rw [hpre, HD, hok]; rfl⟩ (by show c.parts.length - (k + 1) < c.parts.length - k; omega) ⟨rfl, rfl, rfl, rfl, rfl, trivial⟩ ⟨rfl, by show some _ = some _; rw [hent], trivial⟩
  · intro hb
    have hge : c.parts.length ≤ k := by have := of_decide_eq_false hb; omega
    have hgo : formedGo [] c.parts = true := by rw [hpre, List.drop_eq_nil_of_le hge]; rfl
    have hent : entries 0 (c.parts.take k) = entries 0 c.parts := by rw [List.take_of_length_le hge]
    have hret : ∀ t, t = formedB c → RParts c (.tup [.omap (skv (entries 0 (c.parts.take k))), pBool t]) := fun t ht => ⟨.omap (skv (entries 0 (c.parts.take k))), by rw [ht], fun _ => by rw [hent], .inr ⟨_, rfl⟩⟩
    (repeat (first | with_reducible refine aC_seq ?_ | with_reducible refine aC_block ?_ | with_reducible refine aN_then ?_ | with_reducible refine aN_block ?_ | with_reducible refine aC_skip ?_ | with_reducible refine aC_exit ?_ | with_reducible refine aX_then ?_ | with_reducible refine aX_block ?_ | with_reducible refine aX_other rfl ?_ | with_reducible refine aC_ret ?_ | with_reducible refine aR_then ?_ | with_reducible refine aR_block ?_))
    (refine aC_draw (fun i => ([] : List Nat).elem i) [1, 11] (by kernel_rfl) ?_
      <;> refine aD_x 0 60 rfl (by kernel_rfl) rfl rfl (Nat.le_of_ble_eq_true rfl) (y_move rfl rfl) ?_
      <;> (first | refine aD_x1 1 61 rfl (by kernel_rfl) rfl rfl (Nat.le_of_ble_eq_true rfl) (y_fld_shr tFl25_1_EwC rfl rfl) ?_ | refine aD_x1 1 61 rfl (by kernel_rfl) rfl rfl (Nat.le_of_ble_eq_true rfl) (y_fld_own 1 tFl25_1_EwC rfl rfl rfl (by first | omega | (try simp only [List.length_cons, List.length_nil, List.length_map, List.length_set, List.length_append, List.length_replicate, List.length_singleton, List.flatMap_cons, List.flatMap_nil]; omega))) ?_ | refine aD_x1 1 61 rfl (by kernel_rfl) rfl rfl (Nat.le_of_ble_eq_true rfl) (y_fld_own 11 tFl25_1_EwC rfl rfl rfl (by first | omega | (try simp only [List.length_cons, List.length_nil, List.length_map, List.length_set, List.length_append, List.length_replicate, List.length_singleton, List.flatMap_cons, List.flatMap_nil]; omega))) ?_)
      <;> (first | (refine aD_y1 2 62 rfl (by kernel_rfl) rfl rfl (Nat.le_of_ble_eq_true rfl) (y_ld_shr tNa23_EwC rfl rfl rfl) ?_; intro v62 hv62; cases hv62) | (refine aD_y1 2 62 rfl (by kernel_rfl) rfl rfl (Nat.le_of_ble_eq_true rfl) (y_ld_own 1 tNa23_EwC rfl rfl rfl rfl rfl) ?_; intro v62 hv62; cases hv62) | (refine aD_y1 2 62 rfl (by kernel_rfl) rfl rfl (Nat.le_of_ble_eq_true rfl) (y_ld_own 11 tNa23_EwC rfl rfl rfl rfl rfl) ?_; intro v62 hv62; cases hv62) | (refine aD_y1 2 62 rfl (by kernel_rfl) rfl rfl (Nat.le_of_ble_eq_true rfl) (y_ld_shr tNa23_EwC rfl rfl (by assumption)) ?_; intro v62 hv62; cases hv62) | (refine aD_y1 2 62 rfl (by kernel_rfl) rfl rfl (Nat.le_of_ble_eq_true rfl) (y_ld_own 1 tNa23_EwC rfl rfl rfl (by assumption) rfl) ?_; intro v62 hv62; cases hv62) | (refine aD_y1 2 62 rfl (by kernel_rfl) rfl rfl (Nat.le_of_ble_eq_true rfl) (y_ld_own 11 tNa23_EwC rfl rfl rfl (by assumption) rfl) ?_; intro v62 hv62; cases hv62))
      <;> (first | refine aD_x1 3 63 rfl (by kernel_rfl) rfl rfl (Nat.le_of_ble_eq_true rfl) (y_len_shr tSl23_EwC rfl rfl) ?_ | refine aD_x1 3 63 rfl (by kernel_rfl) rfl rfl (Nat.le_of_ble_eq_true rfl) (y_len_own 1 tSl23_EwC rfl rfl rfl) ?_ | refine aD_x1 3 63 rfl (by kernel_rfl) rfl rfl (Nat.le_of_ble_eq_true rfl) (y_len_own 11 tSl23_EwC rfl rfl rfl) ?_)
      <;> refine aD_x1 4 64 rfl (by kernel_rfl) rfl rfl (Nat.le_of_ble_eq_true rfl) (y_geq rfl rfl rfl) ?_
      <;> refine aD_x1 5 65 rfl (by kernel_rfl) rfl rfl (Nat.le_of_ble_eq_true rfl) (y_move rfl rfl) ?_
      <;> (first | refine aD_skip 6 66 rfl (by kernel_rfl) rfl rfl (Nat.le_of_ble_eq_true rfl) ?_ | refine aD_x 6 66 rfl (by kernel_rfl) rfl rfl (Nat.le_of_ble_eq_true rfl) (y_fld_shr tFl25_0_EwC rfl rfl) ?_ | refine aD_x 6 66 rfl (by kernel_rfl) rfl rfl (Nat.le_of_ble_eq_true rfl) (y_fld_own 1 tFl25_0_EwC rfl rfl rfl (by first | omega | (try simp only [List.length_cons, List.length_nil, List.length_map, List.length_set, List.length_append, List.length_replicate, List.length_singleton, List.flatMap_cons, List.flatMap_nil]; omega))) ?_ | refine aD_x 6 66 rfl (by kernel_rfl) rfl rfl (Nat.le_of_ble_eq_true rfl) (y_fld_own 11 tFl25_0_EwC rfl rfl rfl (by first | omega | (try simp only [List.length_cons, List.length_nil, List.length_map, List.length_set, List.length_append, List.length_replicate, List.length_singleton, List.flatMap_cons, List.flatMap_nil]; omega))) ?_ | ((refine aD_bcase 65 rfl ?_ ?_ <;> intro hb65 <;> (first | replace hb65 := of_decide_eq_true hb65 | replace hb65 := of_decide_eq_false hb65 | skip)) <;> (first | refine aD_skip 6 66 rfl (by kernel_rfl) rfl rfl (Nat.le_of_ble_eq_true rfl) ?_ | refine aD_x 6 66 rfl (by kernel_rfl) rfl rfl (Nat.le_of_ble_eq_true rfl) (y_fld_shr tFl25_0_EwC rfl rfl) ?_ | refine aD_x 6 66 rfl (by kernel_rfl) rfl rfl (Nat.le_of_ble_eq_true rfl) (y_fld_own 1 tFl25_0_EwC rfl rfl rfl (by first | omega | (try simp only [List.length_cons, List.length_nil, List.length_map, List.length_set, List.length_append, List.length_replicate, List.length_singleton, List.flatMap_cons, List.flatMap_nil]; omega))) ?_ | refine aD_x 6 66 rfl (by kernel_rfl) rfl rfl (Nat.le_of_ble_eq_true rfl) (y_fld_own 11 tFl25_0_EwC rfl rfl rfl (by first | omega | (try simp only [List.length_cons, List.length_nil, List.length_map, List.length_set, List.length_append, List.length_replicate, List.length_singleton, List.flatMap_cons, List.flatMap_nil]; omega))) ?_)))
      <;> (first | refine aD_skip 7 67 rfl (by kernel_rfl) rfl rfl (Nat.le_of_ble_eq_true rfl) ?_ | (refine aD_y 7 67 rfl (by kernel_rfl) rfl rfl (Nat.le_of_ble_eq_true rfl) (y_ld_shr tNa3_EwC rfl rfl rfl) ?_; intro v67 hv67; cases hv67) | (refine aD_y 7 67 rfl (by kernel_rfl) rfl rfl (Nat.le_of_ble_eq_true rfl) (y_ld_own 1 tNa3_EwC rfl rfl rfl rfl rfl) ?_; intro v67 hv67; cases hv67) | (refine aD_y 7 67 rfl (by kernel_rfl) rfl rfl (Nat.le_of_ble_eq_true rfl) (y_ld_own 11 tNa3_EwC rfl rfl rfl rfl rfl) ?_; intro v67 hv67; cases hv67) | (refine aD_y 7 67 rfl (by kernel_rfl) rfl rfl (Nat.le_of_ble_eq_true rfl) (y_ld_shr tNa3_EwC rfl rfl (by assumption)) ?_; intro v67 hv67; cases hv67) | (refine aD_y 7 67 rfl (by kernel_rfl) rfl rfl (Nat.le_of_ble_eq_true rfl) (y_ld_own 1 tNa3_EwC rfl rfl rfl (by assumption) rfl) ?_; intro v67 hv67; cases hv67) | (refine aD_y 7 67 rfl (by kernel_rfl) rfl rfl (Nat.le_of_ble_eq_true rfl) (y_ld_own 11 tNa3_EwC rfl rfl rfl (by assumption) rfl) ?_; intro v67 hv67; cases hv67) | ((refine aD_bcase 65 rfl ?_ ?_ <;> intro hb65 <;> (first | replace hb65 := of_decide_eq_true hb65 | replace hb65 := of_decide_eq_false hb65 | skip)) <;> (first | refine aD_skip 7 67 rfl (by kernel_rfl) rfl rfl (Nat.le_of_ble_eq_true rfl) ?_ | (refine aD_y 7 67 rfl (by kernel_rfl) rfl rfl (Nat.le_of_ble_eq_true rfl) (y_ld_shr tNa3_EwC rfl rfl rfl) ?_; intro v67 hv67; cases hv67) | (refine aD_y 7 67 rfl (by kernel_rfl) rfl rfl (Nat.le_of_ble_eq_true rfl) (y_ld_own 1 tNa3_EwC rfl rfl rfl rfl rfl) ?_; intro v67 hv67; cases hv67) | (refine aD_y 7 67 rfl (by kernel_rfl) rfl rfl (Nat.le_of_ble_eq_true rfl) (y_ld_own 11 tNa3_EwC rfl rfl rfl rfl rfl) ?_; intro v67 hv67; cases hv67) | (refine aD_y 7 67 rfl (by kernel_rfl) rfl rfl (Nat.le_of_ble_eq_true rfl) (y_ld_shr tNa3_EwC rfl rfl (by assumption)) ?_; intro v67 hv67; cases hv67) | (refine aD_y 7 67 rfl (by kernel_rfl) rfl rfl (Nat.le_of_ble_eq_true rfl) (y_ld_own 1 tNa3_EwC rfl rfl rfl (by assumption) rfl) ?_; intro v67 hv67; cases hv67) | (refine aD_y 7 67 rfl (by kernel_rfl) rfl rfl (Nat.le_of_ble_eq_true rfl) (y_ld_own 11 tNa3_EwC rfl rfl rfl (by assumption) rfl) ?_; intro v67 hv67; cases hv67))))
      <;> (first | refine aD_skip 8 68 rfl (by kernel_rfl) rfl rfl (Nat.le_of_ble_eq_true rfl) ?_ | refine aD_x 8 68 rfl (by kernel_rfl) rfl rfl (Nat.le_of_ble_eq_true rfl) (y_geq rfl rfl rfl) ?_ | ((refine aD_bcase 65 rfl ?_ ?_ <;> intro hb65 <;> (first | replace hb65 := of_decide_eq_true hb65 | replace hb65 := of_decide_eq_false hb65 | skip)) <;> (first | refine aD_skip 8 68 rfl (by kernel_rfl) rfl rfl (Nat.le_of_ble_eq_true rfl) ?_ | refine aD_x 8 68 rfl (by kernel_rfl) rfl rfl (Nat.le_of_ble_eq_true rfl) (y_geq rfl rfl rfl) ?_)))
      <;> (first | refine aD_x1 9 69 rfl (by kernel_rfl) rfl rfl (Nat.le_of_ble_eq_true rfl) (y_pick rfl rfl rfl) ?_ | ((refine aD_bcase 65 rfl ?_ ?_ <;> intro hb65 <;> (first | replace hb65 := of_decide_eq_true hb65 | replace hb65 := of_decide_eq_false hb65 | skip)) <;> refine aD_x1 9 69 rfl (by kernel_rfl) rfl rfl (Nat.le_of_ble_eq_true rfl) (y_pick rfl rfl rfl) ?_))
      <;> refine aD_x1 10 70 rfl (by kernel_rfl) rfl rfl (Nat.le_of_ble_eq_true rfl) (y_move rfl rfl) ?_
      <;> (first | refine aD_skip 11 71 rfl (by kernel_rfl) rfl rfl (Nat.le_of_ble_eq_true rfl) ?_ | refine aD_x 11 71 rfl (by kernel_rfl) rfl rfl (Nat.le_of_ble_eq_true rfl) (y_fld_shr tFl25_0_EwC rfl rfl) ?_ | refine aD_x 11 71 rfl (by kernel_rfl) rfl rfl (Nat.le_of_ble_eq_true rfl) (y_fld_own 1 tFl25_0_EwC rfl rfl rfl (by first | omega | (try simp only [List.length_cons, List.length_nil, List.length_map, List.length_set, List.length_append, List.length_replicate, List.length_singleton, List.flatMap_cons, List.flatMap_nil]; omega))) ?_ | refine aD_x 11 71 rfl (by kernel_rfl) rfl rfl (Nat.le_of_ble_eq_true rfl) (y_fld_own 11 tFl25_0_EwC rfl rfl rfl (by first | omega | (try simp only [List.length_cons, List.length_nil, List.length_map, List.length_set, List.length_append, List.length_replicate, List.length_singleton, List.flatMap_cons, List.flatMap_nil]; omega))) ?_ | ((refine aD_bcase 70 rfl ?_ ?_ <;> intro hb70 <;> (first | replace hb70 := of_decide_eq_true hb70 | replace hb70 := of_decide_eq_false hb70 | skip)) <;> (first | refine aD_skip 11 71 rfl (by kernel_rfl) rfl rfl (Nat.le_of_ble_eq_true rfl) ?_ | refine aD_x 11 71 rfl (by kernel_rfl) rfl rfl (Nat.le_of_ble_eq_true rfl) (y_fld_shr tFl25_0_EwC rfl rfl) ?_ | refine aD_x 11 71 rfl (by kernel_rfl) rfl rfl (Nat.le_of_ble_eq_true rfl) (y_fld_own 1 tFl25_0_EwC rfl rfl rfl (by first | omega | (try simp only [List.length_cons, List.length_nil, List.length_map, List.length_set, List.length_append, List.length_replicate, List.length_singleton, List.flatMap_cons, List.flatMap_nil]; omega))) ?_ | refine aD_x 11 71 rfl (by kernel_rfl) rfl rfl (Nat.le_of_ble_eq_true rfl) (y_fld_own 11 tFl25_0_EwC rfl rfl rfl (by first | omega | (try simp only [List.length_cons, List.length_nil, List.length_map, List.length_set, List.length_append, List.length_replicate, List.length_singleton, List.flatMap_cons, List.flatMap_nil]; omega))) ?_)))
      <;> (first | refine aD_skip 12 72 rfl (by kernel_rfl) rfl rfl (Nat.le_of_ble_eq_true rfl) ?_ | (refine aD_y 12 72 rfl (by kernel_rfl) rfl rfl (Nat.le_of_ble_eq_true rfl) (y_ld_shr tNa3_EwC rfl rfl rfl) ?_; intro v72 hv72; cases hv72) | (refine aD_y 12 72 rfl (by kernel_rfl) rfl rfl (Nat.le_of_ble_eq_true rfl) (y_ld_own 1 tNa3_EwC rfl rfl rfl rfl rfl) ?_; intro v72 hv72; cases hv72) | (refine aD_y 12 72 rfl (by kernel_rfl) rfl rfl (Nat.le_of_ble_eq_true rfl) (y_ld_own 11 tNa3_EwC rfl rfl rfl rfl rfl) ?_; intro v72 hv72; cases hv72) | (refine aD_y 12 72 rfl (by kernel_rfl) rfl rfl (Nat.le_of_ble_eq_true rfl) (y_ld_shr tNa3_EwC rfl rfl (by assumption)) ?_; intro v72 hv72; cases hv72) | (refine aD_y 12 72 rfl (by kernel_rfl) rfl rfl (Nat.le_of_ble_eq_true rfl) (y_ld_own 1 tNa3_EwC rfl rfl rfl (by assumption) rfl) ?_; intro v72 hv72; cases hv72) | (refine aD_y 12 72 rfl (by kernel_rfl) rfl rfl (Nat.le_of_ble_eq_true rfl) (y_ld_own 11 tNa3_EwC rfl rfl rfl (by assumption) rfl) ?_; intro v72 hv72; cases hv72) | ((refine aD_bcase 70 rfl ?_ ?_ <;> intro hb70 <;> (first | replace hb70 := of_decide_eq_true hb70 | replace hb70 := of_decide_eq_false hb70 | skip)) <;> (first | refine aD_skip 12 72 rfl (by kernel_rfl) rfl rfl (Nat.le_of_ble_eq_true rfl) ?_ | (refine aD_y 12 72 rfl (by kernel_rfl) rfl rfl (Nat.le_of_ble_eq_true rfl) (y_ld_shr tNa3_EwC rfl rfl rfl) ?_; intro v72 hv72; cases hv72) | (refine aD_y 12 72 rfl (by kernel_rfl) rfl rfl (Nat.le_of_ble_eq_true rfl) (y_ld_own 1 tNa3_EwC rfl rfl rfl rfl rfl) ?_; intro v72 hv72; cases hv72) | (refine aD_y 12 72 rfl (by kernel_rfl) rfl rfl (Nat.le_of_ble_eq_true rfl) (y_ld_own 11 tNa3_EwC rfl rfl rfl rfl rfl) ?_; intro v72 hv72; cases hv72) | (refine aD_y 12 72 rfl (by kernel_rfl) rfl rfl (Nat.le_of_ble_eq_true rfl) (y_ld_shr tNa3_EwC rfl rfl (by assumption)) ?_; intro v72 hv72; cases hv72) | (refine aD_y 12 72 rfl (by kernel_rfl) rfl rfl (Nat.le_of_ble_eq_true rfl) (y_ld_own 1 tNa3_EwC rfl rfl rfl (by assumption) rfl) ?_; intro v72 hv72; cases hv72) | (refine aD_y 12 72 rfl (by kernel_rfl) rfl rfl (Nat.le_of_ble_eq_true rfl) (y_ld_own 11 tNa3_EwC rfl rfl rfl (by assumption) rfl) ?_; intro v72 hv72; cases hv72))))
      <;> (first | refine aD_skip 13 73 rfl (by kernel_rfl) rfl rfl (Nat.le_of_ble_eq_true rfl) ?_ | refine aD_x 13 73 rfl (by kernel_rfl) rfl rfl (Nat.le_of_ble_eq_true rfl) (y_leq rfl rfl rfl) ?_ | ((refine aD_bcase 70 rfl ?_ ?_ <;> intro hb70 <;> (first | replace hb70 := of_decide_eq_true hb70 | replace hb70 := of_decide_eq_false hb70 | skip)) <;> (first | refine aD_skip 13 73 rfl (by kernel_rfl) rfl rfl (Nat.le_of_ble_eq_true rfl) ?_ | refine aD_x 13 73 rfl (by kernel_rfl) rfl rfl (Nat.le_of_ble_eq_true rfl) (y_leq rfl rfl rfl) ?_)))
      <;> (first | refine aD_x 14 74 rfl (by kernel_rfl) rfl rfl (Nat.le_of_ble_eq_true rfl) (y_pick rfl rfl rfl) ?_ | ((refine aD_bcase 70 rfl ?_ ?_ <;> intro hb70 <;> (first | replace hb70 := of_decide_eq_true hb70 | replace hb70 := of_decide_eq_false hb70 | skip)) <;> refine aD_x 14 74 rfl (by kernel_rfl) rfl rfl (Nat.le_of_ble_eq_true rfl) (y_pick rfl rfl rfl) ?_))
      <;> refine aD_x1 15 2 rfl (by kernel_rfl) rfl rfl (Nat.le_of_ble_eq_true rfl) (y_assign rfl rfl) ?_
      <;> refine aD_x1 16 3 rfl (by kernel_rfl) rfl rfl (Nat.le_of_ble_eq_true rfl) (y_assign rfl rfl) ?_
      <;> refine aD_end (by kernel_rfl) ?_
      <;> (repeat (first | with_reducible refine aC_seq ?_ | with_reducible refine aC_block ?_ | with_reducible refine aN_then ?_ | with_reducible refine aN_block ?_ | with_reducible refine aC_skip ?_ | with_reducible refine aC_exit ?_ | with_reducible refine aX_then ?_ | with_reducible refine aX_block ?_ | with_reducible refine aX_other rfl ?_ | with_reducible refine aC_ret ?_ | with_reducible refine aR_then ?_ | with_reducible refine aR_block ?_)) <;> (try dsimp only))
    · refine ret_os 11 (Try.results19) rfl rfl rfl (hret _ ?_)
      unfold formedB
      rw [hgo]
      have h1 : decide (1 ≤ c.kind) = true := by simpa using hb70
      have h2 : decide (2 ≤ c.parts.length) = true := by simp; omega
      rw [h1, h2]; simp
    · refine ret_os 11 (Try.results19) rfl rfl rfl (hret _ ?_)
      have h1 : decide (1 ≤ c.kind) = false := by simpa using hb70
      unfold formedB
      rw [h1]; simp
    · refine ret_os 11 (Try.results19) rfl rfl rfl (hret _ ?_)
      have h2 : decide (2 ≤ c.parts.length) = false := by simp; omega
      unfold formedB
      rw [h2]; simp
end Go.Proofs.Ytoanjgpdepaciaa

namespace Go.Cb
open Go.En
set_option linter.all false

/-- One name more. -/
def runStep (parts : List (List ByteArray)) (ps : List Piece) (s : ByteArray) : List Piece := match ps[ps.length - 1]? with
  | none => [⟨partOf parts s, [s]⟩]
  | some q => if q.part = partOf parts s then ps.set (ps.length - 1) ⟨q.part, q.word ++ [s]⟩ else ps ++ [⟨partOf parts s, [s]⟩]
def runs (parts : List (List ByteArray)) (ps : List Piece) (ws : List ByteArray) : List Piece := ws.foldl (runStep parts) ps
/-- No two pieces of other parts than the first beside each other. -/
def adjB : List Piece → Bool
  | p :: q :: l => (p.part == 0 || q.part == 0) && adjB (q :: l)
  | _ => true
theorem adjB_append {l : List Piece} {q : Piece} : ∀ (m : List Piece) , adjB (l ++ m) = true → adjB l = true := by
  intro m
  induction l with
  | nil => intro _; rfl
  | cons p l ih =>
    intro h
    cases l with
    | nil => rfl
    | cons p' l =>
      simp only [List.cons_append, adjB, Bool.and_eq_true] at h ⊢
      exact ⟨h.1, ih (by simpa using h.2)⟩
theorem adjB_snoc : ∀ (l : List Piece) (p q : Piece), adjB (l ++ [p, q]) = (adjB (l ++ [p]) && (p.part == 0 || q.part == 0))
  | [], p, q => by simp [adjB]
  | [a], p, q => by simp [adjB, Bool.and_comm]
  | a :: b :: l, p, q => by
    simp only [List.cons_append, adjB]
    have := adjB_snoc (b :: l) p q
    simp only [List.cons_append] at this
    rw [this, Bool.and_assoc]
theorem adjB_set : ∀ (l : List Piece) (p p' : Piece), p.part = p'.part → adjB (l ++ [p]) = adjB (l ++ [p'])
  | [], _, _, _ => rfl
  | [a], p, p', h => by simp [adjB, h]
  | a :: b :: l, p, p', h => by
    simp only [List.cons_append, adjB]
    have := adjB_set (b :: l) p p' h
    simp only [List.cons_append] at this
    rw [this]
theorem split_last {α : Type} {l : List α} {x : α} (h : l[l.length - 1]? = some x) : ∃ m, l = m ++ [x] := by
  have hl := (List.getElem?_eq_some_iff.1 h).1
  refine ⟨l.take (l.length - 1), ?_⟩
  have h1 := take_snoc h
  rw [show l.length - 1 + 1 = l.length by omega, List.take_length] at h1
  exact h1
theorem set_last {α : Type} (m : List α) (x y : α) : (m ++ [x]).set ((m ++ [x]).length - 1) y = m ++ [y] := by
  have : (m ++ [x]).length - 1 = m.length := by simp
  rw [this, List.set_append_right _ _ (Nat.le_refl _), Nat.sub_self]; rfl
theorem get_last {α : Type} (m : List α) (x : α) : (m ++ [x])[(m ++ [x]).length - 1]? = some x := by
  have : (m ++ [x]).length - 1 = m.length := by simp
  rw [this, List.getElem?_append_right (Nat.le_refl _), Nat.sub_self]; rfl
theorem runStep_adj {parts : List (List ByteArray)} {ps : List Piece} {s : ByteArray} (h : adjB ps = false) : adjB (runStep parts ps s) = false := by
  unfold runStep
  split
  · rename_i hn
    cases ps with
    | nil => cases h
    | cons p ps => simp at hn
  · rename_i q hq
    obtain ⟨m, rfl⟩ := split_last hq
    split
    · rw [set_last, ← adjB_set m q ⟨q.part, q.word ++ [s]⟩ rfl]; exact h
    · cases h1 : adjB (m ++ [q] ++ [⟨partOf parts s, [s]⟩])
      · rfl
      · rw [adjB_append (q := q) _ h1] at h; cases h
theorem runs_adj {parts : List (List ByteArray)} : ∀ (ws : List ByteArray) (ps : List Piece), adjB ps = false → adjB (runs parts ps ws) = false
  | [], ps, h => h
  | s :: ws, ps, h => runs_adj ws _ (runStep_adj h)
/-- The reference's way and the program's. -/
theorem pieces_runs {parts : List (List ByteArray)} : ∀ (ws : List ByteArray) (ps : List Piece), adjB ps = true → piecesGo parts ps ws = if adjB (runs parts ps ws) then some (runs parts ps ws) else none
  | [], ps, h => by simp [piecesGo, runs, h]
  | s :: ws, ps, h => by
    rw [piecesGo]
    show _ = if adjB (runs parts (runStep parts ps s) ws) then some (runs parts (runStep parts ps s) ws) else none
    unfold pieceStep
    have hrs : runStep parts ps s = runStep parts ps s := rfl
    cases hq : ps[ps.length - 1]? with
    | none =>
      have : runStep parts ps s = [⟨partOf parts s, [s]⟩] := by unfold runStep; rw [hq]
      rw [this]
      exact pieces_runs ws _ rfl
    | some q =>
      obtain ⟨m, rfl⟩ := split_last hq
      simp only []
      by_cases h1 : q.part = partOf parts s
      · have : runStep parts (m ++ [q]) s = (m ++ [q]).set ((m ++ [q]).length - 1) ⟨q.part, q.word ++ [s]⟩ := by unfold runStep; rw [hq]; simp [h1]
        rw [if_pos h1, this]
        refine pieces_runs ws _ ?_
        rw [set_last, ← adjB_set m q ⟨q.part, q.word ++ [s]⟩ rfl]; exact h
      · have : runStep parts (m ++ [q]) s = m ++ [q] ++ [⟨partOf parts s, [s]⟩] := by unfold runStep; rw [hq]; simp [h1]
        rw [if_neg h1, this]
        have ha : adjB (m ++ [q] ++ [⟨partOf parts s, [s]⟩]) = (adjB (m ++ [q]) && (q.part == 0 || partOf parts s == 0)) := by
          rw [List.append_assoc]; exact adjB_snoc m q _
        by_cases h2 : partOf parts s ≠ 0 ∧ q.part ≠ 0
        · rw [if_pos h2]
          have hb : adjB (m ++ [q] ++ [⟨partOf parts s, [s]⟩]) = false := by rw [ha]; simp [h2.1, h2.2]
          rw [runs_adj ws _ hb]; rfl
        · rw [if_neg h2]
          refine pieces_runs ws _ ?_
          rw [ha, h]
          simp
          by_cases h3 : q.part = 0
          · exact .inl h3
          · right
            by_cases h4 : partOf parts s = 0
            · exact h4
            · exact absurd ⟨h4, h3⟩ h2
/-- What the program asks of the pieces at the end. -/
def badPiece (ps : List Piece) (i : Nat) : Bool := match ps[i]? with
  | none => false
  | some p => p.part != 0 && (i == 0 || i == ps.length - 1 || match ps[i + 1]? with | some q => q.part != 0 | none => false)
def goodLoop (ps : List Piece) : Bool := (List.range ps.length).all fun i => !badPiece ps i
theorem adj_get : ∀ (ps : List Piece), adjB ps = true ↔ ∀ i p q, ps[i]? = some p → ps[i + 1]? = some q → p.part = 0 ∨ q.part = 0
  | [] => by simp [adjB]
  | [p] => by simp [adjB]
  | p :: q :: l => by
    rw [adjB, Bool.and_eq_true, adj_get (q :: l)]
    constructor
    · rintro ⟨h1, h2⟩ i a b ha hb
      cases i with
      | zero => simp at ha hb; subst ha hb; simpa using h1
      | succ i => exact h2 i a b (by simpa using ha) (by simpa using hb)
    · intro h
      refine ⟨by simpa using h 0 p q rfl rfl, fun i a b ha hb => h (i + 1) a b (by simpa using ha) (by simpa using hb)⟩
theorem good_iff {ps : List Piece} (h0 : ps ≠ []) : goodLoop ps = (adjB ps && endsB ps) := by
  have hlen : 0 < ps.length := by cases ps with | nil => exact absurd rfl h0 | cons => simp
  obtain ⟨a, ha⟩ := get_some hlen
  obtain ⟨b, hb⟩ := get_some (show ps.length - 1 < ps.length by omega)
  have hends : endsB ps = (a.part == 0 && b.part == 0) := by unfold endsB; rw [ha, hb]
  rw [Bool.eq_iff_iff, Bool.and_eq_true, adj_get, hends]
  unfold goodLoop
  rw [List.all_eq_true]
  constructor
  · intro h
    have key : ∀ i p, ps[i]? = some p → p.part ≠ 0 → i ≠ 0 ∧ i ≠ ps.length - 1 ∧ ∀ q, ps[i + 1]? = some q → q.part = 0 := fun i p hp hne => by
      have h1 := h i (List.mem_range.2 (lt_of_get hp))
      unfold badPiece at h1
      rw [hp] at h1
      simp [hne] at h1
      refine ⟨h1.1.1, h1.1.2, fun q hq => ?_⟩
      have := h1.2
      rw [hq] at this
      simpa using this
    refine ⟨fun i p q hp hq => ?_, ?_⟩
    · by_cases hz : p.part = 0
      · exact .inl hz
      · exact .inr ((key i p hp hz).2.2 q hq)
    · simp
      constructor
      · by_cases hz : a.part = 0
        · exact hz
        · exact absurd rfl (key 0 a ha hz).1
      · by_cases hz : b.part = 0
        · exact hz
        · exact absurd rfl (key _ b hb hz).2.1
  · rintro ⟨h1, h2⟩ i hi
    simp at h2
    unfold badPiece
    cases hp : ps[i]? with
    | none => rfl
    | some p =>
      by_cases hz : p.part = 0
      · simp [hz]
      · have e1 : i ≠ 0 := fun e => by subst e; rw [ha] at hp; cases hp; exact hz h2.1
        have e2 : i ≠ ps.length - 1 := fun e => by subst e; rw [hb] at hp; cases hp; exact hz h2.2
        simp [hz, e1, e2]
        cases hq : ps[i + 1]? with
        | none => rfl
        | some q => simpa using (h1 i p q hp hq).resolve_left hz
theorem runs_ne {parts : List (List ByteArray)} : ∀ (ws : List ByteArray) (ps : List Piece), ps ≠ [] → runs parts ps ws ≠ []
  | [], ps, h => h
  | s :: ws, ps, h => runs_ne ws _ (by
    unfold runStep
    split
    · simp
    · split
      · intro e; exact h (by simpa using e)
      · simp)
theorem runStep_ne {parts : List (List ByteArray)} {ps : List Piece} {s : ByteArray} : runStep parts ps s ≠ [] := by
  unfold runStep
  split
  · simp
  · rename_i q hq
    split
    · intro e
      have : ps = [] := by simpa using e
      subst this; simp at hq
    · simp
theorem piecesOf_runs {parts : List (List ByteArray)} {ws : List ByteArray} (h : ws ≠ []) : piecesOf parts ws = if goodLoop (runs parts [] ws) then some (runs parts [] ws) else none := by
  have hne : runs parts [] ws ≠ [] := by
    cases ws with
    | nil => exact absurd rfl h
    | cons s ws => exact runs_ne ws _ runStep_ne
  unfold piecesOf
  rw [if_neg h, pieces_runs ws [] rfl, good_iff hne]
  cases h1 : adjB (runs parts [] ws)
  · simp
  · simp
theorem runs_snoc {parts : List (List ByteArray)} {ws : List ByteArray} {k : Nat} {s : ByteArray} (h : ws[k]? = some s) : runs parts [] (ws.take (k + 1)) = runStep parts (runs parts [] (ws.take k)) s := by
  unfold runs
  rw [take_snoc h, List.foldl_append]; rfl
theorem runStep_last {parts : List (List ByteArray)} {ps : List Piece} {s : ByteArray} : ∃ m w, runStep parts ps s = m ++ [⟨partOf parts s, w⟩] := by
  unfold runStep
  split
  · exact ⟨[], _, rfl⟩
  · rename_i q hq
    obtain ⟨m, rfl⟩ := split_last hq
    split
    · rename_i h; rw [set_last, h]; exact ⟨m, _, rfl⟩
    · exact ⟨_, _, rfl⟩

/-! ### How pieces read -/
def cPiece (q : Piece) : List PV := [pInt q.part, pStrs q.word]
def pPieces (ps : List Piece) : PV := .sl ps.length (ps.flatMap cPiece)
def oPiece (e : Nat) (q : Piece) : List PV := [pInt q.part, .own e 1 q.word.length (q.word.map pStr)]
theorem cPiece_len (q : Piece) : (cPiece q).length = 2 := rfl
theorem oPiece_len (e : Nat) (q : Piece) : (oPiece e q).length = 2 := rfl
theorem shares_str (l : List ByteArray) : shares (l.map pStr) = l.map pStr := by
  rw [shares_eq, List.map_map]; rfl
theorem shares_append (l m : List PV) : shares (l ++ m) = shares l ++ shares m := by rw [shares_eq, shares_eq, shares_eq, List.map_append]
theorem shares_pieces (e : Nat) (ps : List Piece) : shares (ps.flatMap (oPiece e)) = ps.flatMap cPiece := by
  induction ps with
  | nil => simp [shares]
  | cons q ps ih =>
    rw [List.flatMap_cons, List.flatMap_cons, shares_append, ih]
    congr 1
    simp [oPiece, cPiece, shares, share, shares_str, pStrs]
theorem flat_set {α β : Type} {f : α → List β} {k : Nat} (hf : ∀ x, (f x).length = k) : ∀ (l : List α) (i j : Nat) (x y : α) (b : β), l[i]? = some x → j < k → (f x).set j b = f y → (l.flatMap f).set (i * k + j) b = (l.set i y).flatMap f
  | [], i, j, x, y, b, h, _, _ => by simp at h
  | z :: l, 0, j, x, y, b, h, hj, he => by
    simp at h; subst h
    rw [Nat.zero_mul, Nat.zero_add, List.flatMap_cons, List.set_append_left _ _ (by rw [hf]; exact hj), he]; rfl
  | z :: l, i + 1, j, x, y, b, h, hj, he => by
    rw [List.flatMap_cons, List.set_append_right _ _ (by rw [hf, Nat.add_mul]; omega), hf, show (i + 1) * k + j - k = i * k + j by rw [Nat.add_mul]; omega, flat_set hf l i j x y b (by simpa using h) hj he]
    rfl
end Go.Cb
