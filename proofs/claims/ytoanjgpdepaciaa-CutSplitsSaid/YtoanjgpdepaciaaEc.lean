/-
  Contracts of other texts, turned into the engine's: the reference's Split, EqualFunc.
  Walks by the engine: awake.
  Walks by the engine: the law CutSplits.
  'casebooklaw36.CutSplits' returns true for every list of variants and every cut, and changes nothing that was handed to it.
-/
import Derived.Test.YtoanjgpdepaciaaRows
import Derived.Test.YtoanjgpdepaciaaMEwH
import Derived.Test.YtoanjgpdepaciaaEng
namespace Go.Proofs.Ytoanjgpdepaciaa
open Go.RowKit Go.Cb Go.En
set_option linter.all false
set_option maxRecDepth 100000

def fitVV (l : List (List Var)) : Prop := l.length ≤ 140737488355328 ∧ ∀ r ∈ l, fitV r
theorem shr_varss {M : BS} {w : World} {v : Value} {l : List (List Var)} (h : Shr M w v (pVarss l)) (hf : fitVV l) : Varss M w v l := by
  unfold pVarss at h
  rw [flat_one] at h
  refine shr_sl (k := 1) (f := fun x => [pVars x]) (fun _ => rfl) h hf.1 fun x b o vs hx hc hT => ?_
  exact ⟨vs 0, hc 0 (by decide), shr_vars (hT 0 _ rfl) (hf.2 x hx)⟩
theorem rSplit_e (l : List Var) (c : Cut) (hl0 : fitV l) (hc0 : fitC c) (hll : l.length ≤ 12) (hla : ∀ x ∈ l, x.acts.length ≤ 15) (hpn : c.parts.length ≤ 10) (hsum : c.parts.flatten.length ≤ 100000) : AF Try.prog 8 [pVars l, pCut c] (RSp (splitR l c)) := fun M w vs hM hl hv => by
  obtain ⟨v, u, rfl⟩ := len2 hl
  refine (rSplit_c l c v u w hM (shr_vars (hv 0 v _ rfl rfl) hl0) (shr_cut (hv 1 u _ rfl rfl) hc0) hll hla hpn hsum).mono fun e w' ⟨r, h1, h2, h3⟩ => ?_
  refine ret_shrAF h1 h2 (.tup [r, .int .i64 (splitR l c).2] _ rfl fun i x p hx hp => ?_)
  match i with
  | 0 => simp at hx hp; subst hx hp; exact varss_shr h3
  | 1 => simp at hx hp; subst hx hp; exact .val _
  | i + 2 => simp at hx
theorem equalFunc_e (l m : List (List Var)) (hf : fitVV l) (hg : fitVV m) : AF Try.prog 9 [pVarss l, pVarss m, .fn 10 []] (· = pBool (all2 sameVars l m)) := fun M w vs hM hl hv => by
  obtain ⟨v, u, f, rfl⟩ := len3 hl
  have hS := hv 2 f _ rfl rfl
  generalize hq : ([] : List PV) = q at hS
  cases hS with
  | fn _ us ps hlen hT =>
    subst hq
    have : us = [] := List.eq_nil_of_length_eq_zero hlen
    subst this
    exact (equalFunc_varss 10 sameVars l m v u w (shr_varss (hv 0 v _ rfl rfl) hf) (shr_varss (hv 1 u _ rfl rfl) hg) (Try.call10) (fun w' x y a b _ ha hb => cutSplits1_c x y a b w' ha hb)).mono fun e w' ⟨h1, h2⟩ => ret_val h1 h2
end Go.Proofs.Ytoanjgpdepaciaa

namespace Go.Proofs.Ytoanjgpdepaciaa
open Go.RowKit Go.Cb Go.En
set_option linter.all false
set_option maxRecDepth 100000

theorem tAgg25_EwJ : AggT Try.prog 25 2 = true := by kernel_rfl
theorem tEl22_EwJ : ElT Try.prog 22 40 2 32 (.agg #[(.slice none 0 0), (.int .i64 0)]) := ⟨Try.underlying22, by kernel_rfl, rfl, by decide⟩
theorem tEl23_EwJ : ElT Try.prog 23 38 1 24 (.slice none 0 0) := ⟨Try.underlying23, by kernel_rfl, rfl, by decide⟩
theorem tEl38_EwJ : ElT Try.prog 38 9 1 16 (.string ByteArray.empty) := ⟨Try.underlying38, by kernel_rfl, rfl, by decide⟩
theorem tNa22_EwJ : NoAgg Try.prog 22 = true := by kernel_rfl
theorem tSl29_EwJ : SlT Try.prog 29 22 1 = true := by kernel_rfl
theorem tSt25_EwJ : stInfo Try.prog 25 = some ((.agg #[(.int .i64 0), (.slice none 0 0)]), ([0, 1] : List Nat).map fun o => (o, 1)) := by kernel_rfl
theorem tSt40_EwJ : stInfo Try.prog 40 = some ((.agg #[(.slice none 0 0), (.int .i64 0)]), ([0, 1] : List Nat).map fun o => (o, 1)) := by kernel_rfl
theorem tZr25_EwJ : ZeroT Try.prog 25 (.agg #[(.int .i64 0), (.slice none 0 0)]) := by unfold ZeroT; kernel_rfl

theorem tAggCutJ : AggT Try.prog 25 2 = true := by kernel_rfl
def exA : ByteArray := ⟨#[97]⟩
def exB : ByteArray := ⟨#[98]⟩
def exL : List Var := [⟨[exA, exB, exA], 3⟩]
def exC : Cut := ⟨4, [[exA], [exB]]⟩
theorem ex_split : splitR exL exC = ([[⟨[exA], 6⟩], [⟨[exB], 3⟩]], 0) := by kernel_rfl

theorem awake_e : AF Try.prog 4 [] (· = pBool true) := by
  refine AF.of_body 41 Try.func4 rfl Try.ntmps4 (Nat.le_of_ble_eq_true rfl) ?_
  intro w0 M0 vs hl hv
  have : vs = [] := List.eq_nil_of_length_eq_zero hl
  subst this
  clear hl hv
  (repeat (first | with_reducible refine aC_seq ?_ | with_reducible refine aC_block ?_ | with_reducible refine aN_then ?_ | with_reducible refine aN_block ?_ | with_reducible refine aC_skip ?_ | with_reducible refine aC_exit ?_ | with_reducible refine aX_then ?_ | with_reducible refine aX_block ?_ | with_reducible refine aX_other rfl ?_ | with_reducible refine aC_ret ?_ | with_reducible refine aR_then ?_ | with_reducible refine aR_block ?_))
  (refine aC_region ?_
    <;> refine aL_x 0 rfl rfl (Nat.le_of_ble_eq_true rfl) (y_assign rfl rfl) ?_
    <;> refine aL_end ?_
    <;> (repeat (first | with_reducible refine aC_seq ?_ | with_reducible refine aC_block ?_ | with_reducible refine aN_then ?_ | with_reducible refine aN_block ?_ | with_reducible refine aC_skip ?_ | with_reducible refine aC_exit ?_ | with_reducible refine aX_then ?_ | with_reducible refine aX_block ?_ | with_reducible refine aX_other rfl ?_ | with_reducible refine aC_ret ?_ | with_reducible refine aR_then ?_ | with_reducible refine aR_block ?_)) <;> (try dsimp only))
  (refine aC_region ?_
    <;> (refine aL_lit1 (kk := 1) 4 tEl38_EwJ rfl rfl (Nat.le_of_ble_eq_true rfl) rfl rfl (by first | rfl | assumption) rfl ?_; intro h4 ho4)
    <;> (refine aL_ent (En.freeze (l := 4) (t := 4) rfl rfl) fun _ => ?_; refine aL_lit1 (kk := 1) 5 tEl38_EwJ rfl rfl (Nat.le_of_ble_eq_true rfl) rfl rfl rfl rfl ?_; intro h5 ho5; refine aL_ent (En.freeze (l := 5) (t := 5) rfl rfl) fun _ => ?_)
    <;> (refine aL_litn (xs := [_, _]) 6 tEl23_EwJ rfl rfl (Nat.le_of_ble_eq_true rfl) rfl rfl rfl rfl rfl (by decide) (by decide) rfl ?_; intro h6 ho6; refine aL_ent (En.freeze (l := 6) (t := 6) rfl rfl) fun _ => ?_)
    <;> refine aL_x 7 rfl rfl (Nat.le_of_ble_eq_true rfl) (y_build tSt25_EwJ rfl rfl rfl (by first | rfl | (simp only [List.all_cons, List.all_nil, Bool.and_true, Bool.and_eq_true]; (repeat (first | refine ⟨?_, ?_⟩ | rfl | assumption)))) rfl) ?_
    <;> (refine aL_alloc [(.int .i64 0), (.slice none 0 0)] 2 1 rfl rfl (Nat.le_of_ble_eq_true rfl) rfl tZr25_EwJ rfl rfl rfl ?_; intro h1)
    <;> refine aL_sta 1 rfl rfl tAgg25_EwJ rfl rfl rfl rfl (by first | rfl | (simp only [List.all_cons, List.all_nil, Bool.and_true, Bool.and_eq_true]; (repeat (first | refine ⟨?_, ?_⟩ | rfl | assumption)))) rfl (by first | omega | (try simp only [List.length_cons, List.length_nil, List.length_map, List.length_set, List.length_append, List.length_replicate, List.length_singleton, List.flatMap_cons, List.flatMap_nil]; omega)) (by decide) ?_
    <;> refine aL_end ?_
    <;> (repeat (first | with_reducible refine aC_seq ?_ | with_reducible refine aC_block ?_ | with_reducible refine aN_then ?_ | with_reducible refine aN_block ?_ | with_reducible refine aC_skip ?_ | with_reducible refine aC_exit ?_ | with_reducible refine aX_then ?_ | with_reducible refine aX_block ?_ | with_reducible refine aX_other rfl ?_ | with_reducible refine aC_ret ?_ | with_reducible refine aR_then ?_ | with_reducible refine aR_block ?_)) <;> (try dsimp only))
  have hfl : fitV exL := ⟨by decide, fun x hx => by
    simp [exL] at hx; subst hx
    exact ⟨⟨by decide, fun s hs => by simp at hs; rcases hs with rfl | rfl | rfl <;> decide⟩, by decide, by decide⟩⟩
  have hCS := cSplit_e exL exC hfl (fun p hp s hs => by
    simp [exC] at hp; rcases hp with rfl | rfl <;> simp at hs <;> subst hs <;> decide) (by decide)
  rw [ex_split] at hCS
  (refine aC_region ?_
    <;> (refine aL_litn (xs := [_, _, _]) 9 tEl38_EwJ rfl rfl (Nat.le_of_ble_eq_true rfl) rfl rfl rfl rfl rfl (by decide) (by decide) rfl ?_; intro h9 ho9; refine aL_ent (En.freeze (l := 9) (t := 9) rfl rfl) fun _ => ?_)
    <;> refine aL_x 10 rfl rfl (Nat.le_of_ble_eq_true rfl) (y_build tSt40_EwJ rfl rfl rfl (by first | rfl | (simp only [List.all_cons, List.all_nil, Bool.and_true, Bool.and_eq_true]; (repeat (first | refine ⟨?_, ?_⟩ | rfl | assumption)))) rfl) ?_
    <;> (refine aL_lit1a 11 tEl22_EwJ rfl rfl (Nat.le_of_ble_eq_true rfl) rfl rfl rfl (by decide) rfl ?_; intro h11 ho11; refine aL_ent (En.freeze (l := 11) (t := 11) rfl rfl) fun _ => ?_)
    <;> (refine aL_y 12 rfl rfl (Nat.le_of_ble_eq_true rfl) (y_lda_ownE (ps := [pInt exC.kind, pStrss exC.parts]) 1 tAggCutJ rfl rfl rfl (Nat.le_refl 2) (by decide) rfl rfl) ?_; intro v12 _)
    <;> (refine aL_ct (R := RSp ([[⟨[exA], 6⟩], [⟨[exB], 3⟩]], 0)) 13 202 203 rfl rfl (Nat.le_of_ble_eq_true rfl) rfl rfl rfl (callA rfl (Try.call7) rfl hCS) ?_; rintro p' rfl; refine ⟨_, _, rfl, rfl, rfl, ?_⟩; intro v202 v203 hv202 hv203 _ _; cases hv203)
    <;> refine aL_x 8 rfl rfl (Nat.le_of_ble_eq_true rfl) (y_move rfl rfl) ?_
    <;> refine aL_x 14 rfl rfl (Nat.le_of_ble_eq_true rfl) (y_extract rfl rfl rfl rfl) ?_
    <;> refine aL_x 15 rfl rfl (Nat.le_of_ble_eq_true rfl) (y_extract rfl rfl rfl rfl) ?_
    <;> refine aL_x 2 rfl rfl (Nat.le_of_ble_eq_true rfl) (y_assign rfl rfl) ?_
    <;> refine aL_x 3 rfl rfl (Nat.le_of_ble_eq_true rfl) (y_assign rfl rfl) ?_
    <;> refine aL_end ?_
    <;> (repeat (first | with_reducible refine aC_seq ?_ | with_reducible refine aC_block ?_ | with_reducible refine aN_then ?_ | with_reducible refine aN_block ?_ | with_reducible refine aC_skip ?_ | with_reducible refine aC_exit ?_ | with_reducible refine aX_then ?_ | with_reducible refine aX_block ?_ | with_reducible refine aX_other rfl ?_ | with_reducible refine aC_ret ?_ | with_reducible refine aR_then ?_ | with_reducible refine aR_block ?_)) <;> (try dsimp only))
  have fexA : fitV [⟨[exA], 6⟩] := ⟨by decide, fun x hx => by
    simp at hx; subst hx
    exact ⟨⟨by decide, fun s hs => by simp at hs; subst hs; decide⟩, by decide, by decide⟩⟩
  have fexB : fitV [⟨[exB], 3⟩] := ⟨by decide, fun x hx => by
    simp at hx; subst hx
    exact ⟨⟨by decide, fun s hs => by simp at hs; subst hs; decide⟩, by decide, by decide⟩⟩
  (refine aC_region ?_
    <;> refine aL_x 16 rfl rfl (Nat.le_of_ble_eq_true rfl) (y_move rfl rfl) ?_
    <;> refine aL_x 17 rfl rfl (Nat.le_of_ble_eq_true rfl) (y_eql rfl rfl rfl) ?_
    <;> refine aL_x 18 rfl rfl (Nat.le_of_ble_eq_true rfl) (y_move rfl rfl) ?_
    <;> (first | refine aL_skip 19 rfl rfl (Nat.le_of_ble_eq_true rfl) ?_ | refine aL_x 19 rfl rfl (Nat.le_of_ble_eq_true rfl) (y_move rfl rfl) ?_ | ((refine aL_bcase 18 rfl ?_ ?_ <;> intro hb18 <;> (first | replace hb18 := of_decide_eq_true hb18 | replace hb18 := of_decide_eq_false hb18 | skip)) <;> (first | refine aL_skip 19 rfl rfl (Nat.le_of_ble_eq_true rfl) ?_ | refine aL_x 19 rfl rfl (Nat.le_of_ble_eq_true rfl) (y_move rfl rfl) ?_)))
    <;> (first | refine aL_skip 20 rfl rfl (Nat.le_of_ble_eq_true rfl) ?_ | refine aL_x 20 rfl rfl (Nat.le_of_ble_eq_true rfl) (y_len_shr tSl29_EwJ rfl rfl) ?_ | refine aL_x 20 rfl rfl (Nat.le_of_ble_eq_true rfl) (y_len_own 1 tSl29_EwJ rfl rfl rfl) ?_ | ((refine aL_bcase 18 rfl ?_ ?_ <;> intro hb18 <;> (first | replace hb18 := of_decide_eq_true hb18 | replace hb18 := of_decide_eq_false hb18 | skip)) <;> (first | refine aL_skip 20 rfl rfl (Nat.le_of_ble_eq_true rfl) ?_ | refine aL_x 20 rfl rfl (Nat.le_of_ble_eq_true rfl) (y_len_shr tSl29_EwJ rfl rfl) ?_ | refine aL_x 20 rfl rfl (Nat.le_of_ble_eq_true rfl) (y_len_own 1 tSl29_EwJ rfl rfl rfl) ?_)))
    <;> (first | refine aL_skip 21 rfl rfl (Nat.le_of_ble_eq_true rfl) ?_ | refine aL_x 21 rfl rfl (Nat.le_of_ble_eq_true rfl) (y_eql rfl rfl rfl) ?_ | ((refine aL_bcase 18 rfl ?_ ?_ <;> intro hb18 <;> (first | replace hb18 := of_decide_eq_true hb18 | replace hb18 := of_decide_eq_false hb18 | skip)) <;> (first | refine aL_skip 21 rfl rfl (Nat.le_of_ble_eq_true rfl) ?_ | refine aL_x 21 rfl rfl (Nat.le_of_ble_eq_true rfl) (y_eql rfl rfl rfl) ?_)))
    <;> (first | refine aL_x 22 rfl rfl (Nat.le_of_ble_eq_true rfl) (y_pick rfl rfl rfl) ?_ | ((refine aL_bcase 18 rfl ?_ ?_ <;> intro hb18 <;> (first | replace hb18 := of_decide_eq_true hb18 | replace hb18 := of_decide_eq_false hb18 | skip)) <;> refine aL_x 22 rfl rfl (Nat.le_of_ble_eq_true rfl) (y_pick rfl rfl rfl) ?_))
    <;> refine aL_x 23 rfl rfl (Nat.le_of_ble_eq_true rfl) (y_move rfl rfl) ?_
    <;> (first | refine aL_skip 24 rfl rfl (Nat.le_of_ble_eq_true rfl) ?_ | refine aL_x 24 rfl rfl (Nat.le_of_ble_eq_true rfl) (y_move rfl rfl) ?_ | ((refine aL_bcase 23 rfl ?_ ?_ <;> intro hb23 <;> (first | replace hb23 := of_decide_eq_true hb23 | replace hb23 := of_decide_eq_false hb23 | skip)) <;> (first | refine aL_skip 24 rfl rfl (Nat.le_of_ble_eq_true rfl) ?_ | refine aL_x 24 rfl rfl (Nat.le_of_ble_eq_true rfl) (y_move rfl rfl) ?_)))
    <;> (first | refine aL_skip 25 rfl rfl (Nat.le_of_ble_eq_true rfl) ?_ | refine aL_x 25 rfl rfl (Nat.le_of_ble_eq_true rfl) (y_idx_shrN tSl29_EwJ rfl rfl rfl (by first | omega | (try simp only [List.length_cons, List.length_nil, List.length_map, List.length_set, List.length_append, List.length_replicate, List.length_singleton, List.flatMap_cons, List.flatMap_nil]; omega))) ?_ | refine aL_x 25 rfl rfl (Nat.le_of_ble_eq_true rfl) (y_idx_ownN 1 tSl29_EwJ rfl rfl rfl rfl (by first | omega | (try simp only [List.length_cons, List.length_nil, List.length_map, List.length_set, List.length_append, List.length_replicate, List.length_singleton, List.flatMap_cons, List.flatMap_nil]; omega))) ?_ | refine aL_x 25 rfl rfl (Nat.le_of_ble_eq_true rfl) (y_idx_shr tSl29_EwJ rfl rfl rfl (by first | omega | (try simp only [List.length_cons, List.length_nil, List.length_map, List.length_set, List.length_append, List.length_replicate, List.length_singleton, List.flatMap_cons, List.flatMap_nil]; omega)) (by first | omega | (try simp only [List.length_cons, List.length_nil, List.length_map, List.length_set, List.length_append, List.length_replicate, List.length_singleton, List.flatMap_cons, List.flatMap_nil]; omega))) ?_ | refine aL_x 25 rfl rfl (Nat.le_of_ble_eq_true rfl) (y_idx_own 1 tSl29_EwJ rfl rfl rfl rfl (by first | omega | (try simp only [List.length_cons, List.length_nil, List.length_map, List.length_set, List.length_append, List.length_replicate, List.length_singleton, List.flatMap_cons, List.flatMap_nil]; omega)) (by first | omega | (try simp only [List.length_cons, List.length_nil, List.length_map, List.length_set, List.length_append, List.length_replicate, List.length_singleton, List.flatMap_cons, List.flatMap_nil]; omega))) ?_ | ((refine aL_bcase 23 rfl ?_ ?_ <;> intro hb23 <;> (first | replace hb23 := of_decide_eq_true hb23 | replace hb23 := of_decide_eq_false hb23 | skip)) <;> (first | refine aL_skip 25 rfl rfl (Nat.le_of_ble_eq_true rfl) ?_ | refine aL_x 25 rfl rfl (Nat.le_of_ble_eq_true rfl) (y_idx_shrN tSl29_EwJ rfl rfl rfl (by first | omega | (try simp only [List.length_cons, List.length_nil, List.length_map, List.length_set, List.length_append, List.length_replicate, List.length_singleton, List.flatMap_cons, List.flatMap_nil]; omega))) ?_ | refine aL_x 25 rfl rfl (Nat.le_of_ble_eq_true rfl) (y_idx_ownN 1 tSl29_EwJ rfl rfl rfl rfl (by first | omega | (try simp only [List.length_cons, List.length_nil, List.length_map, List.length_set, List.length_append, List.length_replicate, List.length_singleton, List.flatMap_cons, List.flatMap_nil]; omega))) ?_ | refine aL_x 25 rfl rfl (Nat.le_of_ble_eq_true rfl) (y_idx_shr tSl29_EwJ rfl rfl rfl (by first | omega | (try simp only [List.length_cons, List.length_nil, List.length_map, List.length_set, List.length_append, List.length_replicate, List.length_singleton, List.flatMap_cons, List.flatMap_nil]; omega)) (by first | omega | (try simp only [List.length_cons, List.length_nil, List.length_map, List.length_set, List.length_append, List.length_replicate, List.length_singleton, List.flatMap_cons, List.flatMap_nil]; omega))) ?_ | refine aL_x 25 rfl rfl (Nat.le_of_ble_eq_true rfl) (y_idx_own 1 tSl29_EwJ rfl rfl rfl rfl (by first | omega | (try simp only [List.length_cons, List.length_nil, List.length_map, List.length_set, List.length_append, List.length_replicate, List.length_singleton, List.flatMap_cons, List.flatMap_nil]; omega)) (by first | omega | (try simp only [List.length_cons, List.length_nil, List.length_map, List.length_set, List.length_append, List.length_replicate, List.length_singleton, List.flatMap_cons, List.flatMap_nil]; omega))) ?_)))
    <;> (first | refine aL_skip 26 rfl rfl (Nat.le_of_ble_eq_true rfl) ?_ | (refine aL_y 26 rfl rfl (Nat.le_of_ble_eq_true rfl) (y_ld_shr tNa22_EwJ rfl rfl rfl) ?_; intro v26 hv26; cases hv26) | (refine aL_y 26 rfl rfl (Nat.le_of_ble_eq_true rfl) (y_ld_own 1 tNa22_EwJ rfl rfl rfl rfl rfl) ?_; intro v26 hv26; cases hv26) | (refine aL_y 26 rfl rfl (Nat.le_of_ble_eq_true rfl) (y_ld_shr tNa22_EwJ rfl rfl (by assumption)) ?_; intro v26 hv26; cases hv26) | (refine aL_y 26 rfl rfl (Nat.le_of_ble_eq_true rfl) (y_ld_own 1 tNa22_EwJ rfl rfl rfl (by assumption) rfl) ?_; intro v26 hv26; cases hv26) | ((refine aL_bcase 23 rfl ?_ ?_ <;> intro hb23 <;> (first | replace hb23 := of_decide_eq_true hb23 | replace hb23 := of_decide_eq_false hb23 | skip)) <;> (first | refine aL_skip 26 rfl rfl (Nat.le_of_ble_eq_true rfl) ?_ | (refine aL_y 26 rfl rfl (Nat.le_of_ble_eq_true rfl) (y_ld_shr tNa22_EwJ rfl rfl rfl) ?_; intro v26 hv26; cases hv26) | (refine aL_y 26 rfl rfl (Nat.le_of_ble_eq_true rfl) (y_ld_own 1 tNa22_EwJ rfl rfl rfl rfl rfl) ?_; intro v26 hv26; cases hv26) | (refine aL_y 26 rfl rfl (Nat.le_of_ble_eq_true rfl) (y_ld_shr tNa22_EwJ rfl rfl (by assumption)) ?_; intro v26 hv26; cases hv26) | (refine aL_y 26 rfl rfl (Nat.le_of_ble_eq_true rfl) (y_ld_own 1 tNa22_EwJ rfl rfl rfl (by assumption) rfl) ?_; intro v26 hv26; cases hv26))))
    <;> (first | refine aL_skip 27 rfl rfl (Nat.le_of_ble_eq_true rfl) ?_ | (refine aL_lit1 (kk := 1) 27 tEl38_EwJ rfl rfl (Nat.le_of_ble_eq_true rfl) rfl rfl rfl rfl ?_; intro h27 ho27; refine aL_ent (En.freeze (l := 27) (t := 27) rfl rfl) fun _ => ?_) | ((refine aL_bcase 23 rfl ?_ ?_ <;> intro hb23 <;> (first | replace hb23 := of_decide_eq_true hb23 | replace hb23 := of_decide_eq_false hb23 | skip)) <;> (first | refine aL_skip 27 rfl rfl (Nat.le_of_ble_eq_true rfl) ?_ | (refine aL_lit1 (kk := 1) 27 tEl38_EwJ rfl rfl (Nat.le_of_ble_eq_true rfl) rfl rfl rfl rfl ?_; intro h27 ho27; refine aL_ent (En.freeze (l := 27) (t := 27) rfl rfl) fun _ => ?_))))
    <;> (first | refine aL_skip 28 rfl rfl (Nat.le_of_ble_eq_true rfl) ?_ | refine aL_x 28 rfl rfl (Nat.le_of_ble_eq_true rfl) (y_build tSt40_EwJ rfl rfl rfl (by first | rfl | (simp only [List.all_cons, List.all_nil, Bool.and_true, Bool.and_eq_true]; (repeat (first | refine ⟨?_, ?_⟩ | rfl | assumption)))) rfl) ?_ | ((refine aL_bcase 23 rfl ?_ ?_ <;> intro hb23 <;> (first | replace hb23 := of_decide_eq_true hb23 | replace hb23 := of_decide_eq_false hb23 | skip)) <;> (first | refine aL_skip 28 rfl rfl (Nat.le_of_ble_eq_true rfl) ?_ | refine aL_x 28 rfl rfl (Nat.le_of_ble_eq_true rfl) (y_build tSt40_EwJ rfl rfl rfl (by first | rfl | (simp only [List.all_cons, List.all_nil, Bool.and_true, Bool.and_eq_true]; (repeat (first | refine ⟨?_, ?_⟩ | rfl | assumption)))) rfl) ?_)))
    <;> (first | refine aL_skip 29 rfl rfl (Nat.le_of_ble_eq_true rfl) ?_ | (refine aL_lit1a 29 tEl22_EwJ rfl rfl (Nat.le_of_ble_eq_true rfl) rfl rfl rfl (by decide) rfl ?_; intro h29 ho29; refine aL_ent (En.freeze (l := 29) (t := 29) rfl rfl) fun _ => ?_) | ((refine aL_bcase 23 rfl ?_ ?_ <;> intro hb23 <;> (first | replace hb23 := of_decide_eq_true hb23 | replace hb23 := of_decide_eq_false hb23 | skip)) <;> (first | refine aL_skip 29 rfl rfl (Nat.le_of_ble_eq_true rfl) ?_ | (refine aL_lit1a 29 tEl22_EwJ rfl rfl (Nat.le_of_ble_eq_true rfl) rfl rfl rfl (by decide) rfl ?_; intro h29 ho29; refine aL_ent (En.freeze (l := 29) (t := 29) rfl rfl) fun _ => ?_))))
    <;> (first | refine aL_skip 30 rfl rfl (Nat.le_of_ble_eq_true rfl) ?_ | (refine aL_cs 30 rfl rfl (Nat.le_of_ble_eq_true rfl) (callA rfl (Try.call11) rfl (rSameVariants_e [⟨[exA], 6⟩] [⟨[exA], 6⟩] fexA fexA)) ?_; rintro p' rfl; refine ⟨rfl, ?_⟩; intro v30 hv30; cases hv30) | ((refine aL_bcase 23 rfl ?_ ?_ <;> intro hb23 <;> (first | replace hb23 := of_decide_eq_true hb23 | replace hb23 := of_decide_eq_false hb23 | skip)) <;> (first | refine aL_skip 30 rfl rfl (Nat.le_of_ble_eq_true rfl) ?_ | (refine aL_cs 30 rfl rfl (Nat.le_of_ble_eq_true rfl) (callA rfl (Try.call11) rfl (rSameVariants_e [⟨[exA], 6⟩] [⟨[exA], 6⟩] fexA fexA)) ?_; rintro p' rfl; refine ⟨rfl, ?_⟩; intro v30 hv30; cases hv30))))
    <;> (first | refine aL_x 31 rfl rfl (Nat.le_of_ble_eq_true rfl) (y_pick rfl rfl rfl) ?_ | ((refine aL_bcase 23 rfl ?_ ?_ <;> intro hb23 <;> (first | replace hb23 := of_decide_eq_true hb23 | replace hb23 := of_decide_eq_false hb23 | skip)) <;> refine aL_x 31 rfl rfl (Nat.le_of_ble_eq_true rfl) (y_pick rfl rfl rfl) ?_))
    <;> refine aL_x 32 rfl rfl (Nat.le_of_ble_eq_true rfl) (y_move rfl rfl) ?_
    <;> (first | refine aL_skip 33 rfl rfl (Nat.le_of_ble_eq_true rfl) ?_ | refine aL_x 33 rfl rfl (Nat.le_of_ble_eq_true rfl) (y_move rfl rfl) ?_ | ((refine aL_bcase 32 rfl ?_ ?_ <;> intro hb32 <;> (first | replace hb32 := of_decide_eq_true hb32 | replace hb32 := of_decide_eq_false hb32 | skip)) <;> (first | refine aL_skip 33 rfl rfl (Nat.le_of_ble_eq_true rfl) ?_ | refine aL_x 33 rfl rfl (Nat.le_of_ble_eq_true rfl) (y_move rfl rfl) ?_)))
    <;> (first | refine aL_skip 34 rfl rfl (Nat.le_of_ble_eq_true rfl) ?_ | refine aL_x 34 rfl rfl (Nat.le_of_ble_eq_true rfl) (y_idx_shrN tSl29_EwJ rfl rfl rfl (by first | omega | (try simp only [List.length_cons, List.length_nil, List.length_map, List.length_set, List.length_append, List.length_replicate, List.length_singleton, List.flatMap_cons, List.flatMap_nil]; omega))) ?_ | refine aL_x 34 rfl rfl (Nat.le_of_ble_eq_true rfl) (y_idx_ownN 1 tSl29_EwJ rfl rfl rfl rfl (by first | omega | (try simp only [List.length_cons, List.length_nil, List.length_map, List.length_set, List.length_append, List.length_replicate, List.length_singleton, List.flatMap_cons, List.flatMap_nil]; omega))) ?_ | refine aL_x 34 rfl rfl (Nat.le_of_ble_eq_true rfl) (y_idx_shr tSl29_EwJ rfl rfl rfl (by first | omega | (try simp only [List.length_cons, List.length_nil, List.length_map, List.length_set, List.length_append, List.length_replicate, List.length_singleton, List.flatMap_cons, List.flatMap_nil]; omega)) (by first | omega | (try simp only [List.length_cons, List.length_nil, List.length_map, List.length_set, List.length_append, List.length_replicate, List.length_singleton, List.flatMap_cons, List.flatMap_nil]; omega))) ?_ | refine aL_x 34 rfl rfl (Nat.le_of_ble_eq_true rfl) (y_idx_own 1 tSl29_EwJ rfl rfl rfl rfl (by first | omega | (try simp only [List.length_cons, List.length_nil, List.length_map, List.length_set, List.length_append, List.length_replicate, List.length_singleton, List.flatMap_cons, List.flatMap_nil]; omega)) (by first | omega | (try simp only [List.length_cons, List.length_nil, List.length_map, List.length_set, List.length_append, List.length_replicate, List.length_singleton, List.flatMap_cons, List.flatMap_nil]; omega))) ?_ | ((refine aL_bcase 32 rfl ?_ ?_ <;> intro hb32 <;> (first | replace hb32 := of_decide_eq_true hb32 | replace hb32 := of_decide_eq_false hb32 | skip)) <;> (first | refine aL_skip 34 rfl rfl (Nat.le_of_ble_eq_true rfl) ?_ | refine aL_x 34 rfl rfl (Nat.le_of_ble_eq_true rfl) (y_idx_shrN tSl29_EwJ rfl rfl rfl (by first | omega | (try simp only [List.length_cons, List.length_nil, List.length_map, List.length_set, List.length_append, List.length_replicate, List.length_singleton, List.flatMap_cons, List.flatMap_nil]; omega))) ?_ | refine aL_x 34 rfl rfl (Nat.le_of_ble_eq_true rfl) (y_idx_ownN 1 tSl29_EwJ rfl rfl rfl rfl (by first | omega | (try simp only [List.length_cons, List.length_nil, List.length_map, List.length_set, List.length_append, List.length_replicate, List.length_singleton, List.flatMap_cons, List.flatMap_nil]; omega))) ?_ | refine aL_x 34 rfl rfl (Nat.le_of_ble_eq_true rfl) (y_idx_shr tSl29_EwJ rfl rfl rfl (by first | omega | (try simp only [List.length_cons, List.length_nil, List.length_map, List.length_set, List.length_append, List.length_replicate, List.length_singleton, List.flatMap_cons, List.flatMap_nil]; omega)) (by first | omega | (try simp only [List.length_cons, List.length_nil, List.length_map, List.length_set, List.length_append, List.length_replicate, List.length_singleton, List.flatMap_cons, List.flatMap_nil]; omega))) ?_ | refine aL_x 34 rfl rfl (Nat.le_of_ble_eq_true rfl) (y_idx_own 1 tSl29_EwJ rfl rfl rfl rfl (by first | omega | (try simp only [List.length_cons, List.length_nil, List.length_map, List.length_set, List.length_append, List.length_replicate, List.length_singleton, List.flatMap_cons, List.flatMap_nil]; omega)) (by first | omega | (try simp only [List.length_cons, List.length_nil, List.length_map, List.length_set, List.length_append, List.length_replicate, List.length_singleton, List.flatMap_cons, List.flatMap_nil]; omega))) ?_)))
    <;> (first | refine aL_skip 35 rfl rfl (Nat.le_of_ble_eq_true rfl) ?_ | (refine aL_y 35 rfl rfl (Nat.le_of_ble_eq_true rfl) (y_ld_shr tNa22_EwJ rfl rfl rfl) ?_; intro v35 hv35; cases hv35) | (refine aL_y 35 rfl rfl (Nat.le_of_ble_eq_true rfl) (y_ld_own 1 tNa22_EwJ rfl rfl rfl rfl rfl) ?_; intro v35 hv35; cases hv35) | (refine aL_y 35 rfl rfl (Nat.le_of_ble_eq_true rfl) (y_ld_shr tNa22_EwJ rfl rfl (by assumption)) ?_; intro v35 hv35; cases hv35) | (refine aL_y 35 rfl rfl (Nat.le_of_ble_eq_true rfl) (y_ld_own 1 tNa22_EwJ rfl rfl rfl (by assumption) rfl) ?_; intro v35 hv35; cases hv35) | ((refine aL_bcase 32 rfl ?_ ?_ <;> intro hb32 <;> (first | replace hb32 := of_decide_eq_true hb32 | replace hb32 := of_decide_eq_false hb32 | skip)) <;> (first | refine aL_skip 35 rfl rfl (Nat.le_of_ble_eq_true rfl) ?_ | (refine aL_y 35 rfl rfl (Nat.le_of_ble_eq_true rfl) (y_ld_shr tNa22_EwJ rfl rfl rfl) ?_; intro v35 hv35; cases hv35) | (refine aL_y 35 rfl rfl (Nat.le_of_ble_eq_true rfl) (y_ld_own 1 tNa22_EwJ rfl rfl rfl rfl rfl) ?_; intro v35 hv35; cases hv35) | (refine aL_y 35 rfl rfl (Nat.le_of_ble_eq_true rfl) (y_ld_shr tNa22_EwJ rfl rfl (by assumption)) ?_; intro v35 hv35; cases hv35) | (refine aL_y 35 rfl rfl (Nat.le_of_ble_eq_true rfl) (y_ld_own 1 tNa22_EwJ rfl rfl rfl (by assumption) rfl) ?_; intro v35 hv35; cases hv35))))
    <;> (first | refine aL_skip 36 rfl rfl (Nat.le_of_ble_eq_true rfl) ?_ | (refine aL_lit1 (kk := 1) 36 tEl38_EwJ rfl rfl (Nat.le_of_ble_eq_true rfl) rfl rfl rfl rfl ?_; intro h36 ho36; refine aL_ent (En.freeze (l := 36) (t := 36) rfl rfl) fun _ => ?_) | ((refine aL_bcase 32 rfl ?_ ?_ <;> intro hb32 <;> (first | replace hb32 := of_decide_eq_true hb32 | replace hb32 := of_decide_eq_false hb32 | skip)) <;> (first | refine aL_skip 36 rfl rfl (Nat.le_of_ble_eq_true rfl) ?_ | (refine aL_lit1 (kk := 1) 36 tEl38_EwJ rfl rfl (Nat.le_of_ble_eq_true rfl) rfl rfl rfl rfl ?_; intro h36 ho36; refine aL_ent (En.freeze (l := 36) (t := 36) rfl rfl) fun _ => ?_))))
    <;> (first | refine aL_skip 37 rfl rfl (Nat.le_of_ble_eq_true rfl) ?_ | refine aL_x 37 rfl rfl (Nat.le_of_ble_eq_true rfl) (y_build tSt40_EwJ rfl rfl rfl (by first | rfl | (simp only [List.all_cons, List.all_nil, Bool.and_true, Bool.and_eq_true]; (repeat (first | refine ⟨?_, ?_⟩ | rfl | assumption)))) rfl) ?_ | ((refine aL_bcase 32 rfl ?_ ?_ <;> intro hb32 <;> (first | replace hb32 := of_decide_eq_true hb32 | replace hb32 := of_decide_eq_false hb32 | skip)) <;> (first | refine aL_skip 37 rfl rfl (Nat.le_of_ble_eq_true rfl) ?_ | refine aL_x 37 rfl rfl (Nat.le_of_ble_eq_true rfl) (y_build tSt40_EwJ rfl rfl rfl (by first | rfl | (simp only [List.all_cons, List.all_nil, Bool.and_true, Bool.and_eq_true]; (repeat (first | refine ⟨?_, ?_⟩ | rfl | assumption)))) rfl) ?_)))
    <;> (first | refine aL_skip 38 rfl rfl (Nat.le_of_ble_eq_true rfl) ?_ | (refine aL_lit1a 38 tEl22_EwJ rfl rfl (Nat.le_of_ble_eq_true rfl) rfl rfl rfl (by decide) rfl ?_; intro h38 ho38; refine aL_ent (En.freeze (l := 38) (t := 38) rfl rfl) fun _ => ?_) | ((refine aL_bcase 32 rfl ?_ ?_ <;> intro hb32 <;> (first | replace hb32 := of_decide_eq_true hb32 | replace hb32 := of_decide_eq_false hb32 | skip)) <;> (first | refine aL_skip 38 rfl rfl (Nat.le_of_ble_eq_true rfl) ?_ | (refine aL_lit1a 38 tEl22_EwJ rfl rfl (Nat.le_of_ble_eq_true rfl) rfl rfl rfl (by decide) rfl ?_; intro h38 ho38; refine aL_ent (En.freeze (l := 38) (t := 38) rfl rfl) fun _ => ?_))))
    <;> (first | refine aL_skip 39 rfl rfl (Nat.le_of_ble_eq_true rfl) ?_ | (refine aL_cs 39 rfl rfl (Nat.le_of_ble_eq_true rfl) (callA rfl (Try.call11) rfl (rSameVariants_e [⟨[exB], 3⟩] [⟨[exB], 3⟩] fexB fexB)) ?_; rintro p' rfl; refine ⟨rfl, ?_⟩; intro v39 hv39; cases hv39) | ((refine aL_bcase 32 rfl ?_ ?_ <;> intro hb32 <;> (first | replace hb32 := of_decide_eq_true hb32 | replace hb32 := of_decide_eq_false hb32 | skip)) <;> (first | refine aL_skip 39 rfl rfl (Nat.le_of_ble_eq_true rfl) ?_ | (refine aL_cs 39 rfl rfl (Nat.le_of_ble_eq_true rfl) (callA rfl (Try.call11) rfl (rSameVariants_e [⟨[exB], 3⟩] [⟨[exB], 3⟩] fexB fexB)) ?_; rintro p' rfl; refine ⟨rfl, ?_⟩; intro v39 hv39; cases hv39))))
    <;> (first | refine aL_x 40 rfl rfl (Nat.le_of_ble_eq_true rfl) (y_pick rfl rfl rfl) ?_ | ((refine aL_bcase 32 rfl ?_ ?_ <;> intro hb32 <;> (first | replace hb32 := of_decide_eq_true hb32 | replace hb32 := of_decide_eq_false hb32 | skip)) <;> refine aL_x 40 rfl rfl (Nat.le_of_ble_eq_true rfl) (y_pick rfl rfl rfl) ?_))
    <;> refine aL_x 0 rfl rfl (Nat.le_of_ble_eq_true rfl) (y_assign rfl rfl) ?_
    <;> refine aL_end ?_
    <;> (repeat (first | with_reducible refine aC_seq ?_ | with_reducible refine aC_block ?_ | with_reducible refine aN_then ?_ | with_reducible refine aN_block ?_ | with_reducible refine aC_skip ?_ | with_reducible refine aC_exit ?_ | with_reducible refine aX_then ?_ | with_reducible refine aX_block ?_ | with_reducible refine aX_other rfl ?_ | with_reducible refine aC_ret ?_ | with_reducible refine aR_then ?_ | with_reducible refine aR_block ?_)) <;> (try dsimp only))
  · refine ret_shr (Try.results4) rfl ?_
    show pBool (sameVars [⟨[exB], 3⟩] [⟨[exB], 3⟩]) = _
    rw [show sameVars [⟨[exB], 3⟩] [⟨[exB], 3⟩] = true by kernel_rfl]
  · rw [show sameVars [⟨[exA], 6⟩] [⟨[exA], 6⟩] = true by kernel_rfl] at hb32
    cases hb32
end Go.Proofs.Ytoanjgpdepaciaa

namespace Go.Proofs.Ytoanjgpdepaciaa
open Go.RowKit Go.Cb Go.En
set_option linter.all false
set_option maxRecDepth 100000

theorem tAgg25_EwK : AggT Try.prog 25 2 = true := by kernel_rfl

/-! ### What the reference hands back is of moderate size, and the same as itself -/
theorem sameVars_self : ∀ l : List Var, sameVars l l = true
  | [] => rfl
  | x :: l => by
    rw [sameVars, sameVars_self l]
    unfold sameVar
    rw [cmpStrs_zero.2 rfl]; simp
theorem all2_self : ∀ l : List (List Var), all2 sameVars l l = true
  | [] => rfl
  | x :: l => by rw [all2, sameVars_self, all2_self l]; rfl
theorem foldl_ok {n : Int} (h0 : 0 ≤ n) (h1 : n ≤ 1048576) : ∀ {ps : List Piece} {m : Nat} {S : List (List Var)}, RowsOk m S → RowsOk (m + ps.length) (ps.foldl (putPiece n) S)
  | [], m, S, h => h
  | p :: ps, m, S, h => by
    have := foldl_ok h0 h1 (ps := ps) (putPiece_ok (p := p) h0 h1 h)
    rw [List.length_cons, show m + (ps.length + 1) = m + 1 + ps.length by omega]
    exact this
theorem put_wr {n : Int} {S : List (List Var)} {p : Piece} (h : WR S) (hp : WOk p.word) : WR (putPiece n S p) := by
  unfold putPiece
  split
  · rename_i r hr
    intro r' hr' x hx
    rcases List.mem_or_eq_of_mem_set hr' with h1 | h1
    · exact h r' h1 x hx
    · rw [h1] at hx
      rcases addVar_mem hx with e | hz
      · rw [e]; exact hp
      · exact h r (List.mem_of_getElem? hr) x hz
  · exact h
theorem foldl_wr {n : Int} : ∀ {ps : List Piece} {S : List (List Var)}, WR S → (∀ p ∈ ps, WOk p.word) → WR (ps.foldl (putPiece n) S)
  | [], S, h, _ => h
  | p :: ps, S, h, hp => foldl_wr (ps := ps) (put_wr h (hp p (by simp))) (fun q hq => hp q (by simp [hq]))
theorem splitAll_ok {c : Cut} (hn : 0 < c.parts.length) (hc : c.parts.length ≤ 1000000) : ∀ {l : List Var} {m : Nat} {S T : List (List Var)}, WR S → RowsOk m S → S.length = c.parts.length → (∀ x ∈ l, okVar x = true ∧ ∀ s ∈ x.acts, 0 ≤ partOf c.parts s) → splitAll c S l = some T → WR T ∧ RowsOk (m + l.length * 1000300) T ∧ T.length = c.parts.length
  | [], m, S, T, h1, h2, h3, _, he => by
    simp [splitAll] at he; subst he
    exact ⟨h1, by simpa using h2, h3⟩
  | x :: l, m, S, T, h1, h2, h3, hl, he => by
    rw [splitAll] at he
    cases hO : splitOf c x.acts with
    | none => rw [hO] at he; cases he
    | some ps =>
      rw [hO] at he
      have hx := hl x (by simp)
      have hcnt := okVar_count hx.1
      have hps := splitOf_ok hn hx.2 hO
      have hxl : x.acts.length ≤ 200 := by have := hx.1; simp only [okVar, Bool.and_eq_true, decide_eq_true_eq] at this; exact this.1.1.1
      have h4 := RowsOk.mono (n := m + 1000300) (foldl_ok (ps := ps) (show 0 ≤ x.count by omega) hcnt.2 h2) (by have := hps.1; omega)
      obtain ⟨a, b, d⟩ := splitAll_ok hn hc (foldl_wr h1 (splitOf_wok hx.1 hO)) h4 (by rw [foldl_put_len]; exact h3) (fun y hy => hl y (by simp [hy])) he
      refine ⟨a, ?_, d⟩
      rw [List.length_cons, show m + (l.length + 1) * 1000300 = m + 1000300 + l.length * 1000300 by omega]
      exact b
theorem splitR_fit {l : List Var} {c : Cut} (hc : c.parts.length ≤ 1000000) : fitVV (splitR l c).1 := by
  have h0 : fitVV [] := ⟨by decide, fun r h => by simp at h⟩
  unfold splitR
  split
  · exact h0
  · rename_i hv
    split
    · exact h0
    · rename_i hi
      have hv' : validVars l = true ∧ formedB c = true := by simpa using hv
      have hi' : inParts c.parts l = true := by simpa using hi
      split
      · exact h0
      · rename_i S hS
        split
        · exact h0
        · split
          · exact h0
          · have hk := formed_kind hv'.2
            have hll : l.length ≤ 300 := by have := hv'.1; simp only [validVars, Bool.and_eq_true, decide_eq_true_eq] at this; exact this.1
            obtain ⟨a, b, d⟩ := splitAll_ok (by omega) hc (wr_rep _) (rowsOk_rep _) (by simp) (fun x hx => by
              obtain ⟨i, hx'⟩ := List.getElem?_of_mem hx
              refine ⟨validVars_at hv'.1 hx', fun s hs => ?_⟩
              unfold inParts at hi'
              rw [List.all_eq_true] at hi'
              have := hi' x hx
              rw [List.all_eq_true] at this
              exact of_decide_eq_true (this s hs)) hS
            refine ⟨by show S.length ≤ _; omega, fun r hr => ?_⟩
            have h5 := b r hr
            refine ⟨by have := h5.1; omega, fun x hx => ⟨wok_fit (a r hr x hx), ?_, ?_⟩⟩
            · have := (h5.2 x hx).1; omega
            · have := (h5.2 x hx).2; omega

theorem cutSplits_e (l : List Var) (c : Cut) (hl0 : fitV l) (hc0 : fitC c) : AF Try.prog 3 [pVars l, pCut c] (· = pBool true) := by
  refine AF.of_body 42 Try.func3 rfl Try.ntmps3 (Nat.le_of_ble_eq_true rfl) ?_
  intro w0 M0 vs hl hv
  obtain ⟨v0, v1, rfl⟩ := len2 hl
  clear hl hv
  (repeat (first | with_reducible refine aC_seq ?_ | with_reducible refine aC_block ?_ | with_reducible refine aN_then ?_ | with_reducible refine aN_block ?_ | with_reducible refine aC_skip ?_ | with_reducible refine aC_exit ?_ | with_reducible refine aX_then ?_ | with_reducible refine aX_block ?_ | with_reducible refine aX_other rfl ?_ | with_reducible refine aC_ret ?_ | with_reducible refine aR_then ?_ | with_reducible refine aR_block ?_))
  (refine aC_region ?_
    <;> (refine aL_boxa 3 2 rfl rfl (Nat.le_of_ble_eq_true rfl) rfl rfl rfl rfl ?_; intro h3)
    <;> refine aL_x 4 rfl rfl (Nat.le_of_ble_eq_true rfl) (y_assign rfl rfl) ?_
    <;> refine aL_end ?_
    <;> (repeat (first | with_reducible refine aC_seq ?_ | with_reducible refine aC_block ?_ | with_reducible refine aN_then ?_ | with_reducible refine aN_block ?_ | with_reducible refine aC_skip ?_ | with_reducible refine aC_exit ?_ | with_reducible refine aX_then ?_ | with_reducible refine aX_block ?_ | with_reducible refine aX_other rfl ?_ | with_reducible refine aC_ret ?_ | with_reducible refine aR_then ?_ | with_reducible refine aR_block ?_)) <;> (try dsimp only))
  (refine aC_region ?_
    <;> (refine aL_cs 9 rfl rfl (Nat.le_of_ble_eq_true rfl) (callA rfl (Try.call4) rfl awake_e) ?_; rintro p' rfl; refine ⟨rfl, ?_⟩; intro v9 hv9; cases hv9)
    <;> refine aL_x 10 rfl rfl (Nat.le_of_ble_eq_true rfl) (y_not rfl rfl) ?_
    <;> refine aL_x 11 rfl rfl (Nat.le_of_ble_eq_true rfl) (y_move rfl rfl) ?_
    <;> (first | refine aL_skip 12 rfl rfl (Nat.le_of_ble_eq_true rfl) ?_ | refine aL_x 12 rfl rfl (Nat.le_of_ble_eq_true rfl) (y_move rfl rfl) ?_ | ((refine aL_bcase 11 rfl ?_ ?_ <;> intro hb11 <;> (first | replace hb11 := of_decide_eq_true hb11 | replace hb11 := of_decide_eq_false hb11 | skip)) <;> (first | refine aL_skip 12 rfl rfl (Nat.le_of_ble_eq_true rfl) ?_ | refine aL_x 12 rfl rfl (Nat.le_of_ble_eq_true rfl) (y_move rfl rfl) ?_)))
    <;> (first | refine aL_skip 13 rfl rfl (Nat.le_of_ble_eq_true rfl) ?_ | (refine aL_cs 13 rfl rfl (Nat.le_of_ble_eq_true rfl) (callA rfl (Try.call5) rfl (fewVariants_e l hl0)) ?_; rintro p' rfl; refine ⟨rfl, ?_⟩; intro v13 hv13; cases hv13) | ((refine aL_bcase 11 rfl ?_ ?_ <;> intro hb11 <;> (first | replace hb11 := of_decide_eq_true hb11 | replace hb11 := of_decide_eq_false hb11 | skip)) <;> (first | refine aL_skip 13 rfl rfl (Nat.le_of_ble_eq_true rfl) ?_ | (refine aL_cs 13 rfl rfl (Nat.le_of_ble_eq_true rfl) (callA rfl (Try.call5) rfl (fewVariants_e l hl0)) ?_; rintro p' rfl; refine ⟨rfl, ?_⟩; intro v13 hv13; cases hv13))))
    <;> (first | refine aL_skip 14 rfl rfl (Nat.le_of_ble_eq_true rfl) ?_ | refine aL_x 14 rfl rfl (Nat.le_of_ble_eq_true rfl) (y_not rfl rfl) ?_ | ((refine aL_bcase 11 rfl ?_ ?_ <;> intro hb11 <;> (first | replace hb11 := of_decide_eq_true hb11 | replace hb11 := of_decide_eq_false hb11 | skip)) <;> (first | refine aL_skip 14 rfl rfl (Nat.le_of_ble_eq_true rfl) ?_ | refine aL_x 14 rfl rfl (Nat.le_of_ble_eq_true rfl) (y_not rfl rfl) ?_)))
    <;> (first | refine aL_x 15 rfl rfl (Nat.le_of_ble_eq_true rfl) (y_pick rfl rfl rfl) ?_ | ((refine aL_bcase 11 rfl ?_ ?_ <;> intro hb11 <;> (first | replace hb11 := of_decide_eq_true hb11 | replace hb11 := of_decide_eq_false hb11 | skip)) <;> refine aL_x 15 rfl rfl (Nat.le_of_ble_eq_true rfl) (y_pick rfl rfl rfl) ?_))
    <;> refine aL_x 16 rfl rfl (Nat.le_of_ble_eq_true rfl) (y_move rfl rfl) ?_
    <;> (first | refine aL_skip 17 rfl rfl (Nat.le_of_ble_eq_true rfl) ?_ | (refine aL_y 17 rfl rfl (Nat.le_of_ble_eq_true rfl) (y_lda_shrE tAgg25_EwK rfl rfl (by first | omega | (try simp only [List.length_cons, List.length_nil, List.length_map, List.length_set, List.length_append, List.length_replicate, List.length_singleton, List.flatMap_cons, List.flatMap_nil]; omega)) (by first | assumption | rfl)) ?_; intro v17 hv17; cases hv17) | (refine aL_y 17 rfl rfl (Nat.le_of_ble_eq_true rfl) (y_lda_ownE 3 tAgg25_EwK rfl rfl rfl (by first | omega | (try simp only [List.length_cons, List.length_nil, List.length_map, List.length_set, List.length_append, List.length_replicate, List.length_singleton, List.flatMap_cons, List.flatMap_nil]; omega)) (by decide) (by first | assumption | rfl) (by first | rfl | decide)) ?_; intro v17 hv17; cases hv17) | ((refine aL_bcase 16 rfl ?_ ?_ <;> intro hb16 <;> (first | replace hb16 := of_decide_eq_true hb16 | replace hb16 := of_decide_eq_false hb16 | skip)) <;> (first | refine aL_skip 17 rfl rfl (Nat.le_of_ble_eq_true rfl) ?_ | (refine aL_y 17 rfl rfl (Nat.le_of_ble_eq_true rfl) (y_lda_shrE tAgg25_EwK rfl rfl (by first | omega | (try simp only [List.length_cons, List.length_nil, List.length_map, List.length_set, List.length_append, List.length_replicate, List.length_singleton, List.flatMap_cons, List.flatMap_nil]; omega)) (by first | assumption | rfl)) ?_; intro v17 hv17; cases hv17) | (refine aL_y 17 rfl rfl (Nat.le_of_ble_eq_true rfl) (y_lda_ownE 3 tAgg25_EwK rfl rfl rfl (by first | omega | (try simp only [List.length_cons, List.length_nil, List.length_map, List.length_set, List.length_append, List.length_replicate, List.length_singleton, List.flatMap_cons, List.flatMap_nil]; omega)) (by decide) (by first | assumption | rfl) (by first | rfl | decide)) ?_; intro v17 hv17; cases hv17))))
    <;> (first | refine aL_skip 18 rfl rfl (Nat.le_of_ble_eq_true rfl) ?_ | (refine aL_cs 18 rfl rfl (Nat.le_of_ble_eq_true rfl) (callA rfl (Try.call6) rfl (few_e c hc0)) ?_; rintro p' rfl; refine ⟨rfl, ?_⟩; intro v18 hv18; cases hv18) | ((refine aL_bcase 16 rfl ?_ ?_ <;> intro hb16 <;> (first | replace hb16 := of_decide_eq_true hb16 | replace hb16 := of_decide_eq_false hb16 | skip)) <;> (first | refine aL_skip 18 rfl rfl (Nat.le_of_ble_eq_true rfl) ?_ | (refine aL_cs 18 rfl rfl (Nat.le_of_ble_eq_true rfl) (callA rfl (Try.call6) rfl (few_e c hc0)) ?_; rintro p' rfl; refine ⟨rfl, ?_⟩; intro v18 hv18; cases hv18))))
    <;> (first | refine aL_skip 19 rfl rfl (Nat.le_of_ble_eq_true rfl) ?_ | refine aL_x 19 rfl rfl (Nat.le_of_ble_eq_true rfl) (y_not rfl rfl) ?_ | ((refine aL_bcase 16 rfl ?_ ?_ <;> intro hb16 <;> (first | replace hb16 := of_decide_eq_true hb16 | replace hb16 := of_decide_eq_false hb16 | skip)) <;> (first | refine aL_skip 19 rfl rfl (Nat.le_of_ble_eq_true rfl) ?_ | refine aL_x 19 rfl rfl (Nat.le_of_ble_eq_true rfl) (y_not rfl rfl) ?_)))
    <;> (first | refine aL_x 20 rfl rfl (Nat.le_of_ble_eq_true rfl) (y_pick rfl rfl rfl) ?_ | ((refine aL_bcase 16 rfl ?_ ?_ <;> intro hb16 <;> (first | replace hb16 := of_decide_eq_true hb16 | replace hb16 := of_decide_eq_false hb16 | skip)) <;> refine aL_x 20 rfl rfl (Nat.le_of_ble_eq_true rfl) (y_pick rfl rfl rfl) ?_))
    <;> refine aL_end ?_
    <;> (repeat (first | with_reducible refine aC_seq ?_ | with_reducible refine aC_block ?_ | with_reducible refine aN_then ?_ | with_reducible refine aN_block ?_ | with_reducible refine aC_skip ?_ | with_reducible refine aC_exit ?_ | with_reducible refine aX_then ?_ | with_reducible refine aX_block ?_ | with_reducible refine aX_other rfl ?_ | with_reducible refine aC_ret ?_ | with_reducible refine aR_then ?_ | with_reducible refine aR_block ?_)) <;> (try dsimp only))
  · refine aC_cond rfl ?_ (fun h => by cases h)
    intro _
    (repeat (first | with_reducible refine aC_seq ?_ | with_reducible refine aC_block ?_ | with_reducible refine aN_then ?_ | with_reducible refine aN_block ?_ | with_reducible refine aC_skip ?_ | with_reducible refine aC_exit ?_ | with_reducible refine aX_then ?_ | with_reducible refine aX_block ?_ | with_reducible refine aX_other rfl ?_ | with_reducible refine aC_ret ?_ | with_reducible refine aR_then ?_ | with_reducible refine aR_block ?_))
    (refine aC_region ?_
      <;> (refine aL_cs 21 rfl rfl (Nat.le_of_ble_eq_true rfl) (callA rfl (Try.call4) rfl awake_e) ?_; rintro p' rfl; refine ⟨rfl, ?_⟩; intro v21 hv21; cases hv21)
      <;> refine aL_x 4 rfl rfl (Nat.le_of_ble_eq_true rfl) (y_assign rfl rfl) ?_
      <;> refine aL_end ?_
      <;> (repeat (first | with_reducible refine aC_seq ?_ | with_reducible refine aC_block ?_ | with_reducible refine aN_then ?_ | with_reducible refine aN_block ?_ | with_reducible refine aC_skip ?_ | with_reducible refine aC_exit ?_ | with_reducible refine aX_then ?_ | with_reducible refine aX_block ?_ | with_reducible refine aX_other rfl ?_ | with_reducible refine aC_ret ?_ | with_reducible refine aR_then ?_ | with_reducible refine aR_block ?_)) <;> (try dsimp only))
    exact ret_shr (Try.results3) rfl rfl
  · refine aC_cond rfl ?_ ?_
    · intro _
      (repeat (first | with_reducible refine aC_seq ?_ | with_reducible refine aC_block ?_ | with_reducible refine aN_then ?_ | with_reducible refine aN_block ?_ | with_reducible refine aC_skip ?_ | with_reducible refine aC_exit ?_ | with_reducible refine aX_then ?_ | with_reducible refine aX_block ?_ | with_reducible refine aX_other rfl ?_ | with_reducible refine aC_ret ?_ | with_reducible refine aR_then ?_ | with_reducible refine aR_block ?_))
      (refine aC_region ?_
        <;> (refine aL_cs 21 rfl rfl (Nat.le_of_ble_eq_true rfl) (callA rfl (Try.call4) rfl awake_e) ?_; rintro p' rfl; refine ⟨rfl, ?_⟩; intro v21 hv21; cases hv21)
        <;> refine aL_x 4 rfl rfl (Nat.le_of_ble_eq_true rfl) (y_assign rfl rfl) ?_
        <;> refine aL_end ?_
        <;> (repeat (first | with_reducible refine aC_seq ?_ | with_reducible refine aC_block ?_ | with_reducible refine aN_then ?_ | with_reducible refine aN_block ?_ | with_reducible refine aC_skip ?_ | with_reducible refine aC_exit ?_ | with_reducible refine aX_then ?_ | with_reducible refine aX_block ?_ | with_reducible refine aX_other rfl ?_ | with_reducible refine aC_ret ?_ | with_reducible refine aR_then ?_ | with_reducible refine aR_block ?_)) <;> (try dsimp only))
      exact ret_shr (Try.results3) rfl rfl
    · intro hb20
      have hfv : fewVarsB l = true := by cases h : fewVarsB l <;> simp_all
      have hfc : fewB c = true := by cases h : fewB c <;> simp_all
      have hcl : c.parts.length ≤ 10 := by simp only [fewB, Bool.and_eq_true, decide_eq_true_eq] at hfc; omega
      have hll : l.length ≤ 12 := by simp only [fewVarsB, Bool.and_eq_true, decide_eq_true_eq] at hfv; omega
      have hla : ∀ x ∈ l, x.acts.length ≤ 15 := fun x hx => by
        simp only [fewVarsB, Bool.and_eq_true, Bool.not_eq_true', List.any_eq_false] at hfv
        have := hfv.2 x hx
        simp only [manyVar, Bool.or_eq_true, decide_eq_true_eq, not_or] at this
        omega
      have hpl : ∀ p ∈ c.parts, p.length ≤ 12 := fun p hp => by
        simp only [fewB, Bool.and_eq_true, Bool.not_eq_true', List.any_eq_false] at hfc
        have := hfc.2 p hp
        simp only [manyPart, Bool.or_eq_true, decide_eq_true_eq, not_or] at this
        omega
      have hsum : c.parts.flatten.length ≤ 100000 := by
        have key : ∀ ps : List (List ByteArray), (∀ p ∈ ps, p.length ≤ 12) → ps.flatten.length ≤ ps.length * 12 := by
          intro ps
          induction ps with
          | nil => intro _; simp
          | cons p ps ih =>
            intro h
            have h1 := ih fun q hq => h q (by simp [hq])
            have h2 := h p (by simp)
            rw [List.flatten_cons, List.length_append, List.length_cons]; omega
        have := key c.parts hpl
        omega
      have hC := cSplit_e l c hl0 (fun p hp s hs => (hc0.2.1 p hp).2 s hs) (by omega)
      have hR := rSplit_e l c hl0 hc0 hll hla hcl hsum
      have hfit := splitR_fit (l := l) (c := c) (by omega)
      generalize splitR l c = sr at hC hR hfit
      obtain ⟨T, n⟩ := sr
      dsimp only at hfit
      (repeat (first | with_reducible refine aC_seq ?_ | with_reducible refine aC_block ?_ | with_reducible refine aN_then ?_ | with_reducible refine aN_block ?_ | with_reducible refine aC_skip ?_ | with_reducible refine aC_exit ?_ | with_reducible refine aX_then ?_ | with_reducible refine aX_block ?_ | with_reducible refine aX_other rfl ?_ | with_reducible refine aC_ret ?_ | with_reducible refine aR_then ?_ | with_reducible refine aR_block ?_))
      (refine aC_region ?_
        <;> refine aL_x 23 rfl rfl (Nat.le_of_ble_eq_true rfl) (y_move rfl rfl) ?_
        <;> (first | (refine aL_y 24 rfl rfl (Nat.le_of_ble_eq_true rfl) (y_lda_shrE tAgg25_EwK rfl rfl (by first | omega | (try simp only [List.length_cons, List.length_nil, List.length_map, List.length_set, List.length_append, List.length_replicate, List.length_singleton, List.flatMap_cons, List.flatMap_nil]; omega)) (by first | assumption | rfl)) ?_; intro v24 hv24; cases hv24) | (refine aL_y 24 rfl rfl (Nat.le_of_ble_eq_true rfl) (y_lda_ownE 3 tAgg25_EwK rfl rfl rfl (by first | omega | (try simp only [List.length_cons, List.length_nil, List.length_map, List.length_set, List.length_append, List.length_replicate, List.length_singleton, List.flatMap_cons, List.flatMap_nil]; omega)) (by decide) (by first | assumption | rfl) (by first | rfl | decide)) ?_; intro v24 hv24; cases hv24))
        <;> (refine aL_ct (R := RSp (T, n)) 25 202 203 rfl rfl (Nat.le_of_ble_eq_true rfl) rfl rfl rfl (callA rfl (Try.call7) rfl hC) ?_; rintro p' rfl; refine ⟨_, _, rfl, rfl, rfl, ?_⟩; intro v202 v203 hv202 hv203 _ _; cases hv203)
        <;> refine aL_x 22 rfl rfl (Nat.le_of_ble_eq_true rfl) (y_move rfl rfl) ?_
        <;> refine aL_x 26 rfl rfl (Nat.le_of_ble_eq_true rfl) (y_extract rfl rfl rfl rfl) ?_
        <;> refine aL_x 27 rfl rfl (Nat.le_of_ble_eq_true rfl) (y_extract rfl rfl rfl rfl) ?_
        <;> refine aL_x 5 rfl rfl (Nat.le_of_ble_eq_true rfl) (y_assign rfl rfl) ?_
        <;> refine aL_x 6 rfl rfl (Nat.le_of_ble_eq_true rfl) (y_assign rfl rfl) ?_
        <;> refine aL_end ?_
        <;> (repeat (first | with_reducible refine aC_seq ?_ | with_reducible refine aC_block ?_ | with_reducible refine aN_then ?_ | with_reducible refine aN_block ?_ | with_reducible refine aC_skip ?_ | with_reducible refine aC_exit ?_ | with_reducible refine aX_then ?_ | with_reducible refine aX_block ?_ | with_reducible refine aX_other rfl ?_ | with_reducible refine aC_ret ?_ | with_reducible refine aR_then ?_ | with_reducible refine aR_block ?_)) <;> (try dsimp only))
      (refine aC_region ?_
        <;> refine aL_x 29 rfl rfl (Nat.le_of_ble_eq_true rfl) (y_move rfl rfl) ?_
        <;> (first | (refine aL_y 30 rfl rfl (Nat.le_of_ble_eq_true rfl) (y_lda_shrE tAgg25_EwK rfl rfl (by first | omega | (try simp only [List.length_cons, List.length_nil, List.length_map, List.length_set, List.length_append, List.length_replicate, List.length_singleton, List.flatMap_cons, List.flatMap_nil]; omega)) (by first | assumption | rfl)) ?_; intro v30 hv30; cases hv30) | (refine aL_y 30 rfl rfl (Nat.le_of_ble_eq_true rfl) (y_lda_ownE 3 tAgg25_EwK rfl rfl rfl (by first | omega | (try simp only [List.length_cons, List.length_nil, List.length_map, List.length_set, List.length_append, List.length_replicate, List.length_singleton, List.flatMap_cons, List.flatMap_nil]; omega)) (by decide) (by first | assumption | rfl) (by first | rfl | decide)) ?_; intro v30 hv30; cases hv30))
        <;> (refine aL_ct (R := RSp (T, n)) 31 204 205 rfl rfl (Nat.le_of_ble_eq_true rfl) rfl rfl rfl (callA rfl (Try.call8) rfl hR) ?_; rintro p' rfl; refine ⟨_, _, rfl, rfl, rfl, ?_⟩; intro v204 v205 hv204 hv205 _ _; cases hv205)
        <;> refine aL_x 28 rfl rfl (Nat.le_of_ble_eq_true rfl) (y_move rfl rfl) ?_
        <;> refine aL_x 32 rfl rfl (Nat.le_of_ble_eq_true rfl) (y_extract rfl rfl rfl rfl) ?_
        <;> refine aL_x 33 rfl rfl (Nat.le_of_ble_eq_true rfl) (y_extract rfl rfl rfl rfl) ?_
        <;> refine aL_x 7 rfl rfl (Nat.le_of_ble_eq_true rfl) (y_assign rfl rfl) ?_
        <;> refine aL_x 8 rfl rfl (Nat.le_of_ble_eq_true rfl) (y_assign rfl rfl) ?_
        <;> refine aL_end ?_
        <;> (repeat (first | with_reducible refine aC_seq ?_ | with_reducible refine aC_block ?_ | with_reducible refine aN_then ?_ | with_reducible refine aN_block ?_ | with_reducible refine aC_skip ?_ | with_reducible refine aC_exit ?_ | with_reducible refine aX_then ?_ | with_reducible refine aX_block ?_ | with_reducible refine aX_other rfl ?_ | with_reducible refine aC_ret ?_ | with_reducible refine aR_then ?_ | with_reducible refine aR_block ?_)) <;> (try dsimp only))
      (refine aC_region ?_
        <;> refine aL_x 34 rfl rfl (Nat.le_of_ble_eq_true rfl) (y_move rfl rfl) ?_
        <;> refine aL_x 35 rfl rfl (Nat.le_of_ble_eq_true rfl) (y_move rfl rfl) ?_
        <;> refine aL_x 36 rfl rfl (Nat.le_of_ble_eq_true rfl) (y_eql rfl rfl rfl) ?_
        <;> refine aL_x 37 rfl rfl (Nat.le_of_ble_eq_true rfl) (y_move rfl rfl) ?_
        <;> (first | refine aL_skip 38 rfl rfl (Nat.le_of_ble_eq_true rfl) ?_ | refine aL_x 38 rfl rfl (Nat.le_of_ble_eq_true rfl) (y_move rfl rfl) ?_ | ((refine aL_bcase 37 rfl ?_ ?_ <;> intro hb37 <;> (first | replace hb37 := of_decide_eq_true hb37 | replace hb37 := of_decide_eq_false hb37 | skip)) <;> (first | refine aL_skip 38 rfl rfl (Nat.le_of_ble_eq_true rfl) ?_ | refine aL_x 38 rfl rfl (Nat.le_of_ble_eq_true rfl) (y_move rfl rfl) ?_)))
        <;> (first | refine aL_skip 39 rfl rfl (Nat.le_of_ble_eq_true rfl) ?_ | refine aL_x 39 rfl rfl (Nat.le_of_ble_eq_true rfl) (y_move rfl rfl) ?_ | ((refine aL_bcase 37 rfl ?_ ?_ <;> intro hb37 <;> (first | replace hb37 := of_decide_eq_true hb37 | replace hb37 := of_decide_eq_false hb37 | skip)) <;> (first | refine aL_skip 39 rfl rfl (Nat.le_of_ble_eq_true rfl) ?_ | refine aL_x 39 rfl rfl (Nat.le_of_ble_eq_true rfl) (y_move rfl rfl) ?_)))
        <;> (first | refine aL_skip 40 rfl rfl (Nat.le_of_ble_eq_true rfl) ?_ | (refine aL_cs 40 rfl rfl (Nat.le_of_ble_eq_true rfl) (callA rfl (Try.call9) rfl (equalFunc_e T T hfit hfit)) ?_; rintro p' rfl; refine ⟨rfl, ?_⟩; intro v40 hv40; cases hv40) | ((refine aL_bcase 37 rfl ?_ ?_ <;> intro hb37 <;> (first | replace hb37 := of_decide_eq_true hb37 | replace hb37 := of_decide_eq_false hb37 | skip)) <;> (first | refine aL_skip 40 rfl rfl (Nat.le_of_ble_eq_true rfl) ?_ | (refine aL_cs 40 rfl rfl (Nat.le_of_ble_eq_true rfl) (callA rfl (Try.call9) rfl (equalFunc_e T T hfit hfit)) ?_; rintro p' rfl; refine ⟨rfl, ?_⟩; intro v40 hv40; cases hv40))))
        <;> (first | refine aL_x 41 rfl rfl (Nat.le_of_ble_eq_true rfl) (y_pick rfl rfl rfl) ?_ | ((refine aL_bcase 37 rfl ?_ ?_ <;> intro hb37 <;> (first | replace hb37 := of_decide_eq_true hb37 | replace hb37 := of_decide_eq_false hb37 | skip)) <;> refine aL_x 41 rfl rfl (Nat.le_of_ble_eq_true rfl) (y_pick rfl rfl rfl) ?_))
        <;> refine aL_x 4 rfl rfl (Nat.le_of_ble_eq_true rfl) (y_assign rfl rfl) ?_
        <;> refine aL_end ?_
        <;> (repeat (first | with_reducible refine aC_seq ?_ | with_reducible refine aC_block ?_ | with_reducible refine aN_then ?_ | with_reducible refine aN_block ?_ | with_reducible refine aC_skip ?_ | with_reducible refine aC_exit ?_ | with_reducible refine aX_then ?_ | with_reducible refine aX_block ?_ | with_reducible refine aX_other rfl ?_ | with_reducible refine aC_ret ?_ | with_reducible refine aR_then ?_ | with_reducible refine aR_block ?_)) <;> (try dsimp only))
      · refine ret_shr (Try.results3) rfl ?_
        show pBool (all2 sameVars T T) = _
        rw [all2_self]
      · exact absurd rfl hb37
end Go.Proofs.Ytoanjgpdepaciaa

namespace Go.Proofs.Ytoanjgpdepaciaa
open Go.RowKit Go.Cb Go.En Go.ChangeShapes Go.WideShapes Go.ChangeAt
set_option linter.all false
set_option maxRecDepth 100000



theorem own : ownKnob Try.prog.godebug = none := by kernel_rfl
theorem laidOut : laidOutB Try.prog = true := by kernel_rfl

/-! ### How the arguments read -/
theorem dStr : Dec Try.prog 9 1 (fun s : ByteArray => [pStr s]) (fun s => s.size ≤ 140737488355328) := dec_str Try.underlying9 (by kernel_rfl)
theorem dStrs : Dec Try.prog 38 1 (fun l => [pStrs l]) fitS :=
  dec_map id (dec_slice Try.underlying38 (by kernel_rfl) (by decide) (Nat.le_of_ble_eq_true (by kernel_rfl)) dStr) (fun _ => rfl) (fun l => by show [PV.sl l.length (l.map pStr)] = _; rw [flat_one]) (fun _ h => h)
theorem dStrss : Dec Try.prog 23 1 (fun l => [pStrss l]) (fun l => l.length ≤ 140737488355328 ∧ ∀ p ∈ l, fitS p) :=
  dec_map id (dec_slice Try.underlying23 (by kernel_rfl) (by decide) (Nat.le_of_ble_eq_true (by kernel_rfl)) dStrs) (fun _ => rfl) (fun l => by show [PV.sl l.length (l.map pStrs)] = _; rw [flat_one]) (fun _ h => h)
theorem dInt : Dec Try.prog 3 1 (fun n : Int => [pInt n]) (fun n => -9223372036854775808 ≤ n ∧ n ≤ 9223372036854775807) := dec_int Try.underlying3 (by kernel_rfl)
theorem dVar : Dec Try.prog 40 2 cVar (fun x => fitS x.acts ∧ -9223372036854775808 ≤ x.count ∧ x.count ≤ 9223372036854775807) :=
  dec_map (fun x => ⟨x.1, x.2⟩) (dec_struct2 Try.underlying40 (by kernel_rfl) dStrs dInt rfl rfl) (fun _ => rfl) (fun _ => rfl) (fun _ h => h)
theorem dVars : Dec Try.prog 22 1 (fun l => [pVars l]) fitV :=
  dec_map id (dec_slice Try.underlying22 (by kernel_rfl) (by decide) (Nat.le_of_ble_eq_true (by kernel_rfl)) dVar) (fun _ => rfl) (fun _ => rfl) (fun _ h => h)
theorem dCut : Dec Try.prog 25 2 (fun c : Cut => [pInt c.kind, pStrss c.parts]) fitC :=
  dec_map (fun x => ⟨x.1, x.2⟩) (dec_struct2 Try.underlying25 (by kernel_rfl) dInt dStrss rfl rfl) (fun _ => rfl) (fun _ => rfl) (fun _ h => ⟨h.2.1, h.2.2, h.1⟩)

/-! ### The row -/
theorem lifted (os : Os) (started : os.Started) (H : Type) (enc : TypeId × Value → H) :
    ReturnsInHanded {} Try.checked os 3 .any (Rows.cutSplitsSpec.pre6 enc Try.prog Try.f3 Rows.cutSplitsRow.domain false) (Rows.cutSplitsSpec.post enc Try.prog Try.f3 false true false false) := by
  refine returnsInHanded_of_change_sized (C := Try.checked) own started (by kernel_rfl) Try.func3
    (ChangeSpec.witness6 (enc := enc) (C := Try.checked) false ⟨#[], #[.slice none 0 0, .agg #[.int .i64 0, .slice none 0 0]], []⟩ 8 (by kernel_rfl) (by kernel_rfl) (by kernel_rfl) (by kernel_rfl)) ?_
  intro W base args ds gs before hval0 hW hcnd hsz _
  have hval : ∀ (j : Nat) t v, Try.f3.params[j]? = some t → args[j]? = some v → Value.okWide Try.prog W .any base t v := hval0
  have hW' := hW
  obtain ⟨p, q, hA0, hV, rfl, hfz, hnd⟩ := hW
  have hA : DataW.TrodAll enc Try.prog W 0 (fun _ => true) true Try.f3.params.toList args.toList ds p := hA0
  have hsz' : ∀ n ∈ DataW.weightsEach Try.prog (Try.f3.params.toList ++ Rows.cutSplitsSpec.plain.varTypes Try.prog) (ds ++ gs), n ≤ reachBytes := fun n hn => by
    have := List.all_eq_true.1 hsz n hn
    exact of_decide_eq_true this
  have hK := hA
  rw [Try.params3] at hA hval hsz'
  obtain ⟨v0, vs0, d0, ds0, p0, q0, hargs, rfl, rfl, h0, r0⟩ := trodAll_cons hA
  obtain ⟨v1, vs1, d1, ds1, p1, q1, rfl, rfl, rfl, h1, r1⟩ := trodAll_cons r0
  obtain ⟨rfl, rfl, rfl⟩ := trodAll_nil r1
  obtain rfl : args = #[v0, v1] := by cases args; simp_all
  obtain ⟨rfl, rfl⟩ := trodVars_none hV
  obtain ⟨l, hl, s0⟩ := arg1 dVars (by kernel_rfl) (hval 0 _ v0 rfl rfl) h0 (fun n hn => hsz' n (weightsEach_mem _ 0 rfl rfl hn))
  obtain ⟨c, hc, s1⟩ := argA dCut (by kernel_rfl) (hval 1 _ v1 rfl rfl) h1 (fun n hn => hsz' n (weightsEach_mem _ 1 rfl rfl hn))
  refine ((cutSplits_e l c hl hc).law (vs := [v0, v1]) rfl (fun i v p hv hp => ?_)).mono fun e W' ⟨he, bel⟩ => ?_
  · match i with
    | 0 => simp at hv hp; subst hv hp; exact s0
    | 1 => simp at hv hp; subst hv hp; exact s1
    | i + 2 => simp at hv
  subst he
  exact ⟨_, rfl, _, _, _, [], _, [], hW', trodAll_mk1 (shut_bool Try.underlying4 _), trodAll_back laidOut bel (by kernel_rfl) hK, rfl, bel.frame _, fun h => by cases h⟩

theorem over : Rows.cutSplitsRow.holds Try.pinned (OpenSpec.ofChange Rows.cutSplitsSpec) :=
  OpenClaim.holds_of_wide 3 Try.f3 rfl rfl rfl rfl rfl rfl rfl ⟨rfl, rfl, rfl, rfl, rfl⟩ rfl rfl rfl rfl rfl (by kernel_rfl) Try.func3 (by kernel_rfl)
    (of_decide_eq_true (by kernel_rfl)) (by unfold Func.isWrapper; first | (rw [if_pos (by decide +kernel)]; kernel_rfl) | (rw [if_neg (by decide +kernel)]; exact ⟨rfl, rfl⟩))
    (fun os started H enc _ => lifted os started H enc)

theorem cutSplits_holds : Rows.CutSplitsSaid := over
end Go.Proofs.Ytoanjgpdepaciaa
