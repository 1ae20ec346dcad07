/-
  Walks by the engine: awake.
-/
import Derived.Test.YtoanjgpdepaciaaGreatMEwH
namespace Go.Proofs.YtoanjgpdepaciaaGreat
open Go.RowKit Go.Cb Go.En
set_option linter.all false
set_option maxRecDepth 100000

theorem tAgg28_EwJ : AggT Tryz.prog 28 2 = true := by kernel_rfl
theorem tEl26_EwJ : ElT Tryz.prog 26 36 1 24 (.slice none 0 0) := ⟨Tryz.underlying26, by kernel_rfl, rfl, by decide⟩
theorem tEl36_EwJ : ElT Tryz.prog 36 9 1 16 (.string ByteArray.empty) := ⟨Tryz.underlying36, by kernel_rfl, rfl, by decide⟩
theorem tEl47_EwJ : ElT Tryz.prog 47 51 2 32 (.agg #[(.slice none 0 0), (.int .i64 0)]) := ⟨Tryz.underlying47, by kernel_rfl, rfl, by decide⟩
theorem tNa47_EwJ : NoAgg Tryz.prog 47 = true := by kernel_rfl
theorem tSl56_EwJ : SlT Tryz.prog 56 47 1 = true := by kernel_rfl
theorem tSt28_EwJ : stInfo Tryz.prog 28 = some ((.agg #[(.int .i64 0), (.slice none 0 0)]), ([0, 1] : List Nat).map fun o => (o, 1)) := by kernel_rfl
theorem tSt51_EwJ : stInfo Tryz.prog 51 = some ((.agg #[(.slice none 0 0), (.int .i64 0)]), ([0, 1] : List Nat).map fun o => (o, 1)) := by kernel_rfl
theorem tZr28_EwJ : ZeroT Tryz.prog 28 (.agg #[(.int .i64 0), (.slice none 0 0)]) := by unfold ZeroT; kernel_rfl

theorem tAggCutJ : AggT Tryz.prog 28 2 = true := by kernel_rfl
def exA : ByteArray := ⟨#[97]⟩
def exB : ByteArray := ⟨#[98]⟩
def exL : List Var := [⟨[exA, exB, exA], 3⟩]
def exC : Cut := ⟨4, [[exA], [exB]]⟩
theorem ex_split : splitR exL exC = ([[⟨[exA], 6⟩], [⟨[exB], 3⟩]], 0) := by kernel_rfl

theorem awake_e : AF Tryz.prog 7 [] (· = pBool true) := by
  refine AF.of_body 41 Tryz.func7 rfl Tryz.ntmps7 (Nat.le_of_ble_eq_true rfl) ?_
  intro w0 M0 vs hl hv
  have : vs = [] := List.eq_nil_of_length_eq_zero hl
  subst this
  clear hl hv
  refine nav ?_
  (refine aC_region ?_
    <;> refine xL 0 q_assign ?_
    <;> refine aL_end (nav ?_) <;> try dsimp only)
  (refine aC_region ?_
    <;> refine s_lit1 (kk := 1) 4 tEl36_EwJ fun h4 ho4 => ?_
    <;> (refine aL_ent (En.freeze (l := 4) (t := 4) rfl rfl) fun _ => ?_; refine aL_lit1 (kk := 1) 5 tEl36_EwJ rfl rfl (Nat.le_of_ble_eq_true rfl) rfl rfl rfl rfl ?_; intro h5 ho5; refine aL_ent (En.freeze (l := 5) (t := 5) rfl rfl) fun _ => ?_)
    <;> (refine aL_litn (xs := [_, _]) 6 tEl26_EwJ rfl rfl (Nat.le_of_ble_eq_true rfl) rfl rfl rfl rfl rfl (by decide) (by decide) rfl ?_; intro h6 ho6; refine aL_ent (En.freeze (l := 6) (t := 6) rfl rfl) fun _ => ?_)
    <;> refine xL 7 (q_build tSt28_EwJ) ?_
    <;> refine s_alloc [(.int .i64 0), (.slice none 0 0)] 2 1 tZr28_EwJ fun h1 => ?_
    <;> refine s_sta 1 tAgg28_EwJ ?_
    <;> refine aL_end (nav ?_) <;> try dsimp only)
  have hfl : fitV exL := ⟨by decide, fun x hx => by
    simp [exL] at hx; subst hx
    exact ⟨⟨by decide, fun s hs => by simp at hs; rcases hs with rfl | rfl | rfl <;> decide⟩, by decide, by decide⟩⟩
  have hCS := cSplit_e exL exC hfl (fun p hp s hs => by
    simp [exC] at hp; rcases hp with rfl | rfl <;> simp at hs <;> subst hs <;> decide) (by decide)
  rw [ex_split] at hCS
  (refine aC_region ?_
    <;> (refine aL_litn (xs := [_, _, _]) 9 tEl36_EwJ rfl rfl (Nat.le_of_ble_eq_true rfl) rfl rfl rfl rfl rfl (by decide) (by decide) rfl ?_; intro h9 ho9; refine aL_ent (En.freeze (l := 9) (t := 9) rfl rfl) fun _ => ?_)
    <;> refine xL 10 (q_build tSt51_EwJ) ?_
    <;> (refine aL_lit1a 11 tEl47_EwJ rfl rfl (Nat.le_of_ble_eq_true rfl) rfl rfl rfl (by decide) rfl ?_; intro h11 ho11; refine aL_ent (En.freeze (l := 11) (t := 11) rfl rfl) fun _ => ?_)
    <;> (refine aL_y 12 rfl rfl (Nat.le_of_ble_eq_true rfl) (y_lda_ownE (ps := [pInt exC.kind, pStrss exC.parts]) 1 tAggCutJ rfl rfl rfl (Nat.le_refl 2) (by decide) rfl rfl) ?_; intro v12 _)
    <;> (refine aL_ct (R := RSp ([[⟨[exA], 6⟩], [⟨[exB], 3⟩]], 0)) 13 202 203 rfl rfl (Nat.le_of_ble_eq_true rfl) rfl rfl rfl (callA rfl (Tryz.call32) rfl hCS) ?_; rintro p' rfl; refine ⟨_, _, rfl, rfl, rfl, ?_⟩; intro v202 v203 hv202 hv203 _ _; cases hv203)
    <;> refine xL 8 q_move ?_
    <;> refine xL 14 q_extract ?_
    <;> refine xL 15 q_extract ?_
    <;> refine xL 2 q_assign ?_
    <;> refine xL 3 q_assign ?_
    <;> refine aL_end (nav ?_) <;> try dsimp only)
  have fexA : fitV [⟨[exA], 6⟩] := ⟨by decide, fun x hx => by
    simp at hx; subst hx
    exact ⟨⟨by decide, fun s hs => by simp at hs; subst hs; decide⟩, by decide, by decide⟩⟩
  have fexB : fitV [⟨[exB], 3⟩] := ⟨by decide, fun x hx => by
    simp at hx; subst hx
    exact ⟨⟨by decide, fun s hs => by simp at hs; subst hs; decide⟩, by decide, by decide⟩⟩
  (refine aC_region ?_
    <;> refine xL 16 q_move ?_
    <;> refine xL 17 q_eql ?_
    <;> refine xL 18 q_move ?_
    <;> refine xL 19 q_move ?_
    <;> refine xL 20 (q_len tSl56_EwJ) ?_
    <;> refine xL 21 q_eql ?_
    <;> refine xL 22 q_pick ?_
    <;> refine xL 23 q_move ?_
    <;> refine xL 24 q_move ?_
    <;> refine xL 25 (q_idxN tSl56_EwJ) ?_
    <;> (refine yL 26 (q_ld tNa47_EwJ) fun v26 hv26 => ?_; cases hv26)
    <;> (refine aL_lit1 (kk := 1) 27 tEl36_EwJ rfl rfl (Nat.le_of_ble_eq_true rfl) rfl rfl rfl rfl ?_; intro h27 ho27; refine aL_ent (En.freeze (l := 27) (t := 27) rfl rfl) fun _ => ?_)
    <;> refine xL 28 (q_build tSt51_EwJ) ?_
    <;> (refine aL_lit1a 29 tEl47_EwJ rfl rfl (Nat.le_of_ble_eq_true rfl) rfl rfl rfl (by decide) rfl ?_; intro h29 ho29; refine aL_ent (En.freeze (l := 29) (t := 29) rfl rfl) fun _ => ?_)
    <;> (refine aL_cs 30 rfl rfl (Nat.le_of_ble_eq_true rfl) (callA rfl (Tryz.call34) rfl (rSameVariants_e [⟨[exA], 6⟩] [⟨[exA], 6⟩] fexA fexA)) ?_; rintro p' rfl; refine ⟨rfl, ?_⟩; intro v30 hv30; cases hv30)
    <;> refine xL 31 q_pick ?_
    <;> refine xL 32 q_move ?_
    <;> (refine bL 32 (fun hb32 => ?_) (fun hb32 => ?_) <;> (first | refine kL 33 ?_ | refine xL 33 q_move ?_))
    <;> (first | refine kL 34 ?_ | refine xL 34 (q_idxN tSl56_EwJ) ?_)
    <;> (first | refine kL 35 ?_ | (refine yL 35 (q_ld tNa47_EwJ) fun v35 hv35 => ?_; cases hv35))
    <;> (first | refine kL 36 ?_ | (refine aL_lit1 (kk := 1) 36 tEl36_EwJ rfl rfl (Nat.le_of_ble_eq_true rfl) rfl rfl rfl rfl ?_; intro h36 ho36; refine aL_ent (En.freeze (l := 36) (t := 36) rfl rfl) fun _ => ?_))
    <;> (first | refine kL 37 ?_ | refine xL 37 (q_build tSt51_EwJ) ?_)
    <;> (first | refine kL 38 ?_ | (refine aL_lit1a 38 tEl47_EwJ rfl rfl (Nat.le_of_ble_eq_true rfl) rfl rfl rfl (by decide) rfl ?_; intro h38 ho38; refine aL_ent (En.freeze (l := 38) (t := 38) rfl rfl) fun _ => ?_))
    <;> (first | refine kL 39 ?_ | (refine aL_cs 39 rfl rfl (Nat.le_of_ble_eq_true rfl) (callA rfl (Tryz.call34) rfl (rSameVariants_e [⟨[exB], 3⟩] [⟨[exB], 3⟩] fexB fexB)) ?_; rintro p' rfl; refine ⟨rfl, ?_⟩; intro v39 hv39; cases hv39))
    <;> refine xL 40 q_pick ?_
    <;> refine xL 0 q_assign ?_
    <;> refine aL_end (nav ?_) <;> try dsimp only)
  · refine ret_shr (Tryz.results7) rfl ?_
    show pBool (sameVars [⟨[exB], 3⟩] [⟨[exB], 3⟩]) = _
    rw [show sameVars [⟨[exB], 3⟩] [⟨[exB], 3⟩] = true by kernel_rfl]
  · rw [show sameVars [⟨[exA], 6⟩] [⟨[exA], 6⟩] = true by kernel_rfl] at hb32
    cases hb32
end Go.Proofs.YtoanjgpdepaciaaGreat
