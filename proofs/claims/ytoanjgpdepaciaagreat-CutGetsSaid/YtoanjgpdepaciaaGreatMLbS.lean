/-
  Walks: cut.Seq with no activities, cut.Find.
-/
import Derived.Test.YtoanjgpdepaciaaGreatMLbR
import Derived.Test.YtoanjgpdepaciaaGreatMLbPx
namespace Go.Proofs.YtoanjgpdepaciaaGreat
open Go.RowKit Go.Cb Go.En
set_option linter.all false
set_option maxRecDepth 100000

theorem tAgg25_LbS : AggT Tryz.prog 25 4 = true := by kernel_rfl
theorem tAgg28_LbS : AggT Tryz.prog 28 2 = true := by kernel_rfl
theorem tEl42_LbS : ElT Tryz.prog 42 35 1 8 .nilFunc := ⟨Tryz.underlying42, by kernel_rfl, rfl, by decide⟩
theorem tNa35_LbS : NoAgg Tryz.prog 35 = true := by kernel_rfl
theorem tNa77_LbS : NoAgg Tryz.prog 77 = true := by kernel_rfl
theorem tSl42_LbS : SlT Tryz.prog 42 35 1 = true := by kernel_rfl
theorem tSz77_LbS : (Tryz.prog.info? 77).map (·.size) = some 1 := by kernel_rfl
theorem tZr28_LbS : ZeroT Tryz.prog 28 (.agg #[(.int .i64 0), (.slice none 0 0)]) := by unfold ZeroT; kernel_rfl
theorem tZr77_LbS : ZeroT Tryz.prog 77 (.slice none 0 0) := by unfold ZeroT; kernel_rfl

def cutO : Option Cut → PV
  | none => .tup [.agg [pInt 0, .val (.slice none 0 0)], pInt 10]
  | some c => .tup [pCut c, pInt 0]
def cutOpt (l : List ByteArray) (kind : Int) (cs : List (List Int)) : Option Cut := if cs.length < 2 then none else some ⟨kind, partsOf l cs⟩
theorem cutP_o (l : List ByteArray) (kind : Int) (cs : List (List Int)) : cutP l kind cs = cutO (cutOpt l kind cs) := by
  unfold cutP cutOpt
  split <;> rfl
def cutO1 : Option Cut → PV
  | none => .agg [pInt 0, .val (.slice none 0 0)]
  | some c => pCut c
def cutO2 : Option Cut → PV
  | none => pInt 10
  | some c => pInt 0
theorem cutO_sh (o : Option Cut) : shD (.tup [cutO1 o, cutO2 o]) = true := by cases o <;> rfl
theorem cutO_tup (o : Option Cut) : cutO o = .tup [cutO1 o, cutO2 o] := by cases o <;> rfl
def CutQ (l : List ByteArray) (n : Nat) (E : Nat → Nat → Bool) (S F : Nat → Bool) : Nat → Option Cut → Prop
  | 0, o => ∃ cs, Comps (upTo n) (relE E) cs ∧ o = cutOpt l 1 cs
  | 1, o => ∃ cs, SeqCs n (reachB n E) cs ∧ o = cutOpt l 2 cs
  | 2, o => ∃ cs, Comps (upTo n) (relA E) cs ∧ ((idx (wholeB S F) cs < 0 ∧ o = none) ∨ ∃ i0 c0 ds, cs[i0]? = some c0 ∧ idx (wholeB S F) cs = (i0 : Nat) ∧ AndCs cs i0 c0 (wholeB S F) ds ∧ o = cutOpt l 3 ds)
  | _, o => (inL n S F = [] ∧ o = none) ∨ ∃ cs, inL n S F ≠ [] ∧ Comps (outL n S F) (relE E) cs ∧ o = cutOpt l 4 (loopCs n E S F cs)
def FindQ (Q : Nat → Option Cut → Prop) (o : Option Cut) : Prop := (∃ k c, k < 4 ∧ (∀ j, j < k → Q j none) ∧ Q k (some c) ∧ o = some c) ∨ ((∀ j, j < 4 → Q j none) ∧ o = none)
theorem sort0_e (caps : List PV) : AF Tryz.prog 57 [.sl 0 [], .fn 58 caps] (· = .val (.tuple #[])) := fun M w vs hM hlen hv => by
  obtain ⟨v, fv, rfl⟩ := len2 hlen
  have hS := hv 0 v _ rfl rfl
  cases hS with
  | emp a c hc ha =>
    refine (Tryz.slices_SortFunc_none (α := Nat) a c fv w).mono fun e w' ⟨h1, h2⟩ => ?_
    rw [h1, h2]
    exact ⟨_, _, fun _ => False, rfl, rfl, Ext.rfl' _, .shr (.val _) (fun _ h => h), fun b hb => hb.elim, fun h => h.elim⟩
  | sl b off n c cs vs' hnc hc hcell hT =>
    refine (Tryz.slices_SortFunc_none (α := Nat) _ c fv w).mono fun e w' ⟨h1, h2⟩ => ?_
    rw [h1, h2]
    exact ⟨_, _, fun _ => False, rfl, rfl, Ext.rfl' _, .shr (.val _) (fun _ h => h), fun b hb => hb.elim, fun h => h.elim⟩
theorem cSeq_zero (g : Dfg) (l : List ByteArray) (E : Nat → Nat → Bool) (S F : Nat → Bool) (hb : AF Tryz.prog 43 [pDfg g] (· = .tup [relP l 0 E S F, pInt 0])) (hl : l.length = 0) : AF Tryz.prog 13 [pDfg g] (fun p => ∃ cs, SeqCs 0 (reachB 0 E) cs ∧ p = cutP l 2 cs) := by
  refine AF.of_body 31 Tryz.func13 rfl Tryz.ntmps13 (Nat.le_of_ble_eq_true rfl) ?_
  intro w0 M0 vs hl hv
  obtain ⟨v0, rfl⟩ := len1 hl
  clear hl hv
  refine nav ?_
  (refine aC_region ?_
    <;> refine s_boxa 1 4 fun h1 => ?_
    <;> refine s_alloc [(.int .i64 0), (.slice none 0 0)] 2 2 tZr28_LbS fun h2 => ?_
    <;> refine xL 3 q_assign ?_
    <;> refine aL_end (nav ?_) <;> try dsimp only)
  (refine aC_region ?_
    <;> (refine yL 9 (q_ldao 1 tAgg25_LbS) fun v9 hv9 => ?_; cases hv9)
    <;> (refine cP 10 (cA Tryz.call43 (hb)) fun va10 vb10 hva10 hvb10 => ?_; cases hvb10)
    <;> refine xL 8 q_move ?_
    <;> refine xL 11 q_extract ?_
    <;> refine xL 12 q_extract ?_
    <;> refine xL 4 q_assign ?_
    <;> refine xL 5 q_assign ?_
    <;> refine aL_end (nav ?_) <;> try dsimp only)
  (refine aC_region ?_
    <;> refine xL 13 q_move ?_
    <;> refine xL 14 q_neq ?_
    <;> refine aL_end (nav ?_) <;> try dsimp only)
  first | refine cCd (fun hb14 => ?_) (fun hb14 => ?_) | refine cC (fun hb14 => ?_) (fun hb14 => ?_)
  · exfalso; omega
  · refine nav ?_
    (refine aC_region ?_
      <;> refine xL 17 q_move ?_
      <;> (refine cS 18 (cA Tryz.call45 (cReach_e l 0 E (pBools 0 S) (pBools 0 F) hl (by omega))) fun v18 hv18 => ?_; cases hv18)
      <;> refine s_alloc [(.slice none 0 0)] 1 6 tZr77_LbS fun h6 => ?_
      <;> refine s_st 6 tNa77_LbS tSz77_LbS ?_
      <;> refine aL_end (nav ?_) <;> try dsimp only)
    refine aC_ent (freezeP (l := 6) (t := 6) (j := 0) rfl Nat.one_pos rfl) fun _ => ?_
    dsimp only [shares, share, List.map, relP]
    (refine aC_region ?_
      <;> refine xL 19 q_move ?_
      <;> (refine cS 20 (cA Tryz.call54 ((cAll_e l _ (by omega)).mono (R' := (· = pInts (upTo 0))) fun p hp => by rw [hp, hl])) fun v20 hv20 => ?_; cases hv20)
      <;> refine xL 21 q_mkfn ?_
      <;> (refine aL_co 22 rfl rfl (Nat.le_of_ble_eq_true rfl) rfl (cA Tryz.call53 (cClasses_e 56 [.sptr 0 [pMat 0 (reachB 0 E)]] (relS (reachB 0 E)) (upTo 0) (upTo_asc 0) (by rw [upTo_len]; omega) (Tryz.call56) (fun x hx y hy => cSeq1_e 0 (reachB 0 E) x y (upTo_mem.1 hx) (upTo_mem.1 hy)))) ?_; rintro p' ⟨cs, hcs, rfl⟩; refine ⟨rfl, fun h22 ho22 => ?_⟩)
      <;> refine xL 7 q_assign ?_
      <;> refine aL_end (nav ?_) <;> try dsimp only)
    have hcn : cs = [] := List.eq_nil_of_length_eq_zero (by have := (comps_in hcs).2.1; omega)
    subst hcn
    refine aC_ent (En.freeze (l := 22) (t := 7) rfl rfl) fun _ => ?_
    rw [shr_intss _ _ _ rfl]
    dsimp only [pIntss, List.map, List.length_nil]
    (refine aC_region ?_
      <;> refine xL 23 q_move ?_
      <;> refine xL 24 q_mkfn ?_
      <;> (refine cS 25 (cA Tryz.call57 (sort0_e _)) fun v25 hv25 => ?_; cases hv25)
      <;> refine aL_end (nav ?_) <;> try dsimp only)
    (refine aC_region ?_
      <;> refine xL 26 q_move ?_
      <;> refine xL 27 q_move ?_
      <;> (refine cP 28 (cA Tryz.call52 (cMade_lt l _ 2 [] (by decide))) fun va28 vb28 hva28 hvb28 => ?_; cases hvb28)
      <;> refine xL 29 q_extract ?_
      <;> refine xL 30 q_extract ?_
      <;> refine s_sta 2 tAgg28_LbS ?_
      <;> refine xL 3 q_assign ?_
      <;> refine aL_end (nav ?_) <;> try dsimp only)
    exact ret_cs (k := 2) 2 (by kernel_rfl) (Tryz.results13) rfl rfl rfl (Nat.le_of_ble_eq_true rfl) (by decide) rfl ⟨[], ⟨⟨[], hcs, .refl _⟩, fun i j a b hij ha hb => by simp at ha⟩, rfl⟩
theorem cut_goods (g : Dfg) (l : List ByteArray) (n : Nat) (E : Nat → Nat → Bool) (S F : Nat → Bool) (hb : AF Tryz.prog 43 [pDfg g] (· = .tup [relP l n E S F, pInt 0])) (hl : l.length = n) (hn : n ≤ 1000) :
    (AF Tryz.prog 12 [pDfg g] fun p => ∃ i : { o // CutQ l n E S F 0 o }, p = .tup [cutO1 i.1, cutO2 i.1]) ∧ (AF Tryz.prog 13 [pDfg g] fun p => ∃ i : { o // CutQ l n E S F 1 o }, p = .tup [cutO1 i.1, cutO2 i.1]) ∧ (AF Tryz.prog 20 [pDfg g] fun p => ∃ i : { o // CutQ l n E S F 2 o }, p = .tup [cutO1 i.1, cutO2 i.1]) ∧ (AF Tryz.prog 21 [pDfg g] fun p => ∃ i : { o // CutQ l n E S F 3 o }, p = .tup [cutO1 i.1, cutO2 i.1]) := by
  refine ⟨(cXor_good g l n E S F hb hl hn).mono fun p hp => ?_, ?_, (cAnd_good g l n E S F hb hl hn).mono fun p hp => ?_, (cLoop_good g l n E S F hb hl hn).mono fun p hp => ?_⟩
  · obtain ⟨cs, h1, rfl⟩ := hp
    exact ⟨⟨_, cs, h1, rfl⟩, by rw [cutP_o, cutO_tup]⟩
  · rcases Nat.eq_zero_or_pos n with h0 | h0
    · subst h0
      refine (cSeq_zero g l E S F hb hl).mono fun p hp => ?_
      obtain ⟨cs, h1, rfl⟩ := hp
      exact ⟨⟨_, cs, h1, rfl⟩, by rw [cutP_o, cutO_tup]⟩
    · refine (cSeq_good g l n E S F hb hl hn h0).mono fun p hp => ?_
      obtain ⟨cs, h1, rfl⟩ := hp
      exact ⟨⟨_, cs, h1, rfl⟩, by rw [cutP_o, cutO_tup]⟩
  · obtain ⟨cs, h1, ⟨h2, rfl⟩ | ⟨i0, c0, ds, h2, h3, h4, rfl⟩⟩ := hp
    · exact ⟨⟨none, cs, h1, .inl ⟨h2, rfl⟩⟩, rfl⟩
    · exact ⟨⟨_, cs, h1, .inr ⟨i0, c0, ds, h2, h3, h4, rfl⟩⟩, by rw [cutP_o, cutO_tup]⟩
  · obtain ⟨h2, rfl⟩ | ⟨cs, h2, h3, rfl⟩ := hp
    · exact ⟨⟨none, .inl ⟨h2, rfl⟩⟩, rfl⟩
    · exact ⟨⟨_, .inr ⟨cs, h2, h3, rfl⟩⟩, by rw [cutP_o, cutO_tup]⟩
set_option maxHeartbeats 1000000 in
theorem cFind_good (g : Dfg) (l : List ByteArray) (n : Nat) (E : Nat → Nat → Bool) (S F : Nat → Bool) (hb : AF Tryz.prog 43 [pDfg g] (· = .tup [relP l n E S F, pInt 0])) (hl : l.length = n) (hn : n ≤ 1000) : AF Tryz.prog 22 [pDfg g] (fun p => ∃ o, FindQ (CutQ l n E S F) o ∧ p = .tup [cutO1 o, cutO2 o]) := by
  have hG := cut_goods g l n E S F hb hl hn
  have hfs : ∀ k : Nat, k < 3 → ∃ f, [PV.fn 12 [], PV.fn 13 [], PV.fn 20 []][k * 1]? = some (.fn f []) ∧ (∀ args w, (callFunc f args).run Tryz.prog w = .ok (.enter f args) w) ∧ (AF Tryz.prog f [pDfg g] fun p => ∃ i : { o // CutQ l n E S F k o }, p = .tup [cutO1 i.1, cutO2 i.1]) := fun k hk => by
    match k, hk with
    | 0, _ => exact ⟨_, rfl, Tryz.call12, hG.1⟩
    | 1, _ => exact ⟨_, rfl, Tryz.call13, hG.2.1⟩
    | 2, _ => exact ⟨_, rfl, Tryz.call20, hG.2.2.1⟩
  refine AF.of_body 29 Tryz.func22 rfl Tryz.ntmps22 (Nat.le_of_ble_eq_true rfl) ?_
  intro w0 M0 vs hl hv
  obtain ⟨v0, rfl⟩ := len1 hl
  clear hl hv
  refine nav ?_
  (refine aC_region ?_
    <;> refine s_boxa 1 4 fun h1 => ?_
    <;> refine s_alloc [(.int .i64 0), (.slice none 0 0)] 2 2 tZr28_LbS fun h2 => ?_
    <;> refine xL 3 q_assign ?_
    <;> refine aL_end (nav ?_) <;> try dsimp only)
  (refine aC_region ?_
    <;> (refine aL_litn (xs := [_, _, _]) 8 tEl42_LbS rfl rfl (Nat.le_of_ble_eq_true rfl) rfl rfl rfl rfl rfl (by decide) (by decide) rfl ?_; intro h8 ho8; refine aL_ent (En.freeze (l := 8) (t := 8) rfl rfl) fun _ => ?_)
    <;> refine xL 9 (q_len tSl42_LbS) ?_
    <;> refine xL 10 q_move ?_
    <;> refine aL_end (nav ?_) <;> try dsimp only)
  refine aC_loop (ι := { x : Nat // x ≤ 3 ∧ ∀ j, j < x → CutQ l n E S F j none }) (fun k => ⟨[(1, _, _), (2, _, _), (8, _, _), (9, _, _), (10, .int .i64 k.1, pInt k.1)], [(1, _, _), (2, _, _)]⟩) (fun k => 3 - k.1) ⟨0, Nat.zero_le _, fun j hj => absurd hj (Nat.not_lt_zero j)⟩ (fun a w H => H.weaken ⟨rfl, rfl, rfl, rfl, rfl, trivial⟩ ⟨rfl, rfl, trivial⟩) ?_
  rintro ⟨k, hk, hQ⟩
  dsimp only
  try dsimp only at hk hQ
  refine nav ?_
  (refine aC_region ?_
    <;> refine xL 11 q_lss ?_
    <;> refine aL_end (nav ?_) <;> try dsimp only)
  first | refine cCd (fun hb11 => ?_) (fun hb11 => ?_) | refine cC (fun hb11 => ?_) (fun hb11 => ?_)
  · first
    | exact Bool.noConfusion hb11
    | (
     have hk3 : k < 3 := by omega
     obtain ⟨f, e1, hfc, hfa⟩ := hfs k hk3
     refine nav ?_
     (refine aC_region ?_
       <;> refine xL 12 (q_idxN tSl42_LbS) ?_
       <;> (refine yL 13 (q_ld tNa35_LbS) fun v13 hv13 => ?_; cases hv13)
       <;> refine xL 5 q_assign ?_
       <;> refine aL_end (nav ?_) <;> try dsimp only)
     (refine aC_region ?_
       <;> refine xL 15 q_move ?_
       <;> (refine yL 16 (q_ldao 1 tAgg25_LbS) fun v16 hv16 => ?_; cases hv16)
       <;> (refine cPx 17 (callF (f := f) (ps := []) rfl ⟨_, rfl⟩ hfc rfl hfa) (fun i va17 vb17 hva17 hvb17 => ?_) (fun i => cutO_sh i.1); rcases i with ⟨_ | cc, hq⟩ <;> (dsimp only [cutO1, cutO2] at hva17 hvb17 ⊢; cases hvb17))
       <;> refine xL 14 q_move ?_
       <;> refine xL 18 q_extract ?_
       <;> refine xL 19 q_extract ?_
       <;> refine s_alloc [(.int .i64 0), (.slice none 0 0)] 2 6 tZr28_LbS fun h6 => ?_
       <;> refine s_sta 6 tAgg28_LbS ?_
       <;> refine xL 7 q_assign ?_
       <;> refine aL_end (nav ?_) <;> try dsimp only) <;> (
      (refine aC_region ?_
        <;> refine xL 20 q_move ?_
        <;> refine xL 21 q_neq ?_
        <;> refine aL_end (nav ?_) <;> try dsimp only)
      first | refine cCd (fun hb21 => ?_) (fun hb21 => ?_) | refine cC (fun hb21 => ?_) (fun hb21 => ?_)
      · first
        | exact Bool.noConfusion hb21
        | (
         refine nav ?_
         (refine aC_region ?_
           <;> (refine yL 22 (q_ldao 6 tAgg28_LbS) fun v22 hv22 => ?_; cases hv22)
           <;> refine xL 23 q_move ?_
           <;> refine s_sta 2 tAgg28_LbS ?_
           <;> refine xL 3 q_assign ?_
           <;> refine aL_end (nav ?_) <;> try dsimp only)
         first
           | exact absurd rfl hb21
           | exact ret_cs (k := 2) 2 (by kernel_rfl) (Tryz.results22) rfl rfl rfl (Nat.le_of_ble_eq_true rfl) (by decide) rfl ⟨some cc, .inl ⟨k, cc, by omega, hQ, hq, rfl⟩, rfl⟩)
      · first
        | exact Bool.noConfusion hb21
        | (
         refine nav ?_
         (refine aC_region ?_
           <;> refine xL 24 q_add ?_
           <;> refine xL 10 q_move ?_
           <;> refine aL_end (nav ?_) <;> try dsimp only)
         refine aN_again (
           ⟨k + 1, by omega, fun j hj => by
             rcases Nat.lt_succ_iff_lt_or_eq.1 hj with h | h
             · exact hQ j h
             · rw [h]
               first
                 | exact hq
                 | exact absurd (by decide) hb21⟩
           ) (by show 3 - (k + 1) < 3 - k; omega) ⟨rfl, rfl, rfl, rfl, rfl, trivial⟩ ⟨rfl, rfl, trivial⟩)))
  · first
    | exact Bool.noConfusion hb11
    | (
     refine nav ?_
     (refine aC_region ?_
       <;> (refine yL 25 (q_ldao 1 tAgg25_LbS) fun v25 hv25 => ?_; cases hv25)
       <;> (refine cPx 26 (cA Tryz.call21 hG.2.2.2) (fun i va26 vb26 hva26 hvb26 => ?_) (fun i => cutO_sh i.1); rcases i with ⟨_ | cc, hq⟩ <;> (dsimp only [cutO1, cutO2] at hva26 hvb26 ⊢; cases hvb26))
       <;> refine xL 27 q_extract ?_
       <;> refine xL 28 q_extract ?_
       <;> refine s_sta 2 tAgg28_LbS ?_
       <;> refine xL 3 q_assign ?_
       <;> refine aL_end (nav ?_) <;> try dsimp only) <;> (
      have hk3 : k = 3 := by omega
      subst hk3
      first
        | exact ret_cs (k := 2) 2 (by kernel_rfl) (Tryz.results22) rfl rfl rfl (Nat.le_of_ble_eq_true rfl) (by decide) rfl ⟨some cc, .inl ⟨3, cc, by omega, hQ, hq, rfl⟩, rfl⟩
        | exact ret_cs (k := 2) 2 (by kernel_rfl) (Tryz.results22) rfl rfl rfl (Nat.le_of_ble_eq_true rfl) (by decide) rfl ⟨none, .inr ⟨fun j hj => (Nat.lt_succ_iff_lt_or_eq.1 hj).elim (hQ j) fun h => by rw [h]; exact hq, rfl⟩, rfl⟩))
end Go.Proofs.YtoanjgpdepaciaaGreat
