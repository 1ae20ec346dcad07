/-
  'casebooklaw36.CutFinest' returns true for every graph and every cut, and changes nothing that was handed to it.
-/
import Derived.Test.YtoanjgpdepaciaaGreatRows
import Derived.Test.YtoanjgpdepaciaaGreatMLbLa
import Derived.Test.YtoanjgpdepaciaaGreatLe
namespace Go.En
open Go.RowKit Go.Cb
theorem cPx {P : Program} {c : Ctx} {ops : Array Oper} {Q : Exit → Act → World → Prop} {rest : List Oper} {sL hP : List (Nat × Ent)} {o : Oper} {ι : Type} {p1 p2 : ι → PV} (d : Nat) (hC : CallR P c (⟨sL, hP⟩ : St) o (fun p => ∃ i, p = .tup [p1 i, p2 i])) (k : ∀ i v1 v2, vOf (p1 i) v1 → vOf (p2 i) v2 → aL P c ops Q rest ⟨put d (.tuple [v1, v2].toArray, .tup [p1 i, p2 i]) sL, hP⟩) (hsh : ∀ i, shD (.tup [p1 i, p2 i]) = true) (hw : wants ops sL o = some true := by exact rfl) (hd : o.dst = some d := by exact rfl) (hn : d < c.nt := by exact Nat.le_of_ble_eq_true rfl) : aL P c ops Q (o :: rest) (⟨sL, hP⟩ : St) :=
  call_run hw hC fun a w F w' v p' Fr H hR hx hT hlo hdw => by
    obtain ⟨i, rfl⟩ := hR
    have hS := hT.shD (hsh i)
    rw [hd]
    have hS' : Shr (mof c hP F) w' v (.tup [p1 i, p2 i]) := hS.anti fun b _ h => .inl h
    cases hS with
    | tup vs ps hl h =>
      match vs, hl, h, hS' with
      | [v1, v2], _, h, hS' => exact k i v1 v2 (h 0 v1 _ rfl rfl).vOf (h 1 v2 _ rfl rfl).vOf _ _ ⟨F, put_up H hx hn hS'⟩
end Go.En
namespace Go.Proofs.YtoanjgpdepaciaaGreat
open Go.RowKit Go.Cb Go.En Go.ChangeShapes Go.WideShapes Go.ChangeAt
set_option linter.all false
set_option maxRecDepth 100000

theorem tAgg25_LbP : AggT Tryz.prog 25 4 = true := by kernel_rfl
theorem tAgg28_LbP : AggT Tryz.prog 28 2 = true := by kernel_rfl
theorem tFl28_0_LbP : FldT Tryz.prog 28 0 0 = true := by kernel_rfl
theorem tFl28_1_LbP : FldT Tryz.prog 28 1 1 = true := by kernel_rfl
theorem tNa26_LbP : NoAgg Tryz.prog 26 = true := by kernel_rfl
theorem tNa36_LbP : NoAgg Tryz.prog 36 = true := by kernel_rfl
theorem tNa3_LbP : NoAgg Tryz.prog 3 = true := by kernel_rfl
theorem tNa9_LbP : NoAgg Tryz.prog 9 = true := by kernel_rfl
theorem tSl26_LbP : SlT Tryz.prog 26 36 1 = true := by kernel_rfl
theorem tSl36_LbP : SlT Tryz.prog 36 9 1 = true := by kernel_rfl
theorem tSz36_LbP : (Tryz.prog.info? 36).map (·.size) = some 1 := by kernel_rfl
theorem tSz3_LbP : (Tryz.prog.info? 3).map (·.size) = some 1 := by kernel_rfl
theorem tZr28_LbP : ZeroT Tryz.prog 28 (.agg #[(.int .i64 0), (.slice none 0 0)]) := by unfold ZeroT; kernel_rfl
theorem tZr36_LbP : ZeroT Tryz.prog 36 (.slice none 0 0) := by unfold ZeroT; kernel_rfl
theorem tZr3_LbP : ZeroT Tryz.prog 3 (.int .i64 0) := by unfold ZeroT; kernel_rfl

/-- What is made of classes: no cut, or one. -/
def CutI (Q : List (List Int) → Prop) : Type := { cs : List (List Int) // Q cs ∧ cs.length < 2 } ⊕ { cs : List (List Int) // Q cs ∧ 2 ≤ cs.length }
def cut1 (l : List ByteArray) (kind : Int) {Q : List (List Int) → Prop} : CutI Q → PV
  | .inl _ => .agg [pInt 0, .val (.slice none 0 0)]
  | .inr cs => .agg [pInt kind, pStrss (partsOf l cs.1)]
def cut2 {Q : List (List Int) → Prop} : CutI Q → PV
  | .inl _ => pInt 10
  | .inr _ => pInt 0
theorem cutI_sh (l : List ByteArray) (kind : Int) {Q : List (List Int) → Prop} (i : CutI Q) : shD (.tup [cut1 l kind i, cut2 i]) = true := by cases i <;> rfl
theorem cutI_of {l : List ByteArray} {kind : Int} {Q : List (List Int) → Prop} {p : PV} (h : ∃ cs, Q cs ∧ p = cutP l kind cs) : ∃ i : CutI Q, p = .tup [cut1 l kind i, cut2 i] := by
  obtain ⟨cs, hq, rfl⟩ := h
  unfold cutP
  by_cases hm : cs.length < 2
  · exact ⟨.inl ⟨cs, hq, hm⟩, by rw [if_pos hm]; rfl⟩
  · exact ⟨.inr ⟨cs, hq, by omega⟩, by rw [if_neg hm]; rfl⟩
theorem zero_at {p : List ByteArray} {s : ByteArray} (h : p[0]? = some s) : (p.map pStr)[0 * 1]? = some (pStr s) := by rw [Nat.mul_one, List.getElem?_map, h]; rfl
theorem cutFinest1_e (p q : List ByteArray) (s : ByteArray) (hs : p[0]? = some s) : AF Tryz.prog 15 [pStrs q, .sptr 0 [pStrs p]] (· = pBool (hasStr q s)) := by
  have hl := lt_of_get hs
  have e1 := zero_at hs
  refine AF.of_body 14 Tryz.func15 rfl Tryz.ntmps15 (Nat.le_of_ble_eq_true rfl) ?_
  intro w0 M0 vs hl hv
  obtain ⟨v0, v1, rfl⟩ := len2 hl
  clear hl hv
  refine nav ?_
  (refine aC_region ?_
    <;> refine xL 3 q_assign ?_
    <;> refine aL_end (nav ?_) <;> try dsimp only)
  (refine aC_region ?_
    <;> (refine yL 4 (q_ld tNa36_LbP) fun v4 hv4 => ?_; cases hv4)
    <;> refine xL 5 (q_len tSl36_LbP) ?_
    <;> refine xL 6 q_gtr ?_
    <;> refine xL 7 q_move ?_
    <;> (refine bLd 7 (fun hb7 => ?_) (fun hb7 => ?_) <;> (first | refine kL 8 ?_ | refine xL 8 q_move ?_))
    <;> (first | refine kL 9 ?_ | (refine yL 9 (q_ld tNa36_LbP) fun v9 hv9 => ?_; cases hv9))
    <;> (first | refine kL 10 ?_ | refine xL 10 (q_idxN (i := 0) tSl36_LbP) ?_)
    <;> (first | refine kL 11 ?_ | (refine yL 11 (q_ld tNa9_LbP) fun v11 hv11 => ?_; cases hv11))
    <;> (first | refine kL 12 ?_ | (refine cS 12 (cA Tryz.call16 (sContainsStr_e q s)) fun v12 hv12 => ?_; cases hv12))
    <;> refine xL 13 q_pick ?_
    <;> refine xL 3 q_assign ?_
    <;> refine aL_end (nav ?_) <;> try dsimp only) <;> (try (exfalso; omega)) <;> (
    exact ret_shr Tryz.results15 rfl rfl)
theorem cutFinest2_e (c : Cut) (i : Nat) (s : ByteArray) (q : List ByteArray) (hq : c.parts[i]? = some q) : AF Tryz.prog 18 [pStr s, .sptr 0 [pInt c.kind, pStrss c.parts], .sptr 0 [pInt i]] (· = pBool (!hasStr q s)) := by
  have hl := lt_of_get hq
  have e1 := map_at (f := pStrs) hq
  refine AF.of_body 13 Tryz.func18 rfl Tryz.ntmps18 (Nat.le_of_ble_eq_true rfl) ?_
  intro w0 M0 vs hl hv
  obtain ⟨v0, v1, v2, rfl⟩ := len3 hl
  obtain rfl := hv 0 _ _ rfl rfl
  clear hl hv
  dsimp only [pStrss]
  refine nav ?_
  (refine aC_region ?_
    <;> refine xL 4 q_assign ?_
    <;> refine aL_end (nav ?_) <;> try dsimp only)
  (refine aC_region ?_
    <;> refine xL 5 (q_fld tFl28_1_LbP) ?_
    <;> (refine yL 6 (q_ld tNa26_LbP) fun v6 hv6 => ?_; cases hv6)
    <;> (refine yL 7 (q_ld tNa3_LbP) fun v7 hv7 => ?_; cases hv7)
    <;> refine xL 8 (q_idxN tSl26_LbP) ?_
    <;> (refine yL 9 (q_ld tNa36_LbP) fun v9 hv9 => ?_; cases hv9)
    <;> refine xL 10 q_move ?_
    <;> (refine cS 11 (cA Tryz.call16 (sContainsStr_e q s)) fun v11 hv11 => ?_; cases hv11)
    <;> refine xL 12 q_not ?_
    <;> refine xL 4 q_assign ?_
    <;> refine aL_end (nav ?_) <;> try dsimp only)
  exact ret_shr Tryz.results18 rfl rfl
set_option maxHeartbeats 2000000 in
theorem cutFinest_e (g : Dfg) (c : Cut) (hf : fitD g) (hc : fitC c) : AF Tryz.prog 4 [pDfg g, pCut c] (· = pBool true) := by
  have hs : ∀ p ∈ c.parts, ∀ s ∈ p, s.size ≤ 140737488355328 := fun p hp s hs => (hc.2.1 p hp).2 s hs
  refine AF.of_body 101 Tryz.func4 rfl Tryz.ntmps4 (Nat.le_of_ble_eq_true rfl) ?_
  intro w0 M0 vs hl hv
  obtain ⟨v0, v1, rfl⟩ := len2 hl
  clear hl hv
  refine nav ?_
  (refine aC_region ?_
    <;> refine s_boxa 2 4 fun h2 => ?_
    <;> refine s_boxa 3 2 fun h3 => ?_
    <;> refine xL 4 q_assign ?_
    <;> refine aL_end (nav ?_) <;> try dsimp only)
  (refine aC_region ?_
    <;> (refine cS 11 (cA Tryz.call7 (awake_e)) fun v11 hv11 => ?_; cases hv11)
    <;> refine xL 12 q_not ?_
    <;> refine xL 13 q_move ?_
    <;> (refine yL 14 (q_ldao 2 tAgg25_LbP) fun v14 hv14 => ?_; cases hv14)
    <;> (refine cS 15 (cA Tryz.call8 (plain36_e g)) fun v15 hv15 => ?_; cases hv15)
    <;> refine xL 16 q_not ?_
    <;> refine xL 17 q_pick ?_
    <;> refine xL 18 q_move ?_
    <;> (refine bL 18 (fun hb18 => ?_) (fun hb18 => ?_) <;> (first | refine kL 19 ?_ | (refine yL 19 (q_ldao 3 tAgg28_LbP) fun v19 hv19 => ?_; cases hv19)))
    <;> (first | refine kL 20 ?_ | (refine cS 20 (cA Tryz.call9 (few_e c)) fun v20 hv20 => ?_; cases hv20))
    <;> (first | refine kL 21 ?_ | refine xL 21 q_not ?_)
    <;> refine xL 22 q_pick ?_
    <;> refine xL 23 q_move ?_
    <;> (first | refine kL 24 ?_ | (refine bL 23 (fun hb23 => ?_) (fun hb23 => ?_) <;> (first | refine kL 24 ?_ | refine xL 24 (q_fldo 3 tFl28_0_LbP) ?_)))
    <;> (first | refine kL 25 ?_ | (refine yL 25 (q_ldo 3 tNa3_LbP) fun v25 hv25 => ?_; cases hv25))
    <;> (first | refine kL 26 ?_ | refine xL 26 q_neq ?_)
    <;> (first | refine kL 27 ?_ | refine xL 27 q_move ?_)
    <;> (first | refine kL 28 ?_ | (refine bLd 27 (fun hb27 => ?_) (fun hb27 => ?_) <;> (first | refine kL 28 ?_ | refine xL 28 (q_fldo 3 tFl28_0_LbP) ?_)))
    <;> (first | refine kL 29 ?_ | (refine yL 29 (q_ldo 3 tNa3_LbP) fun v29 hv29 => ?_; cases hv29))
    <;> (first | refine kL 30 ?_ | refine xL 30 q_neq ?_)
    <;> (first | refine kL 31 ?_ | refine xL 31 q_pick ?_)
    <;> refine xL 32 q_pick ?_
    <;> refine xL 33 q_move ?_
    <;> (first | refine kL 34 ?_ | (refine yL 34 (q_ldao 2 tAgg25_LbP) fun v34 hv34 => ?_; cases hv34) | (refine bLd 33 (fun hb33 => ?_) (fun hb33 => ?_) <;> (first | refine kL 34 ?_ | (refine yL 34 (q_ldao 2 tAgg25_LbP) fun v34 hv34 => ?_; cases hv34))))
    <;> (first | refine kL 35 ?_ | (refine yL 35 (q_ldao 3 tAgg28_LbP) fun v35 hv35 => ?_; cases hv35))
    <;> (first | refine kL 36 ?_ | (refine cS 36 (cA Tryz.call10 (cValid_e g c hf (by have := plainB_lens (g := g) (by simpa using hb18); omega) (by have := plainB_lens (g := g) (by simpa using hb18); omega) (by have := plainB_lens (g := g) (by simpa using hb18); omega) hs (by have := fewB_lens (c := c) (by simpa using hb23); omega))) fun v36 hv36 => ?_; cases hv36))
    <;> (first | refine kL 37 ?_ | refine xL 37 q_not ?_)
    <;> refine xL 38 q_pick ?_
    <;> refine aL_end (nav ?_) <;> try dsimp only) <;> (
    first | refine cCd (fun hb38 => ?_) (fun hb38 => ?_) | refine cC (fun hb38 => ?_) (fun hb38 => ?_)
    · first
      | exact Bool.noConfusion hb38
      | (
          refine nav ?_
          (refine aC_region ?_
            <;> (refine cS 39 (cA Tryz.call7 (awake_e)) fun v39 hv39 => ?_; cases hv39)
            <;> refine xL 4 q_assign ?_
            <;> refine aL_end (nav ?_) <;> try dsimp only)
          exact ret_shr Tryz.results4 rfl rfl)
    · first
      | exact Bool.noConfusion hb38
      | (
          have hpl := plainB_lens (g := g) (by simpa using hb18)
          have hfe := fewB_lens (c := c) (by simpa using hb23)
          have hok : cutOk g c = true := by simpa using hb38
          have hkk : c.kind = 1 ∨ c.kind = 2 := by omega
          unfold cutOk at hok
          simp only [Bool.and_eq_true] at hok
          obtain ⟨⟨hd, hF⟩, hrf⟩ := hok
          rw [← forms_law hF] at hrf
          have hbg := cBegin_e g hf (by omega) (by omega) (by omega)
          unfold RBegin at hbg
          rw [hd, if_pos rfl] at hbg
          have hna : (cnames g.acts).length = g.acts.length := by simp [cnames]
          have hla : chainB strLt (cnames g.acts) = true := by
            unfold dfgOk alphaB at hd
            simp only [Bool.and_eq_true] at hd
            exact hd.1.1.1.1.1.1.1.2
          have hn0 : 0 < g.acts.length := by
            have h1 := (validB_parts hrf).1
            have h2 : 2 ≤ c.parts.length ∧ formedGo [] c.parts = true := by
              unfold formedB at hF
              simp only [Bool.and_eq_true, decide_eq_true_eq] at hF
              exact ⟨hF.1.2, hF.2⟩
            obtain ⟨p, hp⟩ := get_some (show 0 < c.parts.length by omega)
            have h3 := (formed_nodup h2.2 (by simp)).2 p (List.mem_of_getElem? hp)
            obtain ⟨s, hs'⟩ := List.exists_mem_of_ne_nil p h3
            have := List.length_pos_of_mem (List.mem_flatten.2 ⟨p, List.mem_of_getElem? hp, hs'⟩)
            omega
          refine nav ?_
          (refine aC_region ?_
            <;> (refine yL 41 (q_ldao 2 tAgg25_LbP) fun v41 hv41 => ?_; cases hv41)
            <;> (refine cPx 42 (cA Tryz.call12 ((cXor_good g (cnames g.acts) g.acts.length _ _ _ hbg hna (by omega)).mono fun p hp => cutI_of hp)) (fun i va42 vb42 hva42 hvb42 => ?_) (cutI_sh _ _); rcases i with ⟨cs, hcs, hm⟩ | ⟨cs, hcs, hm⟩ <;> (dsimp only [cut1, cut2] at hvb42 ⊢; cases hvb42))
            <;> refine xL 40 q_move ?_
            <;> refine xL 43 q_extract ?_
            <;> refine xL 44 q_extract ?_
            <;> refine s_alloc [(.int .i64 0), (.slice none 0 0)] 2 5 tZr28_LbP fun h5 => ?_
            <;> refine s_sta 5 tAgg28_LbP ?_
            <;> refine xL 6 q_assign ?_
            <;> refine aL_end (nav ?_) <;> try dsimp only) <;> (
            (refine aC_region ?_
              <;> refine xL 45 (q_fldo 3 tFl28_0_LbP) ?_
              <;> (refine yL 46 (q_ldo 3 tNa3_LbP) fun v46 hv46 => ?_; cases hv46)
              <;> refine xL 47 q_eql ?_
              <;> refine aL_end (nav ?_) <;> try dsimp only)
            refine aC_mid (fun P : { P : List (List ByteArray) // Fine c P } => ⟨[(2, padd (sbase h2) 0, .val (padd (sbase h2) 0)), (3, padd (sbase h3) 0, .val (padd (sbase h3) 0)), (5, padd (sbase h5) 0, .val (padd (sbase h5) 0)), (6, .int .i64 0, pInt 0)], [(3, h3, .own 28 2 1 [pInt c.kind, pStrss c.parts]), (5, h5, .own 28 2 1 [pInt c.kind, pStrss P.1])]⟩) ?_ ?_
            · first | refine cCd (fun hb47 => ?_) (fun hb47 => ?_) | refine cC (fun hb47 => ?_) (fun hb47 => ?_)
              · first
                | exact Bool.noConfusion hb47
                | (
                    refine nav ?_
                    (refine aC_region ?_
                      <;> (refine yL 49 (q_ldao 2 tAgg25_LbP) fun v49 hv49 => ?_; cases hv49)
                      <;> (refine cPx 50 (cA Tryz.call13 ((cSeq_good g (cnames g.acts) g.acts.length _ _ _ hbg hna (by omega) hn0).mono fun p hp => cutI_of hp)) (fun i va50 vb50 hva50 hvb50 => ?_) (cutI_sh _ _); rcases i with ⟨ds, hds, hm2⟩ | ⟨ds, hds, hm2⟩ <;> (dsimp only [cut1, cut2] at hvb50 ⊢; cases hvb50))
                      <;> refine xL 48 q_move ?_
                      <;> refine xL 51 q_extract ?_
                      <;> refine xL 52 q_extract ?_
                      <;> refine s_sta 5 tAgg28_LbP ?_
                      <;> refine xL 6 q_assign ?_
                      <;> refine aL_end (nav ?_) <;> try dsimp only) <;> (
                      first
                        | exact absurd (fine_seq hF hna hla hrf (by omega) hds).1 (by omega)
                        | exact absurd (fine_xor hF hna hla hrf (by omega) hcs).1 (by omega)
                        | (refine aN_join ⟨partsOf (cnames g.acts) ds, (fine_seq hF hna hla hrf (by omega) hds).2⟩ ⟨rfl, rfl, rfl, rfl, trivial⟩ ⟨rfl, ?_, trivial⟩
                           exact congrArg (fun z : Int => some (h5, PV.own 28 2 1 [pInt z, pStrss (partsOf (cnames g.acts) ds)])) (show (2 : Int) = c.kind by omega))
                        | (refine aN_join ⟨partsOf (cnames g.acts) cs, (fine_xor hF hna hla hrf (by omega) hcs).2⟩ ⟨rfl, rfl, rfl, rfl, trivial⟩ ⟨rfl, ?_, trivial⟩
                           exact congrArg (fun z : Int => some (h5, PV.own 28 2 1 [pInt z, pStrss (partsOf (cnames g.acts) cs)])) (show (1 : Int) = c.kind by omega))))
              · first
                | exact Bool.noConfusion hb47
                | (
                    refine nav ?_
                    first
                      | exact absurd (fine_seq hF hna hla hrf (by omega) hds).1 (by omega)
                      | exact absurd (fine_xor hF hna hla hrf (by omega) hcs).1 (by omega)
                      | (refine aN_join ⟨partsOf (cnames g.acts) ds, (fine_seq hF hna hla hrf (by omega) hds).2⟩ ⟨rfl, rfl, rfl, rfl, trivial⟩ ⟨rfl, ?_, trivial⟩
                         exact congrArg (fun z : Int => some (h5, PV.own 28 2 1 [pInt z, pStrss (partsOf (cnames g.acts) ds)])) (show (2 : Int) = c.kind by omega))
                      | (refine aN_join ⟨partsOf (cnames g.acts) cs, (fine_xor hF hna hla hrf (by omega) hcs).2⟩ ⟨rfl, rfl, rfl, rfl, trivial⟩ ⟨rfl, ?_, trivial⟩
                         exact congrArg (fun z : Int => some (h5, PV.own 28 2 1 [pInt z, pStrss (partsOf (cnames g.acts) cs)])) (show (1 : Int) = c.kind by omega)))
            · rintro ⟨P, hP⟩
              dsimp only
              refine nav ?_
              (refine aC_region ?_
                <;> refine xL 53 q_move ?_
                <;> refine xL 54 q_neq ?_
                <;> refine xL 55 q_move ?_
                <;> refine xL 56 (q_fldo 5 tFl28_0_LbP) ?_
                <;> (refine yL 57 (q_ldo 5 tNa3_LbP) fun v57 hv57 => ?_; cases hv57)
                <;> refine xL 58 (q_fldo 3 tFl28_0_LbP) ?_
                <;> (refine yL 59 (q_ldo 3 tNa3_LbP) fun v59 hv59 => ?_; cases hv59)
                <;> refine xL 60 q_neq ?_
                <;> refine xL 61 q_pick ?_
                <;> refine xL 62 q_move ?_
                <;> (refine bLd 62 (fun hb62 => ?_) (fun hb62 => ?_) <;> (first | refine kL 63 ?_ | refine xL 63 (q_fldo 5 tFl28_1_LbP) ?_))
                <;> (first | refine kL 64 ?_ | (refine yL 64 (q_ldo 5 tNa26_LbP) fun v64 hv64 => ?_; cases hv64))
                <;> (first | refine kL 65 ?_ | refine xL 65 (q_len tSl26_LbP) ?_)
                <;> (first | refine kL 66 ?_ | refine xL 66 (q_fldo 3 tFl28_1_LbP) ?_)
                <;> (first | refine kL 67 ?_ | (refine yL 67 (q_ldo 3 tNa26_LbP) fun v67 hv67 => ?_; cases hv67))
                <;> (first | refine kL 68 ?_ | refine xL 68 (q_len tSl26_LbP) ?_)
                <;> (first | refine kL 69 ?_ | refine xL 69 q_lss ?_)
                <;> refine xL 70 q_pick ?_
                <;> refine aL_end (nav ?_) <;> try dsimp only) <;> (try (exfalso; omega)) <;> (
                first | refine cCd (fun hb70 => ?_) (fun hb70 => ?_) | refine cC (fun hb70 => ?_) (fun hb70 => ?_)
                · exfalso
                  have := hP.len
                  omega
                · refine nav ?_
                  (refine aC_region ?_
                    <;> refine xL 7 q_assign ?_
                    <;> refine aL_end (nav ?_) <;> try dsimp only)
                  (refine aC_region ?_
                    <;> refine xL 71 (q_fldo 5 tFl28_1_LbP) ?_
                    <;> (refine yL 72 (q_ldo 5 tNa26_LbP) fun v72 hv72 => ?_; cases hv72)
                    <;> refine xL 73 (q_len tSl26_LbP) ?_
                    <;> refine xL 74 q_move ?_
                    <;> refine aL_end (nav ?_) <;> try dsimp only)
                  refine aC_slen 72 rfl fun hPl => ?_
                  refine aC_ent (freezeP (l := 3) (t := 3) (j := 0) rfl Nat.one_pos rfl) fun _ => ?_
                  try dsimp only [shares, share, pStrss]
                  refine aC_loop (ι := { x : Nat × Int // x.1 ≤ P.length ∧ (x.1 = 0 → x.2 = 0) ∧ ∀ p s, 1 ≤ x.1 → P[x.1 - 1]? = some p → p[0]? = some s → x.2 = partOf c.parts s }) (fun k => ⟨[(3, _, _), (72, _, _), (73, _, _), (7, .int .i64 k.1.2, pInt k.1.2), (74, .int .i64 k.1.1, pInt k.1.1)], []⟩) (fun k => P.length - k.1.1) ⟨(0, 0), Nat.zero_le _, fun _ => rfl, fun p s h => absurd h (by decide)⟩ (fun a w H => H.weaken ⟨rfl, rfl, rfl, rfl, rfl, trivial⟩ trivial) ?_
                  rintro ⟨⟨k, last⟩, hk, hl0, hl1⟩
                  dsimp only
                  dsimp only at hk hl0 hl1
                  refine nav ?_
                  (refine aC_region ?_
                    <;> refine xL 75 q_lss ?_
                    <;> refine aL_end (nav ?_) <;> try dsimp only)
                  first | refine cCd (fun hb75 => ?_) (fun hb75 => ?_) | refine cC (fun hb75 => ?_) (fun hb75 => ?_)
                  · first
                    | exact Bool.noConfusion hb75
                    | (
                        obtain ⟨p, hx⟩ := get_some (show k < P.length by omega)
                        have e1 := map_at (f := pStrs) hx
                        obtain ⟨s0, hs0, hge, hall⟩ := hP.ok p (List.mem_of_getElem? hx)
                        obtain ⟨i, hi⟩ : ∃ i : Nat, partOf c.parts s0 = i := ⟨(partOf c.parts s0).toNat, by omega⟩
                        have hib := (idx_bd (fun p => hasStr p s0) c.parts).2
                        obtain ⟨q, hq⟩ := get_some (show i < c.parts.length by have : partOf c.parts s0 < c.parts.length := hib; omega)
                        rw [hi, Int.toNat_natCast, hq] at hall
                        have hany : p.any (fun s => !hasStr q s) = false := by
                          rw [List.any_eq_false]
                          intro s hs'
                          have := hall s hs'
                          simp only [Option.getD_some] at this
                          rw [this]; simp
                        have hlast : c.kind = 2 → last ≤ i := fun h2 => by
                          rcases Nat.eq_zero_or_pos k with h0 | h0
                          · rw [hl0 h0]; omega
                          · obtain ⟨p', hp'⟩ := get_some (show k - 1 < P.length by omega)
                            obtain ⟨t0, ht0, _, _⟩ := hP.ok p' (List.mem_of_getElem? hp')
                            have h3 := hP.ord h2 (k - 1) p' p t0 s0 hp' (by rw [Nat.sub_add_cancel h0]; exact hx) ht0 hs0
                            rw [hl1 p' t0 h0 hp' ht0]; omega
                        refine nav ?_
                        (refine aC_region ?_
                          <;> refine xL 76 (q_idxN tSl26_LbP) ?_
                          <;> (refine yL 77 (q_ld tNa36_LbP) fun v77 hv77 => ?_; cases hv77)
                          <;> refine s_alloc [(.slice none 0 0)] 1 9 tZr36_LbP fun h9 => ?_
                          <;> refine s_st 9 tNa36_LbP tSz36_LbP ?_
                          <;> refine aL_end (nav ?_) <;> try dsimp only)
                        refine aC_ent (freezeP (l := 9) (t := 9) (j := 0) rfl Nat.one_pos rfl) fun _ => ?_
                        try dsimp only [shares, share, List.set]
                        (refine aC_region ?_
                          <;> refine xL 78 (q_fld tFl28_1_LbP) ?_
                          <;> (refine yL 79 (q_ld tNa26_LbP) fun v79 hv79 => ?_; cases hv79)
                          <;> refine xL 80 q_mkfn ?_
                          <;> (refine cS 81 (cA Tryz.call14 ((indexFuncStrs_e 15 [.sptr 0 [pStrs p]] (fun q => hasStr q s0) c.parts (Tryz.call15) (fun q _ => cutFinest1_e p q s0 hs0)).mono (R' := (· = pInt (i : Nat))) fun r hr => by rw [hr]; show pInt (partOf c.parts s0) = _; rw [hi])) fun v81 hv81 => ?_; cases hv81)
                          <;> refine s_alloc [(.int .i64 0)] 1 10 tZr3_LbP fun h10 => ?_
                          <;> refine s_st 10 tNa3_LbP tSz3_LbP ?_
                          <;> refine aL_end (nav ?_) <;> try dsimp only)
                        refine aC_ent (freezeP (l := 10) (t := 10) (j := 0) rfl Nat.one_pos rfl) fun _ => ?_
                        try dsimp only [shares, share, List.set]
                        (refine aC_region ?_
                          <;> (refine yL 82 (q_ld tNa3_LbP) fun v82 hv82 => ?_; cases hv82)
                          <;> refine xL 83 q_lss ?_
                          <;> refine xL 84 q_move ?_
                          <;> (refine yL 85 (q_ld tNa36_LbP) fun v85 hv85 => ?_; cases hv85)
                          <;> refine xL 86 q_mkfn ?_
                          <;> (refine cS 87 (cA Tryz.call17 (containsFuncStr_e 18 [.sptr 0 [pInt c.kind, pStrss c.parts], .sptr 0 [pInt (i : Nat)]] (fun s => !hasStr q s) p (Tryz.call18) (fun s _ => cutFinest2_e c i s q hq))) fun v87 hv87 => ?_; cases hv87)
                          <;> refine xL 88 q_pick ?_
                          <;> refine xL 89 q_move ?_
                          <;> (refine bL 89 (fun hb89 => ?_) (fun hb89 => ?_) <;> (first | refine kL 90 ?_ | refine xL 90 (q_fld tFl28_0_LbP) ?_))
                          <;> (first | refine kL 91 ?_ | (refine yL 91 (q_ld tNa3_LbP) fun v91 hv91 => ?_; cases hv91))
                          <;> (first | refine kL 92 ?_ | refine xL 92 q_eql ?_)
                          <;> (first | refine kL 93 ?_ | refine xL 93 q_move ?_)
                          <;> (first | refine kL 94 ?_ | (refine bLd 93 (fun hb93 => ?_) (fun hb93 => ?_) <;> (first | refine kL 94 ?_ | (refine yL 94 (q_ld tNa3_LbP) fun v94 hv94 => ?_; cases hv94))))
                          <;> (first | refine kL 95 ?_ | refine xL 95 q_move ?_)
                          <;> (first | refine kL 96 ?_ | refine xL 96 q_lss ?_)
                          <;> (first | refine kL 97 ?_ | refine xL 97 q_pick ?_)
                          <;> refine xL 98 q_pick ?_
                          <;> refine aL_end (nav ?_) <;> try dsimp only) <;> (try (exfalso; omega)) <;> (
                          first | refine cCd (fun hb98 => ?_) (fun hb98 => ?_) | refine cC (fun hb98 => ?_) (fun hb98 => ?_)
                          · exfalso
                            first
                              | omega
                              | exact Bool.noConfusion hb98
                              | (have := hlast (by omega); omega)
                              | (rw [hany] at hb89; exact Bool.noConfusion hb89)
                          · refine nav ?_
                            (refine aC_region ?_
                              <;> (refine yL 99 (q_ld tNa3_LbP) fun v99 hv99 => ?_; cases hv99)
                              <;> refine xL 7 q_assign ?_
                              <;> refine aL_end (nav ?_) <;> try dsimp only)
                            (refine aC_region ?_
                              <;> refine xL 100 q_add ?_
                              <;> refine xL 74 q_move ?_
                              <;> refine aL_end (nav ?_) <;> try dsimp only)
                            refine aN_again (
                              ⟨(k + 1, (i : Int)), by show k + 1 ≤ P.length; omega, fun h => absurd h (Nat.succ_ne_zero k), fun p' s h1 hp' hs' => by
                                rw [show (k + 1, (i : Int)).1 - 1 = k from Nat.add_sub_cancel k 1, hx] at hp'
                                cases hp'
                                rw [hs0] at hs'; cases hs'
                                exact hi.symm⟩
                              ) (by show P.length - (k + 1) < P.length - k; omega) ⟨rfl, rfl, rfl, rfl, rfl, trivial⟩ trivial))
                  · first
                    | exact Bool.noConfusion hb75
                    | (
                        refine nav ?_
                        (refine aC_region ?_
                          <;> refine xL 4 q_assign ?_
                          <;> refine aL_end (nav ?_) <;> try dsimp only)
                        exact ret_shr Tryz.results4 rfl rfl)))))
/-! ### The row -/
theorem own : ownKnob Tryz.prog.godebug = none := by kernel_rfl
theorem laidOut : laidOutB Tryz.prog = true := by kernel_rfl
theorem lifted (os : Os) (started : os.Started) (H : Type) (enc : TypeId × Value → H) :
    ReturnsInHanded {} Tryz.checked os 4 .any (Rows.cutFinestSpec.pre6 enc Tryz.prog Tryz.f4 Rows.cutFinestRow.domain false) (Rows.cutFinestSpec.post enc Tryz.prog Tryz.f4 false true false false) := by
  refine returnsInHanded_of_change_sized (C := Tryz.checked) own started (by kernel_rfl) Tryz.func4
    (ChangeSpec.witness6 (enc := enc) (C := Tryz.checked) false ⟨#[], #[(.agg #[(.slice none 0 0), (.slice none 0 0), (.slice none 0 0), (.slice none 0 0)]), (.agg #[(.int .i64 0), (.slice none 0 0)])], []⟩ 8 (by kernel_rfl) (by kernel_rfl) (by kernel_rfl) (by kernel_rfl)) ?_
  intro W base args ds gs before hval0 hW hcnd hsz _
  have hval : ∀ (j : Nat) t v, Tryz.f4.params[j]? = some t → args[j]? = some v → Value.okWide Tryz.prog W .any base t v := hval0
  have hW' := hW
  obtain ⟨p, q, hA0, hV, rfl, hfz, hnd⟩ := hW
  have hA : DataW.TrodAll enc Tryz.prog W 0 (fun _ => true) true Tryz.f4.params.toList args.toList ds p := hA0
  have hsz' : ∀ n ∈ DataW.weightsEach Tryz.prog (Tryz.f4.params.toList ++ Rows.cutFinestSpec.plain.varTypes Tryz.prog) (ds ++ gs), n ≤ reachBytes := fun n hn => by
    have := List.all_eq_true.1 hsz n hn
    exact of_decide_eq_true this
  have hK := hA
  rw [Tryz.params4] at hA hval hsz'
  obtain ⟨v0, vs0, d0, ds0, p0, q0, hargs, rfl, rfl, h0, r0⟩ := trodAll_cons hA
  obtain ⟨v1, vs1, d1, ds1, p1, q1, rfl, rfl, rfl, h1, r1⟩ := trodAll_cons r0
  obtain ⟨rfl, rfl, rfl⟩ := trodAll_nil r1
  obtain rfl : args = #[v0, v1] := by cases args; simp_all
  obtain ⟨rfl, rfl⟩ := trodVars_none hV
  obtain ⟨xg, hxg, s0⟩ := argA dDfg (by kernel_rfl) (hval 0 _ v0 rfl rfl) h0 (fun n hn => hsz' n (weightsEach_mem _ 0 rfl rfl hn))
  obtain ⟨xc, hxc, s1⟩ := argA dCut (by kernel_rfl) (hval 1 _ v1 rfl rfl) h1 (fun n hn => hsz' n (weightsEach_mem _ 1 rfl rfl hn))
  refine ((cutFinest_e xg xc hxg hxc).law (vs := [v0, v1]) rfl (fun i v p hv hp => ?_)).mono fun e W' ⟨he, bel⟩ => ?_
  · match i with
    | 0 => simp at hv hp; subst hv hp; exact s0
    | 1 => simp at hv hp; subst hv hp; exact s1
    | i + 2 => simp at hv
  subst he
  exact ⟨_, rfl, _, _, _, [], _, [], hW', trodAll_mk1 (shut_bool Tryz.underlying4 _), trodAll_back laidOut bel (by kernel_rfl) hK, rfl, bel.frame _, fun h => by cases h⟩

theorem over : Rows.cutFinestRow.holds Tryz.pinned (OpenSpec.ofChange Rows.cutFinestSpec) :=
  OpenClaim.holds_of_wide 4 Tryz.f4 rfl rfl rfl rfl rfl rfl rfl ⟨rfl, rfl, rfl, rfl, rfl⟩ rfl rfl rfl rfl rfl (by kernel_rfl) Tryz.func4 (by kernel_rfl)
    (of_decide_eq_true (by kernel_rfl)) (by unfold Func.isWrapper; first | (rw [if_pos (by decide +kernel)]; kernel_rfl) | (rw [if_neg (by decide +kernel)]; exact ⟨rfl, rfl⟩))
    (fun os started H enc _ => lifted os started H enc)

theorem cutFinest_holds : Rows.CutFinestSaid := over
end Go.Proofs.YtoanjgpdepaciaaGreat
