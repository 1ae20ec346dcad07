/-
  Walks: dfg.Auto.
  Walks: dfg.Words.
  Plain laws: the words of an automaton, in a form that is evaluated. No program in sight.
-/
import Derived.Test.YtebcjijpdhbcdaaGreatMLdS
import Derived.Test.YtebcjijpdhbcdaaGreatLi
namespace Go.Proofs.YtebcjijpdhbcdaaGreat
open Go.RowKit Go.Cb Go.En
set_option linter.all false
set_option maxRecDepth 100000

theorem tAgg28_LdX : AggT Tryz.prog 28 4 = true := by kernel_rfl
theorem tAgg44_LdX : AggT Tryz.prog 44 2 = true := by kernel_rfl
theorem tAgg47_LdX : AggT Tryz.prog 47 3 = true := by kernel_rfl
theorem tAgg66_LdX : AggT Tryz.prog 66 5 = true := by kernel_rfl
theorem tEl63_LdX : ElT Tryz.prog 63 3 1 8 (.int .i64 0) := ⟨Tryz.underlying63, by kernel_rfl, rfl, by decide⟩
theorem tEl64_LdX : ElT Tryz.prog 64 126 3 24 (.agg #[(.int .i64 0), (.int .i64 0), (.int .i64 0)]) := ⟨Tryz.underlying64, by kernel_rfl, rfl, by decide⟩
theorem tFl28_0_LdX : FldT Tryz.prog 28 0 0 = true := by kernel_rfl
theorem tFl28_1_LdX : FldT Tryz.prog 28 1 1 = true := by kernel_rfl
theorem tFl28_2_LdX : FldT Tryz.prog 28 2 2 = true := by kernel_rfl
theorem tFl28_3_LdX : FldT Tryz.prog 28 3 3 = true := by kernel_rfl
theorem tFl44_0_LdX : FldT Tryz.prog 44 0 0 = true := by kernel_rfl
theorem tFl47_0_LdX : FldT Tryz.prog 47 0 0 = true := by kernel_rfl
theorem tFl47_1_LdX : FldT Tryz.prog 47 1 1 = true := by kernel_rfl
theorem tFl66_3_LdX : FldT Tryz.prog 66 3 3 = true := by kernel_rfl
theorem tFl66_4_LdX : FldT Tryz.prog 66 4 4 = true := by kernel_rfl
theorem tNa25_LdX : NoAgg Tryz.prog 25 = true := by kernel_rfl
theorem tNa26_LdX : NoAgg Tryz.prog 26 = true := by kernel_rfl
theorem tNa63_LdX : NoAgg Tryz.prog 63 = true := by kernel_rfl
theorem tNa64_LdX : NoAgg Tryz.prog 64 = true := by kernel_rfl
theorem tNa9_LdX : NoAgg Tryz.prog 9 = true := by kernel_rfl
theorem tSl25_LdX : SlT Tryz.prog 25 44 2 = true := by kernel_rfl
theorem tSl26_LdX : SlT Tryz.prog 26 47 3 = true := by kernel_rfl
theorem tSl51_LdX : SlT Tryz.prog 51 9 1 = true := by kernel_rfl
theorem tSt126_LdX : stInfo Tryz.prog 126 = some ((.agg #[(.int .i64 0), (.int .i64 0), (.int .i64 0)]), ([0, 1, 2] : List Nat).map fun o => (o, 1)) := by kernel_rfl
theorem tSt66_LdX : stInfo Tryz.prog 66 = some ((.agg #[(.int .i64 0), (.int .i64 0), (.slice none 0 0), (.slice none 0 0), (.slice none 0 0)]), ([0, 1, 2, 3, 4] : List Nat).map fun o => (o, 1)) := by kernel_rfl
theorem tSz63_LdX : (Tryz.prog.info? 63).map (·.size) = some 1 := by kernel_rfl
theorem tSz64_LdX : (Tryz.prog.info? 64).map (·.size) = some 1 := by kernel_rfl
theorem tZr44_LdX : ZeroT Tryz.prog 44 (.agg #[(.string ByteArray.empty), (.int .i64 0)]) := by unfold ZeroT; kernel_rfl
theorem tZr47_LdX : ZeroT Tryz.prog 47 (.agg #[(.string ByteArray.empty), (.string ByteArray.empty), (.int .i64 0)]) := by unfold ZeroT; kernel_rfl
theorem tZr66_LdX : ZeroT Tryz.prog 66 (.agg #[(.int .i64 0), (.int .i64 0), (.slice none 0 0), (.slice none 0 0), (.slice none 0 0)]) := by unfold ZeroT; kernel_rfl

def zeroA : PV := .agg [.val (.int .i64 0), .val (.int .i64 0), .val (.slice none 0 0), .val (.slice none 0 0), .val (.slice none 0 0)]
def RAuto (g : Dfg) (p : PV) : Prop := (dfgOk g = false ∧ p = .tup [zeroA, pInt 1]) ∨ (dfgOk g = true ∧ p = .tup [pAut (autG g), pInt 0])
theorem sIndexN_e (l : List ByteArray) (s : ByteArray) (h : hasStr l s = true) : AF Tryz.prog 33 [pStrs l, pStr s] (· = pInt (ixN l s : Nat)) := (sIndexStr_e l s).mono fun p hp => by rw [hp, (ixN_of h).1]
def finEs (acts : List ByteArray) (l : List Cnt) : List Int := l.map (finE acts)
theorem finEs_step {acts : List ByteArray} {l : List Cnt} {k : Nat} {x : Cnt} (h : l[k]? = some x) : finEs acts (l.take (k + 1)) = finEs acts (l.take k) ++ [((ixN acts x.name : Nat) : Int) + 1] := by
  unfold finEs; rw [take_snoc h, List.map_append]; rfl
def stMs (acts : List ByteArray) (l : List Cnt) : List Mv := l.map (moveS acts)
def flMs (acts : List ByteArray) (l : List Flw) : List Mv := l.map (moveF acts)
theorem stMs_step {acts : List ByteArray} {l : List Cnt} {k : Nat} {x : Cnt} (h : l[k]? = some x) : stMs acts (l.take (k + 1)) = stMs acts (l.take k) ++ [moveS acts x] := by
  unfold stMs; rw [take_snoc h, List.map_append]; rfl
theorem flMs_step {acts : List ByteArray} {l : List Flw} {k : Nat} {x : Flw} (h : l[k]? = some x) : flMs acts (l.take (k + 1)) = flMs acts (l.take k) ++ [moveF acts x] := by
  unfold flMs; rw [take_snoc h, List.map_append]; rfl
set_option maxHeartbeats 2000000 in
theorem dAuto_e (g : Dfg) (hf : fitD g) (ha : g.acts.length ≤ 1000000) (hs : g.starts.length ≤ 1000000) (he : g.ends.length ≤ 1000000) (hq : g.follows.length ≤ 1000000) : AF Tryz.prog 32 [pDfg g] (RAuto g) := by
  have hna : (cnames g.acts).length = g.acts.length := by simp [cnames]
  refine AF.of_body 96 Tryz.func32 rfl Tryz.ntmps32 (Nat.le_of_ble_eq_true rfl) ?_
  intro w0 M0 vs hl hv
  obtain ⟨v0, rfl⟩ := len1 hl
  clear hl hv
  refine nav ?_
  (refine aC_region ?_
    <;> refine s_boxa 1 4 fun h1 => ?_
    <;> refine s_alloc [(.int .i64 0), (.int .i64 0), (.slice none 0 0), (.slice none 0 0), (.slice none 0 0)] 5 2 tZr66_LdX fun h2 => ?_
    <;> refine xL 3 q_assign ?_
    <;> refine aL_end (nav ?_) <;> try dsimp only)
  (refine aC_region ?_
    <;> (refine yL 15 (q_ldao 1 tAgg28_LdX) fun v15 hv15 => ?_; cases hv15)
    <;> (refine cS 16 (cA Tryz.call16 (dValid_e g hf ha hs he)) fun v16 hv16 => ?_; cases hv16)
    <;> refine xL 17 q_not ?_
    <;> refine aL_end (nav ?_) <;> try dsimp only)
  first | refine cCd (fun hb17 => ?_) (fun hb17 => ?_) | refine cC (fun hb17 => ?_) (fun hb17 => ?_)
  · first
    | exact Bool.noConfusion hb17
    | (
     refine nav ?_
     (refine aC_region ?_
       <;> refine xL 18 (q_build tSt66_LdX) ?_
       <;> refine s_sta 2 tAgg66_LdX ?_
       <;> refine xL 3 q_assign ?_
       <;> refine aL_end (nav ?_) <;> try dsimp only)
     exact ret_cs (k := 5) 2 (by kernel_rfl) (Tryz.results32) rfl rfl rfl (Nat.le_of_ble_eq_true rfl) (by decide) rfl (.inl ⟨by simpa using hb17, rfl⟩))
  · first
    | exact Bool.noConfusion hb17
    | (
     have hok : dfgOk g = true := by simpa using hb17
     have hG := gok_of hok
     have h40 := hG.n40
     refine nav ?_
     (refine aC_region ?_
       <;> refine xL 19 (q_fldo 1 tFl28_0_LdX) ?_
       <;> (refine yL 20 (q_ldo 1 tNa25_LdX) fun v20 hv20 => ?_; cases hv20)
       <;> (refine cS 21 (cA Tryz.call53 (dNames_e g.acts ha)) fun v21 hv21 => ?_; cases hv21)
       <;> refine xL 4 q_assign ?_
       <;> refine aL_end (nav ?_) <;> try dsimp only)
     (refine aC_region ?_
       <;> refine xL 22 q_move ?_
       <;> refine xL 23 (q_len tSl51_LdX) ?_
       <;> refine xL 24 q_add ?_
       <;> refine xL 25 q_move ?_
       <;> refine xL 26 (q_len tSl51_LdX) ?_
       <;> (refine s_lit1 (kk := 1) 27 tEl63_LdX fun h27 ho27 => ?_; refine aL_ent (En.freeze (l := 27) (t := 27) rfl rfl) fun _ => ?_; rw [show share (PV.own 3 1 1 [.val (.int .i64 0)]) = pInts [0] from rfl])
       <;> refine xL 28 (q_build tSt66_LdX) ?_
       <;> refine s_alloc [(.int .i64 0), (.int .i64 0), (.slice none 0 0), (.slice none 0 0), (.slice none 0 0)] 5 5 tZr66_LdX fun h5 => ?_
       <;> refine s_sta 5 tAgg66_LdX ?_
       <;> refine aL_end (nav ?_) <;> try dsimp only)
     (refine aC_region ?_
       <;> refine xL 29 (q_fldo 1 tFl28_2_LdX) ?_
       <;> (refine yL 30 (q_ldo 1 tNa25_LdX) fun v30 hv30 => ?_; cases hv30)
       <;> refine xL 31 (q_len tSl25_LdX) ?_
       <;> refine xL 32 q_move ?_
       <;> refine aL_end (nav ?_) <;> try dsimp only)
     refine aC_ent (nilOwn 200 3 1 rfl) fun _ => ?_
     rw [hna]
     refine aC_loop (ι := { x : Nat × Value // x.1 ≤ g.ends.length ∧ x.2.oneCell' = true }) (fun k => ⟨[(1, _, _), (2, _, _), (4, _, _), (5, _, _), (30, _, _), (31, _, _), (32, .int .i64 k.1.1, pInt k.1.1)], [(1, _, _), (2, _, _), (5, h5, .own 66 5 1 [pInt ((g.acts.length : Nat) + 1), pInt (g.acts.length : Nat), pInts [0], .val k.1.2, .val (.slice none 0 0)]), (200, k.1.2, .own 3 1 (finEs (cnames g.acts) (g.ends.take k.1.1)).length ((finEs (cnames g.acts) (g.ends.take k.1.1)).map pInt))]⟩) (fun k => g.ends.length - k.1.1) ⟨(0, .slice none 0 0), Nat.zero_le _, rfl⟩ (fun a w H => H.weaken ⟨rfl, rfl, rfl, rfl, rfl, rfl, rfl, trivial⟩ ⟨rfl, rfl, rfl, rfl, trivial⟩) ?_
     rintro ⟨⟨k, hv⟩, hk, hvo⟩
     dsimp only
     dsimp only at hk hvo
     have hfl : (finEs (cnames g.acts) (g.ends.take k)).length ≤ 1000000 := by unfold finEs; rw [List.length_map, List.length_take]; omega
     refine nav ?_
     (refine aC_region ?_
       <;> refine xL 33 q_lss ?_
       <;> refine aL_end (nav ?_) <;> try dsimp only)
     first | refine cCd (fun hb33 => ?_) (fun hb33 => ?_) | refine cC (fun hb33 => ?_) (fun hb33 => ?_)
     · first
       | exact Bool.noConfusion hb33
       | (
        obtain ⟨x, hx⟩ := get_some (show k < g.ends.length by omega)
        have e1 := flat_drop cCnt_len g.ends k x hx
        have e2 := flat_fit cCnt_len hx
        have hxa := hG.en x (List.mem_of_getElem? hx)
        have hxi := (ixN_of hxa).2
        refine nav ?_
        (refine aC_region ?_
          <;> refine xL 34 (q_idxN tSl25_LdX) ?_
          <;> (refine yL 35 (q_lda tAgg44_LdX) fun v35 hv35 => ?_; cases hv35)
          <;> refine s_alloc [(.string ByteArray.empty), (.int .i64 0)] 2 7 tZr44_LdX fun h7 => ?_
          <;> refine s_sta 7 tAgg44_LdX ?_
          <;> refine aL_end (nav ?_) <;> try dsimp only)
        (refine aC_draw (fun i => ([10] : List Nat).elem i) [1, 5, 7] (by kernel_rfl) ?_
          <;> refine xD 0 36 rfl (q_fldo 5 tFl66_3_LdX) ?_
          <;> (refine yD 1 37 rfl (q_ldo 5 tNa63_LdX) fun v37 hv37 => ?_; cases hv37)
          <;> refine xD 2 38 rfl q_move ?_
          <;> refine xE 3 39 rfl (q_fldo 7 tFl44_0_LdX) ?_
          <;> (refine yE 4 40 rfl (q_ldo 7 tNa9_LdX) fun v40 hv40 => ?_; cases hv40)
          <;> (refine aD_one 5 (by kernel_rfl) ?_)
          <;> (refine aW_call (d := 41) rfl (cA Tryz.call33 (sIndexN_e (cnames g.acts) x.name hxa)) fun v41 hv41 => ?_; cases hv41)
          <;> refine xE 6 42 rfl q_add ?_
          <;> (refine aD_one 7 (by kernel_rfl) ?_)
          <;> (refine aW_run rfl fun w9 M9 N9 DQ back => ?_)
          <;> refine s_lit1 (kk := 1) 43 tEl63_LdX fun h43 ho43 => ?_
          <;> refine aL_end (back _ (nrm ?_))
          <;> (refine aD_one 8 (by kernel_rfl) ?_)
          <;> (refine aW_run rfl fun w9 M9 N9 DQ back => ?_)
          <;> refine s_app 200 43 44 tEl63_LdX fun h44 ho44 => ?_
          <;> refine aL_end (back _ (nrm ?_))
          <;> refine xE 9 45 rfl (q_fldo 5 tFl66_3_LdX) ?_
          <;> (refine aD_one 10 (by kernel_rfl) ?_)
          <;> (refine aW_last rfl rfl (by kernel_rfl) fun DQ back => ?_)
          <;> refine s_st 5 tNa63_LdX tSz63_LdX ?_
          <;> refine aL_end (back _ (nav ?_))
          <;> try dsimp only)
        (refine aC_region ?_
          <;> refine xL 46 q_add ?_
          <;> refine xL 32 q_move ?_
          <;> refine aL_end (nav ?_) <;> try dsimp only)
        refine aN_ent (relabel (l := 44) 200 rfl rfl) fun _ => ?_
        refine aN_ent (recast (l := 200) (p' := .own 3 1 (finEs (cnames g.acts) (g.ends.take (k + 1))).length ((finEs (cnames g.acts) (g.ends.take (k + 1))).map pInt)) rfl (by rw [finEs_step hx]; exact own_snoc _ _ _)) fun _ => ?_
        refine aN_again (
          ⟨(k + 1, h44), lt_of_get hx, ho44⟩
          ) (by dsimp only; omega) ⟨rfl, rfl, rfl, rfl, rfl, rfl, rfl, trivial⟩ ⟨rfl, rfl, rfl, rfl, trivial⟩)
     · first
       | exact Bool.noConfusion hb33
       | (
        have hkE : k = g.ends.length := by omega
        subst hkE
        rw [List.take_length]
        refine nav ?_
        (refine aC_region ?_
          <;> refine xL 47 (q_fldo 1 tFl28_1_LdX) ?_
          <;> (refine yL 48 (q_ldo 1 tNa25_LdX) fun v48 hv48 => ?_; cases hv48)
          <;> refine xL 49 (q_len tSl25_LdX) ?_
          <;> refine xL 50 q_move ?_
          <;> refine aL_end (nav ?_) <;> try dsimp only)
        refine aC_ent (nilOwn 201 126 3 rfl) fun _ => ?_
        refine aC_loop (ι := { x : Nat × Value // x.1 ≤ g.starts.length ∧ x.2.oneCell' = true }) (fun k => ⟨[(1, _, _), (2, _, _), (4, _, _), (5, _, _), (48, _, _), (49, _, _), (50, .int .i64 k.1.1, pInt k.1.1)], [(1, _, _), (2, _, _), (200, _, _), (5, h5, .own 66 5 1 [pInt ((g.acts.length : Nat) + 1), pInt (g.acts.length : Nat), pInts [0], .val hv, .val k.1.2]), (201, k.1.2, .own 126 3 (stMs (cnames g.acts) (g.starts.take k.1.1)).length ((stMs (cnames g.acts) (g.starts.take k.1.1)).flatMap cMv))]⟩) (fun k => g.starts.length - k.1.1) ⟨(0, .slice none 0 0), Nat.zero_le _, rfl⟩ (fun a w H => H.weaken ⟨rfl, rfl, rfl, rfl, rfl, rfl, rfl, trivial⟩ ⟨rfl, rfl, rfl, rfl, rfl, trivial⟩) ?_
        rintro ⟨⟨k2, hw⟩, hk2, hwo⟩
        dsimp only
        dsimp only at hk2 hwo
        have hsl : (stMs (cnames g.acts) (g.starts.take k2)).length ≤ 1000000 := by unfold stMs; rw [List.length_map, List.length_take]; omega
        refine nav ?_
        (refine aC_region ?_
          <;> refine xL 51 q_lss ?_
          <;> refine aL_end (nav ?_) <;> try dsimp only)
        first | refine cCd (fun hb51 => ?_) (fun hb51 => ?_) | refine cC (fun hb51 => ?_) (fun hb51 => ?_)
        · first
          | exact Bool.noConfusion hb51
          | (
           obtain ⟨x, hx⟩ := get_some (show k2 < g.starts.length by omega)
           have e1 := flat_drop cCnt_len g.starts k2 x hx
           have e2 := flat_fit cCnt_len hx
           have hxa := hG.st x (List.mem_of_getElem? hx)
           have hxi := (ixN_of hxa).2
           refine nav ?_
           (refine aC_region ?_
             <;> refine xL 52 (q_idxN tSl25_LdX) ?_
             <;> (refine yL 53 (q_lda tAgg44_LdX) fun v53 hv53 => ?_; cases hv53)
             <;> refine s_alloc [(.string ByteArray.empty), (.int .i64 0)] 2 9 tZr44_LdX fun h9 => ?_
             <;> refine s_sta 9 tAgg44_LdX ?_
             <;> refine aL_end (nav ?_) <;> try dsimp only)
           (refine aC_region ?_
             <;> refine xL 54 q_move ?_
             <;> refine xL 55 (q_fldo 9 tFl44_0_LdX) ?_
             <;> (refine yL 56 (q_ldo 9 tNa9_LdX) fun v56 hv56 => ?_; cases hv56)
             <;> (refine cS 57 (cA Tryz.call33 (sIndexN_e (cnames g.acts) x.name hxa)) fun v57 hv57 => ?_; cases hv57)
             <;> refine xL 10 q_assign ?_
             <;> refine aL_end (nav ?_) <;> try dsimp only)
           (refine aC_region ?_
             <;> refine xL 58 (q_fldo 5 tFl66_4_LdX) ?_
             <;> (refine yL 59 (q_ldo 5 tNa64_LdX) fun v59 hv59 => ?_; cases hv59)
             <;> refine xL 60 q_move ?_
             <;> refine xL 61 q_add ?_
             <;> refine xL 62 q_move ?_
             <;> refine xL 63 (q_build tSt126_LdX) ?_
             <;> refine s_lit1a 64 tEl64_LdX fun h64 ho64 => ?_
             <;> refine s_app 201 64 65 tEl64_LdX fun h65 ho65 => ?_
             <;> refine xL 66 (q_fldo 5 tFl66_4_LdX) ?_
             <;> refine s_st 5 tNa64_LdX tSz64_LdX ?_
             <;> refine aL_end (nav ?_) <;> try dsimp only)
           (refine aC_region ?_
             <;> refine xL 67 q_add ?_
             <;> refine xL 50 q_move ?_
             <;> refine aL_end (nav ?_) <;> try dsimp only)
           refine aN_ent (relabel (l := 65) 201 rfl rfl) fun _ => ?_
           refine aN_ent (recast (l := 201) (p' := .own 126 3 (stMs (cnames g.acts) (g.starts.take (k2 + 1))).length ((stMs (cnames g.acts) (g.starts.take (k2 + 1))).flatMap cMv)) rfl (by rw [stMs_step hx]; exact snoc_mvs _ _ (moveS (cnames g.acts) x))) fun _ => ?_
           refine aN_again (
             ⟨(k2 + 1, h65), lt_of_get hx, ho65⟩
             ) (by dsimp only; omega) ⟨rfl, rfl, rfl, rfl, rfl, rfl, rfl, trivial⟩ ⟨rfl, rfl, rfl, rfl, rfl, trivial⟩)
        · first
          | exact Bool.noConfusion hb51
          | (
           have hkE2 : k2 = g.starts.length := by omega
           subst hkE2
           rw [List.take_length]
           rw [show stMs (cnames g.acts) g.starts = stMs (cnames g.acts) g.starts ++ flMs (cnames g.acts) (g.follows.take 0) from (List.append_nil _).symm]
           refine nav ?_
           (refine aC_region ?_
             <;> refine xL 68 (q_fldo 1 tFl28_3_LdX) ?_
             <;> (refine yL 69 (q_ldo 1 tNa26_LdX) fun v69 hv69 => ?_; cases hv69)
             <;> refine xL 70 (q_len tSl26_LdX) ?_
             <;> refine xL 71 q_move ?_
             <;> refine aL_end (nav ?_) <;> try dsimp only)
           refine aC_loop (ι := { x : Nat × Value // x.1 ≤ g.follows.length ∧ x.2.oneCell' = true }) (fun k => ⟨[(1, _, _), (2, _, _), (4, _, _), (5, _, _), (69, _, _), (70, _, _), (71, .int .i64 k.1.1, pInt k.1.1)], [(1, _, _), (2, _, _), (200, _, _), (5, h5, .own 66 5 1 [pInt ((g.acts.length : Nat) + 1), pInt (g.acts.length : Nat), pInts [0], .val hv, .val k.1.2]), (201, k.1.2, .own 126 3 (stMs (cnames g.acts) g.starts ++ flMs (cnames g.acts) (g.follows.take k.1.1)).length ((stMs (cnames g.acts) g.starts ++ flMs (cnames g.acts) (g.follows.take k.1.1)).flatMap cMv))]⟩) (fun k => g.follows.length - k.1.1) ⟨(0, hw), Nat.zero_le _, hwo⟩ (fun a w H => H.weaken ⟨rfl, rfl, rfl, rfl, rfl, rfl, rfl, trivial⟩ ⟨rfl, rfl, rfl, rfl, rfl, trivial⟩) ?_
           rintro ⟨⟨k3, hz⟩, hk3, hzo⟩
           dsimp only
           dsimp only at hk3 hzo
           have hql : (stMs (cnames g.acts) g.starts ++ flMs (cnames g.acts) (g.follows.take k3)).length ≤ 2000000 := by unfold stMs flMs; rw [List.length_append, List.length_map, List.length_map, List.length_take]; omega
           refine nav ?_
           (refine aC_region ?_
             <;> refine xL 72 q_lss ?_
             <;> refine aL_end (nav ?_) <;> try dsimp only)
           first | refine cCd (fun hb72 => ?_) (fun hb72 => ?_) | refine cC (fun hb72 => ?_) (fun hb72 => ?_)
           · first
             | exact Bool.noConfusion hb72
             | (
              obtain ⟨x, hx⟩ := get_some (show k3 < g.follows.length by omega)
              have e1 := flat_drop cFlw_len g.follows k3 x hx
              have e2 := flat_fit cFlw_len hx
              have hxa := (hG.fl x (List.mem_of_getElem? hx)).1
              have hxb := (hG.fl x (List.mem_of_getElem? hx)).2
              have hxi := (ixN_of hxa).2
              have hxj := (ixN_of hxb).2
              refine nav ?_
              (refine aC_region ?_
                <;> refine xL 73 (q_idxN tSl26_LdX) ?_
                <;> (refine yL 74 (q_lda tAgg47_LdX) fun v74 hv74 => ?_; cases hv74)
                <;> refine s_alloc [(.string ByteArray.empty), (.string ByteArray.empty), (.int .i64 0)] 3 12 tZr47_LdX fun h12 => ?_
                <;> refine s_sta 12 tAgg47_LdX ?_
                <;> refine aL_end (nav ?_) <;> try dsimp only)
              (refine aC_draw (fun i => ([] : List Nat).elem i) [1, 5, 12] (by kernel_rfl) ?_
                <;> refine xD 0 75 rfl q_move ?_
                <;> refine xD 1 76 rfl (q_fldo 12 tFl47_0_LdX) ?_
                <;> (refine yD 2 77 rfl (q_ldo 12 tNa9_LdX) fun v77 hv77 => ?_; cases hv77)
                <;> refine xD 4 79 rfl q_move ?_
                <;> refine xD 5 80 rfl (q_fldo 12 tFl47_1_LdX) ?_
                <;> (refine yD 6 81 rfl (q_ldo 12 tNa9_LdX) fun v81 hv81 => ?_; cases hv81)
                <;> (refine aD_one 3 (by kernel_rfl) ?_)
                <;> (refine aW_call (d := 78) rfl (cA Tryz.call33 (sIndexN_e (cnames g.acts) x.src hxa)) fun v78 hv78 => ?_; cases hv78)
                <;> (refine aD_one 7 (by kernel_rfl) ?_)
                <;> (refine aW_call (d := 82) rfl (cA Tryz.call33 (sIndexN_e (cnames g.acts) x.dst hxb)) fun v82 hv82 => ?_; cases hv82)
                <;> refine xE 8 13 rfl q_assign ?_
                <;> refine xE 9 14 rfl q_assign ?_
                <;> refine aD_end (by kernel_rfl) (nav ?_)
                <;> try dsimp only)
              (refine aC_region ?_
                <;> refine xL 83 (q_fldo 5 tFl66_4_LdX) ?_
                <;> (refine yL 84 (q_ldo 5 tNa64_LdX) fun v84 hv84 => ?_; cases hv84)
                <;> refine xL 85 q_move ?_
                <;> refine xL 86 q_add ?_
                <;> refine xL 87 q_move ?_
                <;> refine xL 88 q_add ?_
                <;> refine xL 89 q_move ?_
                <;> refine xL 90 (q_build tSt126_LdX) ?_
                <;> refine s_lit1a 91 tEl64_LdX fun h91 ho91 => ?_
                <;> refine s_app 201 91 92 tEl64_LdX fun h92 ho92 => ?_
                <;> refine xL 93 (q_fldo 5 tFl66_4_LdX) ?_
                <;> refine s_st 5 tNa64_LdX tSz64_LdX ?_
                <;> refine aL_end (nav ?_) <;> try dsimp only)
              (refine aC_region ?_
                <;> refine xL 94 q_add ?_
                <;> refine xL 71 q_move ?_
                <;> refine aL_end (nav ?_) <;> try dsimp only)
              refine aN_ent (relabel (l := 92) 201 rfl rfl) fun _ => ?_
              refine aN_ent (recast (l := 201) (p' := .own 126 3 (stMs (cnames g.acts) g.starts ++ flMs (cnames g.acts) (g.follows.take (k3 + 1))).length ((stMs (cnames g.acts) g.starts ++ flMs (cnames g.acts) (g.follows.take (k3 + 1))).flatMap cMv)) rfl (by rw [flMs_step hx, ← List.append_assoc]; exact snoc_mvs _ _ (moveF (cnames g.acts) x))) fun _ => ?_
              refine aN_again (
                ⟨(k3 + 1, h92), lt_of_get hx, ho92⟩
                ) (by dsimp only; omega) ⟨rfl, rfl, rfl, rfl, rfl, rfl, rfl, trivial⟩ ⟨rfl, rfl, rfl, rfl, rfl, trivial⟩)
           · first
             | exact Bool.noConfusion hb72
             | (
              have hkE3 : k3 = g.follows.length := by omega
              subst hkE3
              rw [List.take_length]
              refine aC_ent (freezeCell (l := 5) (l' := 200) (j := 3) rfl rfl rfl rfl) fun _ => ?_
              refine aC_ent (freezeCell (l := 5) (l' := 201) (j := 4) rfl rfl rfl rfl) fun _ => ?_
              rw [share_ints _ _ _ rfl, show share (PV.own 126 3 (stMs (cnames g.acts) g.starts ++ flMs (cnames g.acts) g.follows).length ((stMs (cnames g.acts) g.starts ++ flMs (cnames g.acts) g.follows).flatMap cMv)) = pMvs (autG g).moves from share_mvs _ _]
              dsimp only [List.set]
              refine nav ?_
              (refine aC_region ?_
                <;> (refine yL 95 (q_ldao 5 tAgg66_LdX) fun v95 hv95 => ?_; cases hv95)
                <;> refine s_sta 2 tAgg66_LdX ?_
                <;> refine xL 3 q_assign ?_
                <;> refine aL_end (nav ?_) <;> try dsimp only)
              exact ret_cs (k := 5) 2 (by kernel_rfl) (Tryz.results32) rfl rfl rfl (Nat.le_of_ble_eq_true rfl) (by decide) rfl (.inr ⟨hok, rfl⟩)))))
end Go.Proofs.YtebcjijpdhbcdaaGreat

namespace Go.Proofs.YtebcjijpdhbcdaaGreat
open Go.RowKit Go.Cb Go.En
set_option linter.all false
set_option maxRecDepth 100000

theorem tAgg28_LdY : AggT Tryz.prog 28 4 = true := by kernel_rfl
theorem tAgg66_LdY : AggT Tryz.prog 66 5 = true := by kernel_rfl
theorem tEl36_LdY : ElT Tryz.prog 36 51 1 24 (.slice none 0 0) := ⟨Tryz.underlying36, by kernel_rfl, rfl, by decide⟩
theorem tEl51_LdY : ElT Tryz.prog 51 9 1 16 (.string ByteArray.empty) := ⟨Tryz.underlying51, by kernel_rfl, rfl, by decide⟩
theorem tFl28_0_LdY : FldT Tryz.prog 28 0 0 = true := by kernel_rfl
theorem tFl44_0_LdY : FldT Tryz.prog 44 0 0 = true := by kernel_rfl
theorem tNa25_LdY : NoAgg Tryz.prog 25 = true := by kernel_rfl
theorem tNa3_LdY : NoAgg Tryz.prog 3 = true := by kernel_rfl
theorem tNa63_LdY : NoAgg Tryz.prog 63 = true := by kernel_rfl
theorem tNa9_LdY : NoAgg Tryz.prog 9 = true := by kernel_rfl
theorem tSl111_LdY : SlT Tryz.prog 111 63 1 = true := by kernel_rfl
theorem tSl25_LdY : SlT Tryz.prog 25 44 2 = true := by kernel_rfl
theorem tSl63_LdY : SlT Tryz.prog 63 3 1 = true := by kernel_rfl
theorem tZr66_LdY : ZeroT Tryz.prog 66 (.agg #[(.int .i64 0), (.int .i64 0), (.slice none 0 0), (.slice none 0 0), (.slice none 0 0)]) := by unfold ZeroT; kernel_rfl

def nameAt (acts : List ByteArray) (i : Int) : ByteArray := (acts[i.toNat]?).getD ByteArray.empty
def namesW (acts : List ByteArray) (w : List Int) : List ByteArray := w.map (nameAt acts)
def namesWs (acts : List ByteArray) (l : List (List Int)) : List (List ByteArray) := l.map (namesW acts)
theorem kidP_range {a : Aut} {n : Int} {p q : Pf} {c : Nat} (h : q ∈ kidP a n p c) : q.1 = p.1 ++ [(c : Int)] := by
  unfold kidP at h
  split at h
  · simp at h
  · simp only [List.mem_singleton] at h
    subst h; rfl
theorem lvP_range {a : Aut} {n : Nat} : ∀ k, ∀ p ∈ lvP a n k, ∀ i ∈ p.1, 0 ≤ i ∧ i < a.syms
  | 0, p, hp => by
    simp only [lvP, List.mem_singleton] at hp
    subst hp
    intro i hi
    simp at hi
  | k + 1, p, hp => by
    rw [lvP] at hp
    obtain ⟨r, hr, hr2⟩ := List.mem_flatMap.1 hp
    obtain ⟨c, hc, hq⟩ := List.mem_flatMap.1 hr2
    rw [kidP_range hq]
    intro i hi
    rcases List.mem_append.1 hi with h1 | h1
    · exact lvP_range k r hr i h1
    · have := List.mem_range.1 hc
      simp only [List.mem_singleton] at h1
      omega
theorem sumP_words {a : Aut} {n k : Nat} {w : List Int} (h : w ∈ sumP a n k) : w.length < k ∧ ∀ i ∈ w, 0 ≤ i ∧ i < a.syms := by
  unfold sumP outP at h
  obtain ⟨j, hj, h1⟩ := List.mem_flatMap.1 h
  obtain ⟨p, hp, rfl⟩ := List.mem_map.1 h1
  have hp2 := (List.mem_filter.1 hp).1
  exact ⟨by rw [lvP_word j p hp2]; exact List.mem_range.1 hj, lvP_range j p hp2⟩
def RDW (g : Dfg) (n : Int) (p : PV) : Prop :=
  (dfgOk g = false ∧ p = .tup [.sl 0 [], pInt 1]) ∨ (dfgOk g = true ∧ (n < 0 ∨ 200 < n) ∧ p = .tup [.sl 0 [], pInt 2]) ∨ (dfgOk g = true ∧ 0 ≤ n ∧ n ≤ 200 ∧ bigP (autG g) n.toNat ∧ p = .tup [.sl 0 [], pInt 5]) ∨ (dfgOk g = true ∧ 0 ≤ n ∧ n ≤ 200 ∧ ¬ bigP (autG g) n.toNat ∧ p = .tup [pStrss (namesWs (cnames g.acts) (sumP (autG g) n.toNat (n.toNat + 1))), pInt 0])
theorem snoc_strs (e : Nat) (L : List ByteArray) (x : ByteArray) : PV.own e 1 (L.length + 1) (L.map pStr ++ [pStr x]) = .own e 1 (L ++ [x]).length ((L ++ [x]).map pStr) := by simp
theorem snoc_strss (e : Nat) (L : List (List ByteArray)) (x : List ByteArray) : PV.own e 1 (L.length + 1) (L.map pStrs ++ [pStrs x]) = .own e 1 (L ++ [x]).length ((L ++ [x]).map pStrs) := by simp
theorem share_strss (e n : Nat) (l : List (List ByteArray)) (hn : n = l.length) : share (.own e 1 n (l.map pStrs)) = pStrss l := by
  subst hn
  rw [share, shares_eq, List.map_map]
  unfold pStrss
  congr 1
theorem dWords_no (g : Dfg) (n : Int) (hA : AF Tryz.prog 32 [pDfg g] (· = .tup [zeroA, pInt 1])) : AF Tryz.prog 18 [pDfg g, pInt n] (· = .tup [.sl 0 [], pInt 1]) := by
  refine AF.of_body 60 Tryz.func18 rfl Tryz.ntmps18 (Nat.le_of_ble_eq_true rfl) ?_
  intro w0 M0 vs hl hv
  obtain ⟨v0, v1, rfl⟩ := len2 hl
  obtain rfl := hv 1 _ _ rfl rfl
  clear hl hv
  refine nav ?_
  (refine aC_region ?_
    <;> refine s_boxa 2 4 fun h2 => ?_
    <;> refine xL 4 q_assign ?_
    <;> refine xL 5 q_assign ?_
    <;> refine aL_end (nav ?_) <;> try dsimp only)
  (refine aC_region ?_
    <;> (refine yL 16 (q_ldao 2 tAgg28_LdY) fun v16 hv16 => ?_; cases hv16)
    <;> (refine cP 17 (cA Tryz.call32 (hA)) fun va17 vb17 hva17 hvb17 => ?_; cases hvb17)
    <;> refine xL 15 q_move ?_
    <;> refine xL 18 q_extract ?_
    <;> refine xL 19 q_extract ?_
    <;> refine s_alloc [(.int .i64 0), (.int .i64 0), (.slice none 0 0), (.slice none 0 0), (.slice none 0 0)] 5 6 tZr66_LdY fun h6 => ?_
    <;> refine s_sta 6 tAgg66_LdY ?_
    <;> refine xL 7 q_assign ?_
    <;> refine aL_end (nav ?_) <;> try dsimp only)
  (refine aC_region ?_
    <;> refine xL 20 q_move ?_
    <;> refine xL 21 q_neq ?_
    <;> refine aL_end (nav ?_) <;> try dsimp only)
  refine cCt ?_
  refine nav ?_
  (refine aC_region ?_
    <;> refine xL 22 q_move ?_
    <;> refine xL 4 q_assign ?_
    <;> refine xL 5 q_assign ?_
    <;> refine aL_end (nav ?_) <;> try dsimp only)
  refine aR_ent (nilSlD (t := 4) rfl) fun _ => ?_
  exact ret_ss (Tryz.results18) rfl rfl rfl
theorem dWords_err (g : Dfg) (n e : Int) (hA : AF Tryz.prog 32 [pDfg g] (· = .tup [pAut (autG g), pInt 0])) (hW : AF Tryz.prog 64 [pAut (autG g), pInt n] (· = .tup [.sl 0 [], pInt e])) (he : e ≠ 0) : AF Tryz.prog 18 [pDfg g, pInt n] (· = .tup [.sl 0 [], pInt e]) := by
  refine AF.of_body 60 Tryz.func18 rfl Tryz.ntmps18 (Nat.le_of_ble_eq_true rfl) ?_
  intro w0 M0 vs hl hv
  obtain ⟨v0, v1, rfl⟩ := len2 hl
  obtain rfl := hv 1 _ _ rfl rfl
  clear hl hv
  refine nav ?_
  (refine aC_region ?_
    <;> refine s_boxa 2 4 fun h2 => ?_
    <;> refine xL 4 q_assign ?_
    <;> refine xL 5 q_assign ?_
    <;> refine aL_end (nav ?_) <;> try dsimp only)
  (refine aC_region ?_
    <;> (refine yL 16 (q_ldao 2 tAgg28_LdY) fun v16 hv16 => ?_; cases hv16)
    <;> (refine cP 17 (cA Tryz.call32 (hA)) fun va17 vb17 hva17 hvb17 => ?_; cases hvb17)
    <;> refine xL 15 q_move ?_
    <;> refine xL 18 q_extract ?_
    <;> refine xL 19 q_extract ?_
    <;> refine s_alloc [(.int .i64 0), (.int .i64 0), (.slice none 0 0), (.slice none 0 0), (.slice none 0 0)] 5 6 tZr66_LdY fun h6 => ?_
    <;> refine s_sta 6 tAgg66_LdY ?_
    <;> refine xL 7 q_assign ?_
    <;> refine aL_end (nav ?_) <;> try dsimp only)
  (refine aC_region ?_
    <;> refine xL 20 q_move ?_
    <;> refine xL 21 q_neq ?_
    <;> refine aL_end (nav ?_) <;> try dsimp only)
  refine cCf ?_
  refine nav ?_
  (refine aC_region ?_
    <;> (refine yL 24 (q_ldao 6 tAgg66_LdY) fun v24 hv24 => ?_; cases hv24)
    <;> refine xL 25 q_move ?_
    <;> (refine cP 26 (cA Tryz.call64 (hW)) fun va26 vb26 hva26 hvb26 => ?_; cases hvb26)
    <;> refine xL 23 q_move ?_
    <;> refine xL 27 q_extract ?_
    <;> refine xL 28 q_extract ?_
    <;> refine xL 8 q_assign ?_
    <;> refine xL 7 q_assign ?_
    <;> refine aL_end (nav ?_) <;> try dsimp only)
  (refine aC_region ?_
    <;> refine xL 29 q_move ?_
    <;> refine xL 30 q_neq ?_
    <;> refine aL_end (nav ?_) <;> try dsimp only)
  first | refine cCd (fun hb30 => ?_) (fun hb30 => ?_) | refine cC (fun hb30 => ?_) (fun hb30 => ?_)
  · refine nav ?_
    (refine aC_region ?_
      <;> refine xL 31 q_move ?_
      <;> refine xL 4 q_assign ?_
      <;> refine xL 5 q_assign ?_
      <;> refine aL_end (nav ?_) <;> try dsimp only)
    refine aR_ent (nilSlD (t := 4) rfl) fun _ => ?_
    exact ret_ss (Tryz.results18) rfl rfl rfl
  · exact absurd (by simpa using hb30) he
set_option maxHeartbeats 2000000 in
theorem dWords_ok (g : Dfg) (n : Int) (W : List (List Int)) (hA : AF Tryz.prog 32 [pDfg g] (· = .tup [pAut (autG g), pInt 0])) (hW : AF Tryz.prog 64 [pAut (autG g), pInt n] (· = .tup [pIntss W, pInt 0])) (hl : W.length ≤ 1000000) (hw : ∀ w ∈ W, w.length ≤ 1000000 ∧ ∀ i ∈ w, 0 ≤ i ∧ i < (g.acts.length : Nat)) : AF Tryz.prog 18 [pDfg g, pInt n] (· = .tup [pStrss (namesWs (cnames g.acts) W), pInt 0]) := by
  refine AF.of_body 60 Tryz.func18 rfl Tryz.ntmps18 (Nat.le_of_ble_eq_true rfl) ?_
  intro w0 M0 vs hl hv
  obtain ⟨v0, v1, rfl⟩ := len2 hl
  obtain rfl := hv 1 _ _ rfl rfl
  clear hl hv
  refine nav ?_
  (refine aC_region ?_
    <;> refine s_boxa 2 4 fun h2 => ?_
    <;> refine xL 4 q_assign ?_
    <;> refine xL 5 q_assign ?_
    <;> refine aL_end (nav ?_) <;> try dsimp only)
  (refine aC_region ?_
    <;> (refine yL 16 (q_ldao 2 tAgg28_LdY) fun v16 hv16 => ?_; cases hv16)
    <;> (refine cP 17 (cA Tryz.call32 (hA)) fun va17 vb17 hva17 hvb17 => ?_; cases hvb17)
    <;> refine xL 15 q_move ?_
    <;> refine xL 18 q_extract ?_
    <;> refine xL 19 q_extract ?_
    <;> refine s_alloc [(.int .i64 0), (.int .i64 0), (.slice none 0 0), (.slice none 0 0), (.slice none 0 0)] 5 6 tZr66_LdY fun h6 => ?_
    <;> refine s_sta 6 tAgg66_LdY ?_
    <;> refine xL 7 q_assign ?_
    <;> refine aL_end (nav ?_) <;> try dsimp only)
  (refine aC_region ?_
    <;> refine xL 20 q_move ?_
    <;> refine xL 21 q_neq ?_
    <;> refine aL_end (nav ?_) <;> try dsimp only)
  refine cCf ?_
  refine nav ?_
  (refine aC_region ?_
    <;> (refine yL 24 (q_ldao 6 tAgg66_LdY) fun v24 hv24 => ?_; cases hv24)
    <;> refine xL 25 q_move ?_
    <;> (refine cP 26 (cA Tryz.call64 (hW)) fun va26 vb26 hva26 hvb26 => ?_; cases hvb26)
    <;> refine xL 23 q_move ?_
    <;> refine xL 27 q_extract ?_
    <;> refine xL 28 q_extract ?_
    <;> refine xL 8 q_assign ?_
    <;> refine xL 7 q_assign ?_
    <;> refine aL_end (nav ?_) <;> try dsimp only)
  (refine aC_region ?_
    <;> refine xL 29 q_move ?_
    <;> refine xL 30 q_neq ?_
    <;> refine aL_end (nav ?_) <;> try dsimp only)
  refine cCf ?_
  refine nav ?_
  (refine aC_region ?_
    <;> refine xL 9 q_assign ?_
    <;> refine aL_end (nav ?_) <;> try dsimp only)
  refine aC_ent (nilOwn 200 51 1 rfl) fun _ => ?_
  (refine aC_region ?_
    <;> refine xL 32 q_move ?_
    <;> refine xL 33 (q_len tSl111_LdY) ?_
    <;> refine xL 34 q_move ?_
    <;> refine aL_end (nav ?_) <;> try dsimp only)
  refine aC_loop (ι := { q : Nat × Value // q.1 ≤ W.length ∧ q.2.oneCell' = true }) (fun k => ⟨[(2, _, _), (32, _, _), (33, _, _), (9, k.1.2, .val k.1.2), (34, .int .i64 k.1.1, pInt k.1.1)], [(2, _, _), (200, k.1.2, .own 51 1 (namesWs (cnames g.acts) (W.take k.1.1)).length ((namesWs (cnames g.acts) (W.take k.1.1)).map pStrs))]⟩) (fun k => W.length - k.1.1) ⟨(0, .slice none 0 0), Nat.zero_le _, rfl⟩ (fun a w H => H.weaken ⟨rfl, rfl, rfl, rfl, rfl, trivial⟩ ⟨rfl, rfl, trivial⟩) ?_
  rintro ⟨⟨k, hO⟩, hk, hoO⟩
  dsimp only
  dsimp only at hk hoO
  have hnl : (namesWs (cnames g.acts) (W.take k)).length ≤ 1000000 := by unfold namesWs; rw [List.length_map, List.length_take]; omega
  refine nav ?_
  (refine aC_region ?_
    <;> refine xL 35 q_lss ?_
    <;> refine aL_end (nav ?_) <;> try dsimp only)
  first | refine cCd (fun hb35 => ?_) (fun hb35 => ?_) | refine cC (fun hb35 => ?_) (fun hb35 => ?_)
  · first
    | exact Bool.noConfusion hb35
    | (
     obtain ⟨x, hx⟩ := get_some (show k < W.length by omega)
     have e1 := map_at (f := pInts) hx
     have hxw := hw x (List.mem_of_getElem? hx)
     refine nav ?_
     (refine aC_region ?_
       <;> refine xL 36 (q_idxN tSl111_LdY) ?_
       <;> (refine yL 37 (q_ld tNa63_LdY) fun v37 hv37 => ?_; cases hv37)
       <;> refine xL 11 q_assign ?_
       <;> refine aL_end (nav ?_) <;> try dsimp only)
     (refine aC_region ?_
       <;> refine xL 12 q_assign ?_
       <;> refine aL_end (nav ?_) <;> try dsimp only)
     refine aC_ent (nilOwn 201 9 1 rfl) fun _ => ?_
     (refine aC_region ?_
       <;> refine xL 38 q_move ?_
       <;> refine xL 39 (q_len tSl63_LdY) ?_
       <;> refine xL 40 q_move ?_
       <;> refine aL_end (nav ?_) <;> try dsimp only)
     refine aC_loop (ι := { q : Nat × Value // q.1 ≤ x.length ∧ q.2.oneCell' = true }) (fun k => ⟨[(2, _, _), (9, _, _), (32, _, _), (33, _, _), (34, _, _), (38, _, _), (39, _, _), (12, k.1.2, .val k.1.2), (40, .int .i64 k.1.1, pInt k.1.1)], [(2, _, _), (200, _, _), (201, k.1.2, .own 9 1 (namesW (cnames g.acts) (x.take k.1.1)).length ((namesW (cnames g.acts) (x.take k.1.1)).map pStr))]⟩) (fun k => x.length - k.1.1) ⟨(0, .slice none 0 0), Nat.zero_le _, rfl⟩ (fun a w H => H.weaken ⟨rfl, rfl, rfl, rfl, rfl, rfl, rfl, rfl, rfl, trivial⟩ ⟨rfl, rfl, rfl, trivial⟩) ?_
     rintro ⟨⟨j, hI⟩, hj, hoI⟩
     dsimp only
     dsimp only at hj hoI
     have hnj : (namesW (cnames g.acts) (x.take j)).length ≤ 1000000 := by unfold namesW; rw [List.length_map, List.length_take]; omega
     refine nav ?_
     (refine aC_region ?_
       <;> refine xL 41 q_lss ?_
       <;> refine aL_end (nav ?_) <;> try dsimp only)
     first | refine cCd (fun hb41 => ?_) (fun hb41 => ?_) | refine cC (fun hb41 => ?_) (fun hb41 => ?_)
     · first
       | exact Bool.noConfusion hb41
       | (
        obtain ⟨y, hy⟩ := get_some (show j < x.length by omega)
        have e2 := map_at (f := pInt) hy
        have hyb := hxw.2 y (List.mem_of_getElem? hy)
        obtain ⟨z, hz⟩ := get_some (show y.toNat < g.acts.length by omega)
        have e3 : (g.acts.flatMap cCnt)[y.toNat * 2 + 0]? = some (pStr z.name) := flat_at cCnt_len hz (by decide)
        have e4 : nameAt (cnames g.acts) y = z.name := by unfold nameAt cnames; rw [List.getElem?_map, hz]; rfl
        refine nav ?_
        (refine aC_region ?_
          <;> refine xL 42 (q_idxN tSl63_LdY) ?_
          <;> (refine yL 43 (q_ld tNa3_LdY) fun v43 hv43 => ?_; cases hv43)
          <;> refine xL 14 q_assign ?_
          <;> refine aL_end (nav ?_) <;> try dsimp only)
        (refine aC_region ?_
          <;> refine xL 44 q_move ?_
          <;> refine xL 45 (q_fldo 2 tFl28_0_LdY) ?_
          <;> (refine yL 46 (q_ldo 2 tNa25_LdY) fun v46 hv46 => ?_; cases hv46)
          <;> refine xL 47 q_move ?_
          <;> refine xL 48 (q_idx tSl25_LdY) ?_
          <;> refine xL 49 (q_fld tFl44_0_LdY) ?_
          <;> (refine yL 50 (q_ld tNa9_LdY) fun v50 hv50 => ?_; cases hv50)
          <;> refine s_lit1 (kk := 1) 51 tEl51_LdY fun h51 ho51 => ?_
          <;> (refine s_app 201 51 52 tEl51_LdY fun h52 ho52 => ?_; refine aL_ent (relabel (l := 52) 201 rfl rfl) fun _ => ?_; rw [snoc_strs])
          <;> refine xL 12 q_assign ?_
          <;> refine aL_end (nav ?_) <;> try dsimp only)
        (refine aC_region ?_
          <;> refine xL 53 q_add ?_
          <;> refine xL 40 q_move ?_
          <;> refine aL_end (nav ?_) <;> try dsimp only)
        rw [show namesW (cnames g.acts) (x.take j) ++ [z.name] = namesW (cnames g.acts) (x.take (j + 1)) by unfold namesW; rw [take_snoc hy, List.map_append, ← e4]; rfl]
        refine aN_again (
          ⟨(j + 1, h52), lt_of_get hy, ho52⟩
          ) (by dsimp only; omega) ⟨rfl, rfl, rfl, rfl, rfl, rfl, rfl, rfl, rfl, trivial⟩ ⟨rfl, rfl, rfl, trivial⟩)
     · first
       | exact Bool.noConfusion hb41
       | (
        have hjE : j = x.length := by omega
        subst hjE
        rw [List.take_length]
        refine nav ?_
        (refine aC_region ?_
          <;> refine xL 54 q_move ?_
          <;> (refine xL 55 q_move ?_; refine aL_ent (En.freeze (l := 201) (t := 55) rfl rfl) fun _ => ?_; rw [share_strs])
          <;> refine s_lit1 (kk := 1) 56 tEl36_LdY fun h56 ho56 => ?_
          <;> (refine s_app 200 56 57 tEl36_LdY fun h57 ho57 => ?_; refine aL_ent (relabel (l := 57) 200 rfl rfl) fun _ => ?_)
          <;> refine xL 9 q_assign ?_
          <;> refine aL_end (nav ?_) <;> try dsimp only)
        (refine aC_region ?_
          <;> refine xL 58 q_add ?_
          <;> refine xL 34 q_move ?_
          <;> refine aL_end (nav ?_) <;> try dsimp only)
        rw [show PV.own 51 1 ((namesWs (cnames g.acts) (W.take k)).length + 1) ((namesWs (cnames g.acts) (W.take k)).map pStrs ++ [.sl (namesW (cnames g.acts) x).length ((namesW (cnames g.acts) x).map pStr)]) = .own 51 1 (namesWs (cnames g.acts) (W.take (k + 1))).length ((namesWs (cnames g.acts) (W.take (k + 1))).map pStrs) by rw [show namesWs (cnames g.acts) (W.take (k + 1)) = namesWs (cnames g.acts) (W.take k) ++ [namesW (cnames g.acts) x] by unfold namesWs; rw [take_snoc hx, List.map_append]; rfl]; exact snoc_strss _ _ _]
        refine aN_again (
          ⟨(k + 1, h57), lt_of_get hx, ho57⟩
          ) (by dsimp only; omega) ⟨rfl, rfl, rfl, rfl, rfl, trivial⟩ ⟨rfl, rfl, trivial⟩))
  · first
    | exact Bool.noConfusion hb35
    | (
     have hkE : k = W.length := by omega
     subst hkE
     rw [List.take_length]
     refine nav ?_
     (refine aC_region ?_
       <;> refine xL 59 q_move ?_
       <;> refine xL 4 q_assign ?_
       <;> refine xL 5 q_assign ?_
       <;> refine aL_end (nav ?_) <;> try dsimp only)
     refine aR_ent (En.freeze (l := 200) (t := 4) rfl rfl) fun _ => ?_
     rw [share_strss _ _ _ rfl]
     exact ret_ss (Tryz.results18) rfl rfl rfl)
theorem dAuto_no {g : Dfg} (h : AF Tryz.prog 32 [pDfg g] (RAuto g)) (hb : dfgOk g = false) : AF Tryz.prog 32 [pDfg g] (· = .tup [zeroA, pInt 1]) := h.mono fun p hp => by
  rcases hp with ⟨_, h1⟩ | ⟨h1, _⟩
  · exact h1
  · rw [hb] at h1; cases h1
theorem dAuto_ok {g : Dfg} (h : AF Tryz.prog 32 [pDfg g] (RAuto g)) (hb : dfgOk g = true) : AF Tryz.prog 32 [pDfg g] (· = .tup [pAut (autG g), pInt 0]) := h.mono fun p hp => by
  rcases hp with ⟨h1, _⟩ | ⟨_, h1⟩
  · rw [hb] at h1; cases h1
  · exact h1
theorem dWords_e (g : Dfg) (n : Int) (hf : fitD g) (ha : g.acts.length ≤ 1000000) (hs : g.starts.length ≤ 1000000) (he : g.ends.length ≤ 1000000) (hq : g.follows.length ≤ 1000000) : AF Tryz.prog 18 [pDfg g, pInt n] (RDW g n) := by
  have hA := dAuto_e g hf ha hs he hq
  cases hb : dfgOk g with
  | false => exact (dWords_no g n (dAuto_no hA hb)).mono fun p hp => .inl ⟨hb, hp⟩
  | true =>
    have hA' := dAuto_ok hA hb
    have hok := autG_ok (gok_of hb)
    have hW := aWords_e (autG g) n
    by_cases hn : n < 0 ∨ 200 < n
    · refine (dWords_err g n 2 hA' (hW.mono fun p hp => ?_) (by decide)).mono fun p hp => .inr (.inl ⟨hb, hn, hp⟩)
      rcases hp with ⟨h1, _⟩ | ⟨_, _, h1⟩ | ⟨_, h1, h2, _⟩ | ⟨_, h1, h2, _⟩
      · rw [hok] at h1; cases h1
      · exact h1
      · omega
      · omega
    · by_cases hbig : bigP (autG g) n.toNat
      · refine (dWords_err g n 5 hA' (hW.mono fun p hp => ?_) (by decide)).mono fun p hp => .inr (.inr (.inl ⟨hb, by omega, by omega, hbig, hp⟩))
        rcases hp with ⟨h1, _⟩ | ⟨_, h1, _⟩ | ⟨_, _, _, _, h1⟩ | ⟨_, _, _, h1, _⟩
        · rw [hok] at h1; cases h1
        · exact absurd h1 hn
        · exact h1
        · exact absurd hbig h1
      · refine (dWords_ok g n _ hA' (hW.mono fun p hp => ?_) ?_ fun w hw => ?_).mono fun p hp => .inr (.inr (.inr ⟨hb, by omega, by omega, hbig, hp⟩))
        · rcases hp with ⟨h1, _⟩ | ⟨_, h1, _⟩ | ⟨_, _, _, h1, _⟩ | ⟨_, _, _, _, h1⟩
          · rw [hok] at h1; cases h1
          · exact absurd h1 hn
          · exact absurd h1 hbig
          · exact h1
        · have : ¬ 2000 < (sumP (autG g) n.toNat (n.toNat + 1)).length := fun h => hbig (.inr h)
          omega
        · have h1 := sumP_words hw
          exact ⟨by omega, fun i hi => by have := h1.2 i hi; exact this⟩
end Go.Proofs.YtebcjijpdhbcdaaGreat

namespace Go.Proofs.YtebcjijpdhbcdaaGreat
open Go.RowKit Go.Cb Go.En
set_option linter.all false

def insI (x : Int) : List Int → List Int
  | [] => [x]
  | y :: l => if x ≤ y then x :: y :: l else y :: insI x l
def srtI : List Int → List Int
  | [] => []
  | x :: l => insI x (srtI l)
theorem insI_perm (x : Int) : ∀ l, (insI x l).Perm (x :: l)
  | [] => .refl _
  | y :: l => by
    unfold insI
    split
    · exact .refl _
    · exact ((insI_perm x l).cons y).trans (.swap _ _ _)
theorem srtI_perm : ∀ l, (srtI l).Perm l
  | [] => .refl _
  | x :: l => (insI_perm x _).trans ((srtI_perm l).cons x)
theorem insI_pw (x : Int) : ∀ l : List Int, l.Pairwise (· ≤ ·) → (insI x l).Pairwise (· ≤ ·)
  | [], _ => by simp [insI]
  | y :: l, h => by
    have h' := List.pairwise_cons.1 h
    unfold insI
    split
    · rename_i hxy
      refine List.pairwise_cons.2 ⟨fun z hz => ?_, h⟩
      rcases List.mem_cons.1 hz with rfl | hz
      · exact hxy
      · exact Int.le_trans hxy (h'.1 z hz)
    · rename_i hxy
      refine List.pairwise_cons.2 ⟨fun z hz => ?_, insI_pw x l h'.2⟩
      rcases List.mem_cons.1 ((insI_perm x l).mem_iff.1 hz) with rfl | hz
      · omega
      · exact h'.1 z hz
theorem srtI_pw : ∀ l, (srtI l).Pairwise (· ≤ ·)
  | [] => .nil
  | x :: l => insI_pw x _ (srtI_pw l)
theorem sorted_ext : ∀ {l m : List Int}, l.Pairwise (· ≤ ·) → m.Pairwise (· ≤ ·) → l.Perm m → l = m
  | [], [], _, _, _ => rfl
  | [], y :: m, _, _, h => by have := h.length_eq; simp at this
  | x :: l, [], _, _, h => by have := h.length_eq; simp at this
  | x :: l, y :: m, hl, hm, h => by
    have hl' := List.pairwise_cons.1 hl
    have hm' := List.pairwise_cons.1 hm
    have h1 : x ≤ y := by
      rcases List.mem_cons.1 (h.mem_iff.2 (List.mem_cons_self ..)) with e | e
      · omega
      · exact hl'.1 y e
    have h2 : y ≤ x := by
      rcases List.mem_cons.1 (h.mem_iff.1 (List.mem_cons_self ..)) with e | e
      · omega
      · exact hm'.1 x e
    obtain rfl : x = y := by omega
    rw [sorted_ext hl'.2 hm'.2 ((List.perm_cons x).1 h)]
def closI (a : Aut) (l : List Int) : List Int := srtI (clAt a l a.n.toNat)
theorem closI_eq (a : Aut) (l : List Int) : closL a l = closI a l := by
  unfold closL closI
  have h1 : ((clAt a l a.n.toNat).mergeSort fun x y => decide (x ≤ y)).Pairwise (fun x y => decide (x ≤ y) = true) := List.pairwise_mergeSort (fun a b c h1 h2 => by simp only [decide_eq_true_eq] at *; omega) (fun a b => by simp only [Bool.or_eq_true, decide_eq_true_eq]; omega) _
  exact sorted_ext (h1.imp fun h => by simpa using h) (srtI_pw _) ((List.mergeSort_perm _ _).trans (srtI_perm _).symm)
def kidI (a : Aut) (far : List Int) (n : Int) (p : Pf) (c : Nat) : List Pf := if (nearL (closI a (leads a c p.2)) far (n - 1)).length = 0 then [] else [(p.1 ++ [(c : Int)], nearL (closI a (leads a c p.2)) far (n - 1))]
def lvI (a : Aut) (far : List Int) (n : Nat) : Nat → List Pf
  | 0 => [([], nearL (closI a a.start) far n)]
  | k + 1 => (lvI a far n k).flatMap fun p => (List.range a.syms.toNat).flatMap (kidI a far ((n : Int) - k) p)
theorem lvI_eq (a : Aut) (n : Nat) : ∀ k, lvP a n k = lvI a (farL a) n k
  | 0 => by rw [lvP, lvI, closI_eq]
  | k + 1 => by
    rw [lvP, lvI, lvI_eq a n k]
    have : ∀ p, kidsP a ((n : Int) - k) p = (List.range a.syms.toNat).flatMap (kidI a (farL a) ((n : Int) - k) p) := fun p => by
      unfold kidsP
      have : kidP a ((n : Int) - k) p = kidI a (farL a) ((n : Int) - k) p := by
        funext c
        unfold kidP kidI nextL
        rw [closI_eq]
      rw [this]
    exact flatMap_ext fun p _ => this p
def sumI (a : Aut) (far : List Int) (n k : Nat) : List (List Int) := (List.range k).flatMap fun i => outP a (lvI a far n i)
theorem sumI_eq (a : Aut) (n k : Nat) : sumP a n k = sumI a (farL a) n k := by
  unfold sumP sumI
  simp only [lvI_eq]
def bigI (a : Aut) (far : List Int) (n : Nat) : Bool := (List.range (n + 1)).any (fun k => decide (2000 < (lvI a far n (k + 1)).length)) || decide (2000 < (sumI a far n (n + 1)).length)
theorem bigI_eq (a : Aut) (n : Nat) : bigP a n ↔ bigI a (farL a) n = true := by
  unfold bigP bigI
  rw [sumI_eq]
  simp only [Bool.or_eq_true, List.any_eq_true, List.mem_range, decide_eq_true_eq, lvI_eq]
  constructor
  · rintro (⟨k, h1, h2⟩ | h)
    · exact .inl ⟨k, by omega, h2⟩
    · exact .inr h
  · rintro (⟨k, h1, h2⟩ | h)
    · exact .inl ⟨k, by omega, h2⟩
    · exact .inr h
end Go.Proofs.YtebcjijpdhbcdaaGreat
