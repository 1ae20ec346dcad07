/-
  Walks: the counter's graph, whatever its numbers; dfg.Sum.
-/
import Derived.Test.YtebcjijpdhbcdaaGreatMLpR
import Derived.Test.YtebcjijpdhbcdaaGreatLd
import Derived.Test.YtebcjijpdhbcdaaGreatEngc
namespace Go.Proofs.YtebcjijpdhbcdaaGreat
open Go.RowKit Go.Cb Go.En
set_option linter.all false
set_option maxRecDepth 100000

theorem tAgg28_LeK : AggT Tryz.prog 28 4 = true := by kernel_rfl
theorem tAr97_LeK : ArrT Tryz.prog 97 2 = true := by kernel_rfl
theorem tEl26_LeK : ElT Tryz.prog 26 47 3 40 (.agg #[(.string ByteArray.empty), (.string ByteArray.empty), (.int .i64 0)]) := ⟨Tryz.underlying26, by kernel_rfl, rfl, by decide⟩
theorem tFl28_3_LeK : FldT Tryz.prog 28 3 3 = true := by kernel_rfl
theorem tFl96_0_LeK : FldT Tryz.prog 96 0 0 = true := by kernel_rfl
theorem tFl96_1_LeK : FldT Tryz.prog 96 1 1 = true := by kernel_rfl
theorem tFl96_2_LeK : FldT Tryz.prog 96 2 2 = true := by kernel_rfl
theorem tFl96_3_LeK : FldT Tryz.prog 96 3 3 = true := by kernel_rfl
theorem tNa26_LeK : NoAgg Tryz.prog 26 = true := by kernel_rfl
theorem tNa93_LeK : NoAgg Tryz.prog 93 = true := by kernel_rfl
theorem tNa94_LeK : NoAgg Tryz.prog 94 = true := by kernel_rfl
theorem tNa9_LeK : NoAgg Tryz.prog 9 = true := by kernel_rfl
theorem tSt28_LeK : stInfo Tryz.prog 28 = some ((.agg #[(.slice none 0 0), (.slice none 0 0), (.slice none 0 0), (.slice none 0 0)]), ([0, 1, 2, 3] : List Nat).map fun o => (o, 1)) := by kernel_rfl
theorem tSt47_LeK : stInfo Tryz.prog 47 = some ((.agg #[(.string ByteArray.empty), (.string ByteArray.empty), (.int .i64 0)]), ([0, 1, 2] : List Nat).map fun o => (o, 1)) := by kernel_rfl
theorem tSz26_LeK : (Tryz.prog.info? 26).map (·.size) = some 1 := by kernel_rfl
theorem tZr28_LeK : ZeroT Tryz.prog 28 (.agg #[(.slice none 0 0), (.slice none 0 0), (.slice none 0 0), (.slice none 0 0)]) := by unfold ZeroT; kernel_rfl
theorem tZr97_LeK : ZeroT Tryz.prog 97 (.agg #[(.string ByteArray.empty), (.string ByteArray.empty)]) := by unfold ZeroT; kernel_rfl

set_option maxHeartbeats 2000000 in
theorem dGraphL_e (st : M4) (na : (st.a.map (·.1)).Nodup) (ns : (st.s.map (·.1)).Nodup) (nf : (st.f.map (·.1)).Nodup) (nq : (st.q.map (·.1)).Nodup) (l1 : st.a.length ≤ 1000000) (l2 : st.s.length ≤ 1000000) (l3 : st.f.length ≤ 1000000) (l4 : st.q.length ≤ 1000000) : AF Tryz.prog 49 [.sptr 0 [.smap (skv (ivals st.a)), .smap (skv (ivals st.s)), .smap (skv (ivals st.f)), .smap (akv (ivals st.q))]] (fun p => ∃ g, SameG g st ∧ p = pDfg g) := by
  refine AF.of_body 47 Tryz.func49 rfl Tryz.ntmps49 (Nat.le_of_ble_eq_true rfl) ?_
  intro w0 M0 vs hl hv
  obtain ⟨v0, rfl⟩ := len1 hl
  clear hl hv
  refine nav ?_
  (refine aC_region ?_
    <;> refine s_alloc [(.slice none 0 0), (.slice none 0 0), (.slice none 0 0), (.slice none 0 0)] 4 2 tZr28_LeK fun h2 => ?_
    <;> refine aL_end (nav ?_) <;> try dsimp only)
  (refine aC_draw (fun i => ([17] : List Nat).elem i) [] (by kernel_rfl) ?_
    <;> refine xD 0 6 rfl q_move ?_
    <;> refine xD 1 7 rfl q_nilp ?_
    <;> refine xD 2 8 rfl (q_fld tFl96_0_LeK) ?_
    <;> (refine yD 3 9 rfl (q_ld tNa93_LeK) fun v9 hv9 => ?_; cases hv9)
    <;> refine xD 5 11 rfl q_move ?_
    <;> refine xD 6 12 rfl q_nilp ?_
    <;> refine xD 7 13 rfl (q_fld tFl96_1_LeK) ?_
    <;> (refine yD 8 14 rfl (q_ld tNa93_LeK) fun v14 hv14 => ?_; cases hv14)
    <;> refine xD 10 16 rfl q_move ?_
    <;> refine xD 11 17 rfl q_nilp ?_
    <;> refine xD 12 18 rfl (q_fld tFl96_2_LeK) ?_
    <;> (refine yD 13 19 rfl (q_ld tNa93_LeK) fun v19 hv19 => ?_; cases hv19)
    <;> (refine aD_two 4 16 (by kernel_rfl) ?_ ?_; rotate_right; (focus ((refine aW_run rfl fun w9 M9 N9 DQ back => ?_) <;> refine s_alloc [(.slice none 0 0), (.slice none 0 0), (.slice none 0 0), (.slice none 0 0)] 4 3 tZr28_LeK fun h3 => ?_ <;> refine aL_end (back _ (nrm ?_)) <;> (refine aD_one 4 (by kernel_rfl) ?_) <;> (refine aW_run rfl fun w9 M9 N9 DQ back => ?_) <;> (refine aL_co 10 rfl rfl (Nat.le_of_ble_eq_true rfl) rfl (cA Tryz.call96 (dList_e st.a na (by omega))) ?_; rintro p' ⟨La, hLa, rfl⟩; refine ⟨rfl, fun h10 ho10 => ?_⟩; refine aL_ent (En.freeze (l := 10) (t := 10) rfl rfl) fun _ => ?_; rw [share_cntsD _ _ _ rfl]) <;> refine aL_end (back _ (nrm ?_)) <;> (refine aD_one 9 (by kernel_rfl) ?_) <;> (refine aW_run rfl fun w9 M9 N9 DQ back => ?_) <;> (refine aL_co 15 rfl rfl (Nat.le_of_ble_eq_true rfl) rfl (cA Tryz.call96 (dList_e st.s ns (by omega))) ?_; rintro p' ⟨Ls, hLs, rfl⟩; refine ⟨rfl, fun h15 ho15 => ?_⟩; refine aL_ent (En.freeze (l := 15) (t := 15) rfl rfl) fun _ => ?_; rw [share_cntsD _ _ _ rfl]) <;> refine aL_end (back _ (nrm ?_)) <;> (refine aD_one 14 (by kernel_rfl) ?_) <;> (refine aW_run rfl fun w9 M9 N9 DQ back => ?_) <;> (refine aL_co 20 rfl rfl (Nat.le_of_ble_eq_true rfl) rfl (cA Tryz.call96 (dList_e st.f nf (by omega))) ?_; rintro p' ⟨Lf, hLf, rfl⟩; refine ⟨rfl, fun h20 ho20 => ?_⟩; refine aL_ent (En.freeze (l := 20) (t := 20) rfl rfl) fun _ => ?_; rw [share_cntsD _ _ _ rfl]) <;> refine aL_end (back _ (nrm ?_)) <;> refine xE 15 21 rfl (q_build tSt28_LeK) ?_ <;> (refine aD_one 17 (by kernel_rfl) ?_) <;> (refine aW_last rfl rfl (by kernel_rfl) fun DQ back => ?_) <;> refine s_sta 3 tAgg28_LeK ?_ <;> refine aL_end (back _ (nav ?_)))); rotate_right; (focus ((refine aW_run rfl fun w9 M9 N9 DQ back => ?_) <;> (refine aL_co 10 rfl rfl (Nat.le_of_ble_eq_true rfl) rfl (cA Tryz.call96 (dList_e st.a na (by omega))) ?_; rintro p' ⟨La, hLa, rfl⟩; refine ⟨rfl, fun h10 ho10 => ?_⟩; refine aL_ent (En.freeze (l := 10) (t := 10) rfl rfl) fun _ => ?_; rw [share_cntsD _ _ _ rfl]) <;> refine aL_end (back _ (nrm ?_)) <;> (refine aD_two 9 16 (by kernel_rfl) ?_ ?_; rotate_right; (focus ((refine aW_run rfl fun w9 M9 N9 DQ back => ?_) <;> refine s_alloc [(.slice none 0 0), (.slice none 0 0), (.slice none 0 0), (.slice none 0 0)] 4 3 tZr28_LeK fun h3 => ?_ <;> refine aL_end (back _ (nrm ?_)) <;> (refine aD_one 9 (by kernel_rfl) ?_) <;> (refine aW_run rfl fun w9 M9 N9 DQ back => ?_) <;> (refine aL_co 15 rfl rfl (Nat.le_of_ble_eq_true rfl) rfl (cA Tryz.call96 (dList_e st.s ns (by omega))) ?_; rintro p' ⟨Ls, hLs, rfl⟩; refine ⟨rfl, fun h15 ho15 => ?_⟩; refine aL_ent (En.freeze (l := 15) (t := 15) rfl rfl) fun _ => ?_; rw [share_cntsD _ _ _ rfl]) <;> refine aL_end (back _ (nrm ?_)) <;> (refine aD_one 14 (by kernel_rfl) ?_) <;> (refine aW_run rfl fun w9 M9 N9 DQ back => ?_) <;> (refine aL_co 20 rfl rfl (Nat.le_of_ble_eq_true rfl) rfl (cA Tryz.call96 (dList_e st.f nf (by omega))) ?_; rintro p' ⟨Lf, hLf, rfl⟩; refine ⟨rfl, fun h20 ho20 => ?_⟩; refine aL_ent (En.freeze (l := 20) (t := 20) rfl rfl) fun _ => ?_; rw [share_cntsD _ _ _ rfl]) <;> refine aL_end (back _ (nrm ?_)) <;> refine xE 15 21 rfl (q_build tSt28_LeK) ?_ <;> (refine aD_one 17 (by kernel_rfl) ?_) <;> (refine aW_last rfl rfl (by kernel_rfl) fun DQ back => ?_) <;> refine s_sta 3 tAgg28_LeK ?_ <;> refine aL_end (back _ (nav ?_)))); rotate_right; (focus ((refine aW_run rfl fun w9 M9 N9 DQ back => ?_) <;> (refine aL_co 15 rfl rfl (Nat.le_of_ble_eq_true rfl) rfl (cA Tryz.call96 (dList_e st.s ns (by omega))) ?_; rintro p' ⟨Ls, hLs, rfl⟩; refine ⟨rfl, fun h15 ho15 => ?_⟩; refine aL_ent (En.freeze (l := 15) (t := 15) rfl rfl) fun _ => ?_; rw [share_cntsD _ _ _ rfl]) <;> refine aL_end (back _ (nrm ?_)) <;> (refine aD_two 14 16 (by kernel_rfl) ?_ ?_; rotate_right; (focus ((refine aW_run rfl fun w9 M9 N9 DQ back => ?_) <;> refine s_alloc [(.slice none 0 0), (.slice none 0 0), (.slice none 0 0), (.slice none 0 0)] 4 3 tZr28_LeK fun h3 => ?_ <;> refine aL_end (back _ (nrm ?_)) <;> (refine aD_one 14 (by kernel_rfl) ?_) <;> (refine aW_run rfl fun w9 M9 N9 DQ back => ?_) <;> (refine aL_co 20 rfl rfl (Nat.le_of_ble_eq_true rfl) rfl (cA Tryz.call96 (dList_e st.f nf (by omega))) ?_; rintro p' ⟨Lf, hLf, rfl⟩; refine ⟨rfl, fun h20 ho20 => ?_⟩; refine aL_ent (En.freeze (l := 20) (t := 20) rfl rfl) fun _ => ?_; rw [share_cntsD _ _ _ rfl]) <;> refine aL_end (back _ (nrm ?_)) <;> refine xE 15 21 rfl (q_build tSt28_LeK) ?_ <;> (refine aD_one 17 (by kernel_rfl) ?_) <;> (refine aW_last rfl rfl (by kernel_rfl) fun DQ back => ?_) <;> refine s_sta 3 tAgg28_LeK ?_ <;> refine aL_end (back _ (nav ?_)))); rotate_right; (focus ((refine aW_run rfl fun w9 M9 N9 DQ back => ?_) <;> (refine aL_co 20 rfl rfl (Nat.le_of_ble_eq_true rfl) rfl (cA Tryz.call96 (dList_e st.f nf (by omega))) ?_; rintro p' ⟨Lf, hLf, rfl⟩; refine ⟨rfl, fun h20 ho20 => ?_⟩; refine aL_ent (En.freeze (l := 20) (t := 20) rfl rfl) fun _ => ?_; rw [share_cntsD _ _ _ rfl]) <;> refine aL_end (back _ (nrm ?_)) <;> refine xD 15 21 rfl (q_build tSt28_LeK) ?_ <;> (refine aD_one 16 (by kernel_rfl) ?_) <;> (refine aW_run rfl fun w9 M9 N9 DQ back => ?_) <;> refine s_alloc [(.slice none 0 0), (.slice none 0 0), (.slice none 0 0), (.slice none 0 0)] 4 3 tZr28_LeK fun h3 => ?_ <;> refine aL_end (back _ (nrm ?_)) <;> (refine aD_one 17 (by kernel_rfl) ?_) <;> (refine aW_last rfl rfl (by kernel_rfl) fun DQ back => ?_) <;> refine s_sta 3 tAgg28_LeK ?_ <;> refine aL_end (back _ (nav ?_)))))))))))
    <;> try dsimp only) <;> (
   (refine aC_region ?_
     <;> refine xL 22 q_move ?_
     <;> refine xL 23 q_nilp ?_
     <;> refine xL 24 (q_fld tFl96_3_LeK) ?_
     <;> (refine yL 25 (q_ld tNa94_LeK) fun v25 hv25 => ?_; cases hv25)
     <;> refine aL_range 26 Tryz.underlying94 (fun b26 r26 c26 es26 hkv26 hWf26 => ?_)
     <;> refine aL_end (nav ?_) <;> try dsimp only)
   refine aC_ent (nilOwn 200 47 3 rfl) fun _ => ?_
   refine aC_loop (ι := { x : Value × Array Nat × List Flw // x.1.oneCell' = true ∧ (x.2.2 = [] → x.1 = .slice none 0 0) ∧ (x.2.2 ++ (kvOf (leftOf es26 x.2.1)).map decF).Perm (st.q.map mkF) }) (fun k => ⟨[(2, _, _), (3, _, _), (26, _, _)], [(2, _, _), (3, h3, .own 28 4 1 [pCnts La, pCnts Ls, pCnts Lf, .val k.1.1]), (26, itv r26, itP b26 r26 c26 es26 k.1.2.1), (200, k.1.1, .own 47 3 k.1.2.2.length (k.1.2.2.flatMap cFlw))]⟩) (fun k => (leftOf es26 k.1.2.1).size) ⟨(.slice none 0 0, #[], []), rfl, fun _ => rfl, by rw [left_all, ← hkv26, dec_akv]; exact .refl _⟩ (fun a w H => H.weaken ⟨rfl, rfl, rfl, trivial⟩ ⟨rfl, rfl, rfl, rfl, trivial⟩) ?_
   rintro ⟨⟨hov, seen, L⟩, ho, hnil, hp⟩
   dsimp only
   dsimp only at ho hnil hp
   have hLl : L.length ≤ 1000000 := by
     have := hp.length_eq
     rw [List.length_append, List.length_map (f := mkF)] at this; omega
   have hLm : (L.flatMap cFlw).length = L.length * 3 := flat_len cFlw_len L
   refine nav ?_
   (refine aC_region ?_
     <;> refine aL_next 26 27 hWf26 (fun hlf26 => ?_) (fun e26 hle26 => ?_)
     <;> refine xL 28 q_extract ?_
     <;> refine aL_end (nav ?_) <;> try dsimp only) <;> (
    first | refine cCd (fun hb28 => ?_) (fun hb28 => ?_) | refine cC (fun hb28 => ?_) (fun hb28 => ?_)
    · first
      | exact Bool.noConfusion hb28
      | (
       refine nav ?_
       obtain ⟨kk, n, hmem, hks, hvs⟩ := akv_mem (hkv26 ▸ left_kv hle26)
       dsimp only at hks hvs
       (refine aC_region ?_
         <;> refine xL 29 (q_entry 26 hWf26 (left_mem hle26)) ?_
         <;> refine xL 30 q_extract ?_
         <;> refine xL 31 q_extract ?_
         <;> refine s_alloc [(.string ByteArray.empty), (.string ByteArray.empty)] 2 4 tZr97_LeK fun h4 => ?_
         <;> (rw [hks]; refine aL_ent (splitAgg (t := 30) (vs := [.string kk.1, .string kk.2]) rfl) fun _ => ?_; refine s_sta 4 tAggPr ?_)
         <;> refine xL 5 q_assign ?_
         <;> refine aL_end (nav ?_) <;> try dsimp only)
       rw [hvs]
       (refine aC_region ?_
         <;> refine xL 32 (q_fldo 3 tFl28_3_LeK) ?_
         <;> (refine yL 33 (q_ldo 3 tNa26_LeK) fun v33 hv33 => ?_; cases hv33)
         <;> refine xL 34 (q_idxa 4 tAr97_LeK) ?_
         <;> (refine yL 35 (q_ldo 4 tNa9_LeK) fun v35 hv35 => ?_; cases hv35)
         <;> refine xL 36 (q_idxa 4 tAr97_LeK) ?_
         <;> (refine yL 37 (q_ldo 4 tNa9_LeK) fun v37 hv37 => ?_; cases hv37)
         <;> refine xL 38 q_move ?_
         <;> refine xL 39 (q_build tSt47_LeK) ?_
         <;> refine s_lit1a 40 tEl26_LeK fun h40 ho40 => ?_
         <;> refine s_app 200 40 41 tEl26_LeK fun h41 ho41 => ?_
         <;> refine xL 42 (q_fldo 3 tFl28_3_LeK) ?_
         <;> refine s_st 3 tNa26_LeK tSz26_LeK ?_
         <;> refine aL_end (nav ?_) <;> try dsimp only)
       refine aN_ent (relabel (l := 41) 200 rfl rfl) fun _ => ?_
       rw [app_flat (f := cFlw) (L := L) (c := (⟨kk.1, kk.2, n⟩ : Flw)) (by rfl), show L.length + 1 = (L ++ [(⟨kk.1, kk.2, n⟩ : Flw)]).length by simp]
       refine aN_again (
         ⟨(h41, seen.push e26.born, L ++ [⟨kk.1, kk.2, n⟩]), ho41, fun h => absurd h (by simp), by
           refine .trans ?_ hp
           have h1 := (left_next hWf26 hle26).map decF
           rw [List.map_cons, hks, hvs] at h1
           show (L ++ [_] ++ _).Perm _
           rw [List.append_assoc]
           exact h1.symm.append_left L⟩
         ) (left_lt hWf26 hle26) ⟨rfl, rfl, rfl, trivial⟩ ⟨rfl, rfl, rfl, rfl, trivial⟩)
    · first
      | exact Bool.noConfusion hb28
      | (
       refine nav ?_
       have hp0 : L.Perm (st.q.map mkF) := by
         rw [hlf26] at hp
         have h1 : kvOf (#[] : Array MapEntry) = [] := rfl
         rw [h1, List.map_nil, List.append_nil] at hp
         exact hp
       (refine aC_region ?_
         <;> refine xL 43 (q_fldo 3 tFl28_3_LeK) ?_
         <;> (refine yL 44 (q_ldo 3 tNa26_LeK) fun v44 hv44 => ?_; cases hv44)
         <;> (by_cases hL : L = [] <;> first | (subst hL; obtain rfl := hnil rfl; refine aL_ent (En.freeze (l := 200) (t := 44) rfl rfl) fun _ => ?_; refine cS 45 (cA Tryz.call97 (sortFlw0_e [])) fun v45 hv45 => ?_; cases hv45; refine aL_ent (nilOwn 201 47 3 rfl) fun _ => ?_; refine aL_ent (freezeCell (l := 3) (l' := 201) (j := 3) rfl rfl rfl rfl) fun _ => ?_; rw [show share (.own 47 3 0 []) = pFlws [] from share_flws _ 0 [] rfl]; have hF : SameF [] st.q := sameF_of nq hp0 (.refl _) (fun i j a b _ h => by simp at h)) | (refine aL_sort (l := 200) (β := Flw) (f := cFlw) (cmp := flwCmp) (rows := L) sortFlw_c (fun _ => rfl) (by decide) (fun _ => rfl) (fun a => flwCmp_irrefl a) (fun a b c => flwCmp_trans) (fun a b c => flwCmp_nt) (fun x y M W u v _ _ hu hv => (dFollows_g x y).exact2 hu hv) (List.length_pos_iff.2 hL) (by omega) rfl rfl (Nat.le_of_ble_eq_true rfl) rfl (Tryz.call97) rfl rfl rfl (fun rows' hperm hord => ?_); refine aL_ent (freezeCell (l := 3) (l' := 200) (j := 3) rfl rfl rfl rfl) fun _ => ?_; rw [share_flws _ _ _ hperm.length_eq.symm]; have hF : SameF rows' st.q := sameF_of nq hp0 hperm hord))
         <;> refine aL_end (nav ?_) <;> try dsimp only) <;> (
        (refine aC_region ?_
          <;> (refine yL 46 (q_ldao 3 tAgg28_LeK) fun v46 hv46 => ?_; cases hv46)
          <;> refine s_sta 2 tAgg28_LeK ?_
          <;> refine aL_end (nav ?_) <;> try dsimp only)
        exact ret_cell (k := 4) 2 (by kernel_rfl) (Tryz.results49) rfl rfl (Nat.le_of_ble_eq_true rfl) (by decide) rfl ⟨⟨La, Ls, Lf, _⟩, ⟨hLa, hLs, hLf, hF⟩, rfl⟩))))
end Go.Proofs.YtebcjijpdhbcdaaGreat
