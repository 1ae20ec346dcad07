/-
  Walks: the reference's Sum.
-/
import Derived.Test.YtebcjijpdhbcdaaGreatMLeM
import Derived.Test.YtebcjijpdhbcdaaGreatLc
namespace Go.Proofs.YtebcjijpdhbcdaaGreat
open Go.RowKit Go.Cb Go.En
set_option linter.all false
set_option maxRecDepth 100000

theorem tAgg28_LeN : AggT Tryz.prog 28 4 = true := by kernel_rfl
theorem tFl28_0_LeN : FldT Tryz.prog 28 0 0 = true := by kernel_rfl
theorem tFl28_1_LeN : FldT Tryz.prog 28 1 1 = true := by kernel_rfl
theorem tFl28_2_LeN : FldT Tryz.prog 28 2 2 = true := by kernel_rfl
theorem tFl28_3_LeN : FldT Tryz.prog 28 3 3 = true := by kernel_rfl
theorem tFl44_0_LeN : FldT Tryz.prog 44 0 0 = true := by kernel_rfl
theorem tFl44_1_LeN : FldT Tryz.prog 44 1 1 = true := by kernel_rfl
theorem tFl47_0_LeN : FldT Tryz.prog 47 0 0 = true := by kernel_rfl
theorem tFl47_1_LeN : FldT Tryz.prog 47 1 1 = true := by kernel_rfl
theorem tFl47_2_LeN : FldT Tryz.prog 47 2 2 = true := by kernel_rfl
theorem tNa25_LeN : NoAgg Tryz.prog 25 = true := by kernel_rfl
theorem tNa26_LeN : NoAgg Tryz.prog 26 = true := by kernel_rfl
theorem tNa3_LeN : NoAgg Tryz.prog 3 = true := by kernel_rfl
theorem tNa9_LeN : NoAgg Tryz.prog 9 = true := by kernel_rfl
theorem tSl25_LeN : SlT Tryz.prog 25 44 2 = true := by kernel_rfl
theorem tSl26_LeN : SlT Tryz.prog 26 47 3 = true := by kernel_rfl
theorem tSt28_LeN : stInfo Tryz.prog 28 = some ((.agg #[(.slice none 0 0), (.slice none 0 0), (.slice none 0 0), (.slice none 0 0)]), ([0, 1, 2, 3] : List Nat).map fun o => (o, 1)) := by kernel_rfl
theorem tSz26_LeN : (Tryz.prog.info? 26).map (·.size) = some 1 := by kernel_rfl
theorem tZr28_LeN : ZeroT Tryz.prog 28 (.agg #[(.slice none 0 0), (.slice none 0 0), (.slice none 0 0), (.slice none 0 0)]) := by unfold ZeroT; kernel_rfl

def addsL (l more : List Cnt) : List Cnt := more.foldl (fun L c => addC L c.name c.n) l
def addsFl (l more : List Flw) : List Flw := more.foldl (fun L c => addF L (c.src, c.dst) c.n) l
theorem addsL_snoc {l more : List Cnt} {k : Nat} {x : Cnt} (h : more[k]? = some x) : addsL l (more.take (k + 1)) = addC (addsL l (more.take k)) x.name x.n := by unfold addsL; rw [take_snoc h, List.foldl_append]; rfl
theorem addsFl_snoc {l more : List Flw} {k : Nat} {x : Flw} (h : more[k]? = some x) : addsFl l (more.take (k + 1)) = addF (addsFl l (more.take k)) (x.src, x.dst) x.n := by unfold addsFl; rw [take_snoc h, List.foldl_append]; rfl
theorem addsL_same : ∀ (more : List Cnt) {l : List Cnt} {m : List (ByteArray × Int)}, SameC l m → (m.map (·.1)).Nodup → SameC (addsL l more) (addsK m (more.map unC))
  | [], _, _, h, _ => h
  | c :: more, _, _, h, hn => addsL_same more (sameC_add h hn c.name c.n) (iput_nodup hn)
theorem addsFl_same : ∀ (more : List Flw) {l : List Flw} {m : List (Pr × Int)}, SameF l m → (m.map (·.1)).Nodup → SameF (addsFl l more) (addsK m (more.map unF))
  | [], _, _, h, _ => h
  | c :: more, _, _, h, hn => addsFl_same more (sameF_add h hn (c.src, c.dst) c.n) (iput_nodup hn)
theorem sameC_self {l : List Cnt} (h : chainB strLt (cnames l) = true) : SameC l (l.map unC) := by
  refine ⟨?_, ?_⟩
  · rw [List.map_map, show (mkC ∘ unC : Cnt → Cnt) = id from rfl, List.map_id]
  · have h1 := chain_pw h
    unfold cnames at h1
    exact List.pairwise_map.1 h1
theorem sameF_self {l : List Flw} (h : chainB flwLt l = true) : SameF l (l.map unF) := by
  refine ⟨?_, flw_pw h⟩
  rw [List.map_map, show (mkF ∘ unF : Flw → Flw) = id from rfl, List.map_id]
theorem sameC_ns {L : List Cnt} {m : List (ByteArray × Int)} {b : Int} (h : SameC L m) (hm : LOk m b) : ∀ c ∈ L, 1 ≤ c.n ∧ c.n ≤ b := fun c hc => by
  have h1 := sameC_mem h hc
  exact ⟨hm.lo _ h1, hm.hi _ h1⟩
theorem sameF_ns {L : List Flw} {m : List (Pr × Int)} {b : Int} (h : SameF L m) (hm : LOk m b) : ∀ c ∈ L, 1 ≤ c.n ∧ c.n ≤ b := fun c hc => by
  have h1 := sameF_mem h hc
  exact ⟨hm.lo _ h1, hm.hi _ h1⟩
theorem r17addAll_e (l more : List Cnt) (hs : SameC l (l.map unC)) (hl : LOk (l.map unC) 4503599627370496) (hm : LOk (more.map unC) 4503599627370496) (l1 : l.length ≤ 1000) (l2 : more.length ≤ 1000) : AF Tryz.prog 74 [pCnts l, pCnts more] (· = pCnts (addsL l more)) := by
  refine AF.of_body 27 Tryz.func74 rfl Tryz.ntmps74 (Nat.le_of_ble_eq_true rfl) ?_
  intro w0 M0 vs hl hv
  obtain ⟨v0, v1, rfl⟩ := len2 hl
  clear hl hv
  refine nav ?_
  (refine aC_region ?_
    <;> refine xL 4 q_assign ?_
    <;> refine aL_end (nav ?_) <;> try dsimp only)
  (refine aC_region ?_
    <;> refine xL 7 q_move ?_
    <;> refine xL 5 q_assign ?_
    <;> refine aL_end (nav ?_) <;> try dsimp only)
  (refine aC_region ?_
    <;> refine xL 6 q_assign ?_
    <;> refine aL_end (nav ?_) <;> try dsimp only)
  refine aC_loop (ι := { q : Nat × Value // q.1 ≤ more.length }) (fun k => ⟨[(1, _, _), (5, k.1.2, pCnts (addsL l (more.take k.1.1))), (6, .int .i64 k.1.1, pInt k.1.1)], []⟩) (fun k => more.length - k.1.1) ⟨(0, v0), Nat.zero_le _⟩ (fun a w H => H.weaken ⟨rfl, rfl, rfl, trivial⟩ trivial) ?_
  rintro ⟨⟨k, v⟩, hk⟩
  dsimp only
  dsimp only at hk
  have hSk := addsL_same (more.take k) hs hl.nd
  have hLk : LOk (addsK (l.map unC) ((more.take k).map unC)) (4503599627370496 + 4503599627370496) := hl.add (by rw [List.map_take]; exact hm.take k) (by decide) (by decide)
  have hb := sameC_ns hSk hLk
  have hlen := addsK_len ((more.take k).map unC) (l.map unC)
  have hlen2 := hSk.1.length_eq
  rw [List.length_map] at hlen2
  rw [List.length_map, List.length_map, List.length_take] at hlen
  refine nav ?_
  (refine aC_region ?_
    <;> refine xL 8 q_move ?_
    <;> refine xL 9 q_move ?_
    <;> refine xL 10 (q_len tSl25_LeN) ?_
    <;> refine xL 11 q_lss ?_
    <;> refine aL_end (nav ?_) <;> try dsimp only)
  first | refine cCd (fun hb11 => ?_) (fun hb11 => ?_) | refine cC (fun hb11 => ?_) (fun hb11 => ?_)
  · first
    | exact Bool.noConfusion hb11
    | (
     obtain ⟨x, hx⟩ := get_some (show k < more.length by omega)
     have e1 : (more.flatMap cCnt)[k * 2 + 0]? = some (pStr x.name) := flat_at cCnt_len hx (by decide)
     have e2 : (more.flatMap cCnt)[k * 2 + 1]? = some (pInt x.n) := flat_at cCnt_len hx (by decide)
     have hx1 : 1 ≤ x.n := hm.lo (unC x) (List.mem_map.2 ⟨x, List.mem_of_getElem? hx, rfl⟩)
     have hx2 : x.n ≤ 4503599627370496 := hm.hi (unC x) (List.mem_map.2 ⟨x, List.mem_of_getElem? hx, rfl⟩)
     refine nav ?_
     (refine aC_draw (fun i => ([] : List Nat).elem i) [] (by kernel_rfl) ?_
       <;> refine xD 0 14 rfl q_move ?_
       <;> refine xD 1 15 rfl q_move ?_
       <;> refine xD 2 16 rfl q_move ?_
       <;> refine xD 3 17 rfl (q_idxN tSl25_LeN) ?_
       <;> refine xD 4 18 rfl (q_fld tFl44_0_LeN) ?_
       <;> (refine yD 5 19 rfl (q_ld tNa9_LeN) fun v19 hv19 => ?_; cases hv19)
       <;> refine xD 6 20 rfl q_move ?_
       <;> refine xE 7 21 rfl q_move ?_
       <;> refine xE 8 22 rfl (q_idxN tSl25_LeN) ?_
       <;> refine xE 9 23 rfl (q_fld tFl44_1_LeN) ?_
       <;> (refine yE 10 24 rfl (q_ld tNa3_LeN) fun v24 hv24 => ?_; cases hv24)
       <;> (refine aD_one 11 (by kernel_rfl) ?_)
       <;> (refine aW_run rfl fun w9 M9 N9 DQ back => ?_)
       <;> (refine cO 25 (cA Tryz.call50 (r17add_e (addsL l (more.take k)) x.name x.n (by omega) (fun c hc => by have := hb c hc; omega))) fun v25 ho25 => ?_; refine aL_ent (En.freeze (l := 25) (t := 25) rfl rfl) fun _ => ?_; rw [share_cntsD _ _ _ rfl])
       <;> refine aL_end (back _ (nrm ?_))
       <;> (refine aD_one 12 (by kernel_rfl) ?_)
       <;> (refine aW_run rfl fun w9 M9 N9 DQ back => ?_)
       <;> refine xL 5 q_assign ?_
       <;> refine aL_end (back _ (nrm ?_))
       <;> refine aD_end (by kernel_rfl) (nav ?_)
       <;> try dsimp only)
     (refine aC_region ?_
       <;> refine xL 12 q_move ?_
       <;> refine xL 13 q_add ?_
       <;> refine xL 6 q_assign ?_
       <;> refine aL_end (nav ?_) <;> try dsimp only)
     rw [← addsL_snoc hx]
     refine aN_again (
       ⟨(k + 1, v25), lt_of_get hx⟩
       ) (by dsimp only; omega) ⟨rfl, rfl, rfl, trivial⟩ trivial)
  · first
    | exact Bool.noConfusion hb11
    | (
     refine nav ?_
     (refine aC_region ?_
       <;> refine xL 26 q_move ?_
       <;> refine xL 4 q_assign ?_
       <;> refine aL_end (nav ?_) <;> try dsimp only)
     refine ret_shr (Tryz.results74) rfl ?_
     rw [List.take_of_length_le (by omega)])
set_option maxHeartbeats 4000000 in
theorem r17Sum_e (a b : Dfg) (hfa : fitD a) (hfb : fitD b) (ha1 : a.acts.length ≤ 1000000) (hb1 : b.acts.length ≤ 1000000) : AF Tryz.prog 28 [pDfg a, pDfg b] (RSum a b) := by
  refine AF.of_body 74 Tryz.func28 rfl Tryz.ntmps28 (Nat.le_of_ble_eq_true rfl) ?_
  intro w0 M0 vs hl hv
  obtain ⟨v0, v1, rfl⟩ := len2 hl
  clear hl hv
  refine nav ?_
  (refine aC_region ?_
    <;> refine s_boxa 2 4 fun h2 => ?_
    <;> refine s_boxa 3 4 fun h3 => ?_
    <;> refine s_alloc [(.slice none 0 0), (.slice none 0 0), (.slice none 0 0), (.slice none 0 0)] 4 4 tZr28_LeN fun h4 => ?_
    <;> refine xL 5 q_assign ?_
    <;> refine aL_end (nav ?_) <;> try dsimp only)
  (refine aC_region ?_
    <;> (refine yL 8 (q_ldao 2 tAgg28_LeN) fun v8 hv8 => ?_; cases hv8)
    <;> (refine cS 9 (cA Tryz.call37 (r17Valid_e a hfa ha1)) fun v9 hv9 => ?_; cases hv9)
    <;> refine xL 10 q_not ?_
    <;> refine xL 11 q_move ?_
    <;> (refine bL 11 (fun hb11 => ?_) (fun hb11 => ?_) <;> (first | refine kL 12 ?_ | (refine yL 12 (q_ldao 3 tAgg28_LeN) fun v12 hv12 => ?_; cases hv12)))
    <;> (first | refine kL 13 ?_ | (refine cS 13 (cA Tryz.call37 (r17Valid_e b hfb hb1)) fun v13 hv13 => ?_; cases hv13))
    <;> (first | refine kL 14 ?_ | refine xL 14 q_not ?_)
    <;> refine xL 15 q_pick ?_
    <;> refine aL_end (nav ?_) <;> try dsimp only) <;> (
   first | refine cCd (fun hb15 => ?_) (fun hb15 => ?_) | refine cC (fun hb15 => ?_) (fun hb15 => ?_)
   · first
     | exact Bool.noConfusion hb15
     | (
      refine nav ?_
      (refine aC_region ?_
        <;> refine xL 16 (q_build tSt28_LeN) ?_
        <;> refine s_sta 4 tAgg28_LeN ?_
        <;> refine xL 5 q_assign ?_
        <;> refine aL_end (nav ?_) <;> try dsimp only)
      exact ret_cs (k := 4) 4 (by kernel_rfl) (Tryz.results28) rfl rfl rfl (Nat.le_of_ble_eq_true rfl) (by decide) rfl (.inl ⟨by cases h1 : dfgOk a <;> cases h2 : dfgOk b <;> simp_all, rfl⟩))
   · first
     | exact Bool.noConfusion hb15
     | (
      have hA : dfgOk a = true := by cases h1 : dfgOk a <;> simp_all
      have hB : dfgOk b = true := by cases h1 : dfgOk b <;> simp_all
      have hszs := sumM_sz hA hB
      have gA := gok_of hA
      have gB := gok_of hB
      have kA := glk_of hA
      have kB := glk_of hB
      have lA := glens hA
      have lB := glens hB
      have sA := sameC_self gA.asc
      have sS := sameC_self gA.stA
      have sE := sameC_self gA.enA
      have sF := sameF_self gA.flA
      have hgs : ∀ g ∈ [a, b], dfgOk g = true := fun g hg => by
        simp only [List.mem_cons, List.not_mem_nil, or_false] at hg
        rcases hg with rfl | rfl <;> assumption
      have hSk : SOk (sumM a b) ((2 : Nat) * 4503599627370496) (2 * 1600) := stG_ok hgs 2 (Nat.le_refl _)
      refine nav ?_
      (refine aC_draw (fun i => ([19] : List Nat).elem i) [2, 3] (by kernel_rfl) ?_
        <;> refine xD 0 17 rfl (q_fldo 2 tFl28_0_LeN) ?_
        <;> (refine yD 1 18 rfl (q_ldo 2 tNa25_LeN) fun v18 hv18 => ?_; cases hv18)
        <;> refine xD 2 19 rfl (q_fldo 3 tFl28_0_LeN) ?_
        <;> (refine yD 3 20 rfl (q_ldo 3 tNa25_LeN) fun v20 hv20 => ?_; cases hv20)
        <;> refine xD 5 22 rfl (q_fldo 2 tFl28_1_LeN) ?_
        <;> (refine yD 6 23 rfl (q_ldo 2 tNa25_LeN) fun v23 hv23 => ?_; cases hv23)
        <;> refine xD 7 24 rfl (q_fldo 3 tFl28_1_LeN) ?_
        <;> (refine yD 8 25 rfl (q_ldo 3 tNa25_LeN) fun v25 hv25 => ?_; cases hv25)
        <;> refine xD 10 27 rfl (q_fldo 2 tFl28_2_LeN) ?_
        <;> (refine yD 11 28 rfl (q_ldo 2 tNa25_LeN) fun v28 hv28 => ?_; cases hv28)
        <;> refine xD 12 29 rfl (q_fldo 3 tFl28_2_LeN) ?_
        <;> (refine yD 13 30 rfl (q_ldo 3 tNa25_LeN) fun v30 hv30 => ?_; cases hv30)
        <;> refine xD 15 32 rfl (q_fldo 2 tFl28_3_LeN) ?_
        <;> (refine yD 16 33 rfl (q_ldo 2 tNa26_LeN) fun v33 hv33 => ?_; cases hv33)
        <;> (refine aD_two 4 18 (by kernel_rfl) ?_ ?_; rotate_right; (focus ((refine aW_run rfl fun w9 M9 N9 DQ back => ?_) <;> refine s_alloc [(.slice none 0 0), (.slice none 0 0), (.slice none 0 0), (.slice none 0 0)] 4 6 tZr28_LeN fun h6 => ?_ <;> refine aL_end (back _ (nrm ?_)) <;> (refine aD_one 4 (by kernel_rfl) ?_) <;> (refine aW_call (d := 21) rfl (cA Tryz.call74 (r17addAll_e a.acts b.acts sA kA.a kB.a (by omega) (by omega))) fun v21 hv21 => ?_; cases hv21) <;> (refine aD_one 9 (by kernel_rfl) ?_) <;> (refine aW_call (d := 26) rfl (cA Tryz.call74 (r17addAll_e a.starts b.starts sS kA.s kB.s (by omega) (by omega))) fun v26 hv26 => ?_; cases hv26) <;> (refine aD_one 14 (by kernel_rfl) ?_) <;> (refine aW_call (d := 31) rfl (cA Tryz.call74 (r17addAll_e a.ends b.ends sE kA.f kB.f (by omega) (by omega))) fun v31 hv31 => ?_; cases hv31) <;> refine xE 17 34 rfl (q_build tSt28_LeN) ?_ <;> (refine aD_one 19 (by kernel_rfl) ?_) <;> (refine aW_last rfl rfl (by kernel_rfl) fun DQ back => ?_) <;> refine s_sta 6 tAgg28_LeN ?_ <;> refine aL_end (back _ (nav ?_)))); rotate_right; (focus ((refine aW_call (d := 21) rfl (cA Tryz.call74 (r17addAll_e a.acts b.acts sA kA.a kB.a (by omega) (by omega))) fun v21 hv21 => ?_; cases hv21) <;> (refine aD_two 9 18 (by kernel_rfl) ?_ ?_; rotate_right; (focus ((refine aW_run rfl fun w9 M9 N9 DQ back => ?_) <;> refine s_alloc [(.slice none 0 0), (.slice none 0 0), (.slice none 0 0), (.slice none 0 0)] 4 6 tZr28_LeN fun h6 => ?_ <;> refine aL_end (back _ (nrm ?_)) <;> (refine aD_one 9 (by kernel_rfl) ?_) <;> (refine aW_call (d := 26) rfl (cA Tryz.call74 (r17addAll_e a.starts b.starts sS kA.s kB.s (by omega) (by omega))) fun v26 hv26 => ?_; cases hv26) <;> (refine aD_one 14 (by kernel_rfl) ?_) <;> (refine aW_call (d := 31) rfl (cA Tryz.call74 (r17addAll_e a.ends b.ends sE kA.f kB.f (by omega) (by omega))) fun v31 hv31 => ?_; cases hv31) <;> refine xE 17 34 rfl (q_build tSt28_LeN) ?_ <;> (refine aD_one 19 (by kernel_rfl) ?_) <;> (refine aW_last rfl rfl (by kernel_rfl) fun DQ back => ?_) <;> refine s_sta 6 tAgg28_LeN ?_ <;> refine aL_end (back _ (nav ?_)))); rotate_right; (focus ((refine aW_call (d := 26) rfl (cA Tryz.call74 (r17addAll_e a.starts b.starts sS kA.s kB.s (by omega) (by omega))) fun v26 hv26 => ?_; cases hv26) <;> (refine aD_two 14 18 (by kernel_rfl) ?_ ?_; rotate_right; (focus ((refine aW_run rfl fun w9 M9 N9 DQ back => ?_) <;> refine s_alloc [(.slice none 0 0), (.slice none 0 0), (.slice none 0 0), (.slice none 0 0)] 4 6 tZr28_LeN fun h6 => ?_ <;> refine aL_end (back _ (nrm ?_)) <;> (refine aD_one 14 (by kernel_rfl) ?_) <;> (refine aW_call (d := 31) rfl (cA Tryz.call74 (r17addAll_e a.ends b.ends sE kA.f kB.f (by omega) (by omega))) fun v31 hv31 => ?_; cases hv31) <;> refine xE 17 34 rfl (q_build tSt28_LeN) ?_ <;> (refine aD_one 19 (by kernel_rfl) ?_) <;> (refine aW_last rfl rfl (by kernel_rfl) fun DQ back => ?_) <;> refine s_sta 6 tAgg28_LeN ?_ <;> refine aL_end (back _ (nav ?_)))); rotate_right; (focus ((refine aW_call (d := 31) rfl (cA Tryz.call74 (r17addAll_e a.ends b.ends sE kA.f kB.f (by omega) (by omega))) fun v31 hv31 => ?_; cases hv31) <;> refine xD 17 34 rfl (q_build tSt28_LeN) ?_ <;> (refine aD_one 18 (by kernel_rfl) ?_) <;> (refine aW_run rfl fun w9 M9 N9 DQ back => ?_) <;> refine s_alloc [(.slice none 0 0), (.slice none 0 0), (.slice none 0 0), (.slice none 0 0)] 4 6 tZr28_LeN fun h6 => ?_ <;> refine aL_end (back _ (nrm ?_)) <;> (refine aD_one 19 (by kernel_rfl) ?_) <;> (refine aW_last rfl rfl (by kernel_rfl) fun DQ back => ?_) <;> refine s_sta 6 tAgg28_LeN ?_ <;> refine aL_end (back _ (nav ?_)))))))))))
        <;> try dsimp only) <;> (
       (refine aC_region ?_
         <;> refine xL 7 q_assign ?_
         <;> refine aL_end (nav ?_) <;> try dsimp only)
       refine aC_loop (ι := { q : Nat // q ≤ b.follows.length }) (fun k => ⟨[(3, _, _), (4, _, _), (6, _, _), (7, .int .i64 k.1, pInt k.1)], [(3, _, _), (4, _, _), (6, h6, .own 28 4 1 [pCnts (addsL a.acts b.acts), pCnts (addsL a.starts b.starts), pCnts (addsL a.ends b.ends), pFlws (addsFl a.follows (b.follows.take k.1))])]⟩) (fun k => b.follows.length - k.1) ⟨0, Nat.zero_le _⟩ (fun a w H => H.weaken ⟨rfl, rfl, rfl, rfl, trivial⟩ ⟨rfl, rfl, rfl, trivial⟩) ?_
       rintro ⟨k, hk⟩
       dsimp only
       have hQk := addsFl_same (b.follows.take k) sF kA.q.nd
       have hLk : LOk (addsK (a.follows.map unF) ((b.follows.take k).map unF)) (4503599627370496 + 4503599627370496) := kA.q.add (by rw [List.map_take]; exact kB.q.take k) (by decide) (by decide)
       have hb := sameF_ns hQk hLk
       have hlen := addsK_len ((b.follows.take k).map unF) (a.follows.map unF)
       have hlen2 := hQk.1.length_eq
       rw [List.length_map] at hlen2
       rw [List.length_map, List.length_map, List.length_take] at hlen
       refine nav ?_
       (refine aC_region ?_
         <;> refine xL 35 q_move ?_
         <;> refine xL 36 (q_fldo 3 tFl28_3_LeN) ?_
         <;> (refine yL 37 (q_ldo 3 tNa26_LeN) fun v37 hv37 => ?_; cases hv37)
         <;> refine xL 38 (q_len tSl26_LeN) ?_
         <;> refine xL 39 q_lss ?_
         <;> refine aL_end (nav ?_) <;> try dsimp only)
       first | refine cCd (fun hb39 => ?_) (fun hb39 => ?_) | refine cC (fun hb39 => ?_) (fun hb39 => ?_)
       · first
         | exact Bool.noConfusion hb39
         | (
          obtain ⟨x, hx⟩ := get_some (show k < b.follows.length by omega)
          have e1 : (b.follows.flatMap cFlw)[k * 3 + 0]? = some (pStr x.src) := flat_at cFlw_len hx (by decide)
          have e2 : (b.follows.flatMap cFlw)[k * 3 + 1]? = some (pStr x.dst) := flat_at cFlw_len hx (by decide)
          have e3 : (b.follows.flatMap cFlw)[k * 3 + 2]? = some (pInt x.n) := flat_at cFlw_len hx (by decide)
          have hx1 : 1 ≤ x.n := kB.q.lo (unF x) (List.mem_map.2 ⟨x, List.mem_of_getElem? hx, rfl⟩)
          have hx2 : x.n ≤ 4503599627370496 := kB.q.hi (unF x) (List.mem_map.2 ⟨x, List.mem_of_getElem? hx, rfl⟩)
          refine nav ?_
          (refine aC_draw (fun i => ([22] : List Nat).elem i) [3, 6] (by kernel_rfl) ?_
            <;> refine xD 0 42 rfl (q_fldo 6 tFl28_3_LeN) ?_
            <;> (refine yD 1 43 rfl (q_ldo 6 tNa26_LeN) fun v43 hv43 => ?_; cases hv43)
            <;> refine xD 2 44 rfl (q_fldo 3 tFl28_3_LeN) ?_
            <;> (refine yD 3 45 rfl (q_ldo 3 tNa26_LeN) fun v45 hv45 => ?_; cases hv45)
            <;> refine xD 4 46 rfl q_move ?_
            <;> refine xD 5 47 rfl (q_idxN tSl26_LeN) ?_
            <;> refine xD 6 48 rfl (q_fld tFl47_0_LeN) ?_
            <;> (refine yD 7 49 rfl (q_ld tNa9_LeN) fun v49 hv49 => ?_; cases hv49)
            <;> refine xD 8 50 rfl (q_fldo 3 tFl28_3_LeN) ?_
            <;> (refine yD 9 51 rfl (q_ldo 3 tNa26_LeN) fun v51 hv51 => ?_; cases hv51)
            <;> refine xD 10 52 rfl q_move ?_
            <;> refine xD 11 53 rfl (q_idxN tSl26_LeN) ?_
            <;> refine xD 12 54 rfl (q_fld tFl47_1_LeN) ?_
            <;> (refine yD 13 55 rfl (q_ld tNa9_LeN) fun v55 hv55 => ?_; cases hv55)
            <;> refine xD 14 56 rfl (q_fldo 3 tFl28_3_LeN) ?_
            <;> (refine yD 15 57 rfl (q_ldo 3 tNa26_LeN) fun v57 hv57 => ?_; cases hv57)
            <;> refine xE 16 58 rfl q_move ?_
            <;> refine xE 17 59 rfl (q_idxN tSl26_LeN) ?_
            <;> refine xE 18 60 rfl (q_fld tFl47_2_LeN) ?_
            <;> (refine yE 19 61 rfl (q_ld tNa3_LeN) fun v61 hv61 => ?_; cases hv61)
            <;> (refine aD_one 20 (by kernel_rfl) ?_)
            <;> (refine aW_run rfl fun w9 M9 N9 DQ back => ?_)
            <;> (refine cO 62 (cA Tryz.call51 (r17follow_e (addsFl a.follows (b.follows.take k)) x.src x.dst x.n (by omega) (fun c hc => by have := hb c hc; omega))) fun v62 ho62 => ?_; refine aL_ent (En.freeze (l := 62) (t := 62) rfl rfl) fun _ => ?_; rw [share_flws _ _ _ rfl])
            <;> refine aL_end (back _ (nrm ?_))
            <;> refine xE 21 63 rfl (q_fldo 6 tFl28_3_LeN) ?_
            <;> (refine aD_one 22 (by kernel_rfl) ?_)
            <;> (refine aW_last rfl rfl (by kernel_rfl) fun DQ back => ?_)
            <;> refine s_st 6 tNa26_LeN tSz26_LeN ?_
            <;> refine aL_end (back _ (nav ?_))
            <;> try dsimp only)
          (refine aC_region ?_
            <;> refine xL 40 q_move ?_
            <;> refine xL 41 q_add ?_
            <;> refine xL 7 q_assign ?_
            <;> refine aL_end (nav ?_) <;> try dsimp only)
          rw [← addsFl_snoc hx]
          refine aN_again (
            ⟨k + 1, lt_of_get hx⟩
            ) (by dsimp only; omega) ⟨rfl, rfl, rfl, rfl, trivial⟩ ⟨rfl, rfl, rfl, trivial⟩)
       · first
         | exact Bool.noConfusion hb39
         | (
          obtain rfl : k = b.follows.length := by omega
          rw [List.take_length] at hQk ⊢
          have e0 : ∀ {m : List (ByteArray × Int)}, (m.map (·.1)).Nodup → addsK [] m = m := addsK_nil
          have hg : SameG ⟨addsL a.acts b.acts, addsL a.starts b.starts, addsL a.ends b.ends, addsFl a.follows b.follows⟩ (sumM a b) := by
            refine ⟨?_, ?_, ?_, ?_⟩
            · show SameC _ (addsK (addsK [] _) _); rw [addsK_nil kA.a.nd]; exact addsL_same b.acts sA kA.a.nd
            · show SameC _ (addsK (addsK [] _) _); rw [addsK_nil kA.s.nd]; exact addsL_same b.starts sS kA.s.nd
            · show SameC _ (addsK (addsK [] _) _); rw [addsK_nil kA.f.nd]; exact addsL_same b.ends sE kA.f.nd
            · show SameF _ (addsK (addsK [] _) _); rw [addsK_nil kA.q.nd]; exact hQk
          have hal : (addsL a.acts b.acts).length = (sumM a b).a.length := by have := hg.1.1.length_eq; rw [List.length_map] at this; exact this
          obtain ⟨q1, q2, q3, q4, q5⟩ := sum_fit hSk (by omega) (by omega) hszs.1 hszs.2.1 hszs.2.2.1 hszs.2.2.2 hg
          refine nav ?_
          (refine aC_region ?_
            <;> refine xL 64 (q_fldo 6 tFl28_0_LeN) ?_
            <;> (refine yL 65 (q_ldo 6 tNa25_LeN) fun v65 hv65 => ?_; cases hv65)
            <;> refine xL 66 (q_len tSl25_LeN) ?_
            <;> refine xL 67 q_gtr ?_
            <;> refine aL_end (nav ?_) <;> try dsimp only)
          first | refine cCd (fun hb67 => ?_) (fun hb67 => ?_) | refine cC (fun hb67 => ?_) (fun hb67 => ?_)
          · first
            | exact Bool.noConfusion hb67
            | (
             refine nav ?_
             (refine aC_region ?_
               <;> refine xL 68 (q_build tSt28_LeN) ?_
               <;> refine s_sta 4 tAgg28_LeN ?_
               <;> refine xL 5 q_assign ?_
               <;> refine aL_end (nav ?_) <;> try dsimp only)
             exact ret_cs (k := 4) 4 (by kernel_rfl) (Tryz.results28) rfl rfl rfl (Nat.le_of_ble_eq_true rfl) (by decide) rfl (.inr (.inl ⟨hA, hB, by omega, rfl⟩)))
          · first
            | exact Bool.noConfusion hb67
            | (
             refine nav ?_
             (refine aC_region ?_
               <;> (refine yL 69 (q_ldao 6 tAgg28_LeN) fun v69 hv69 => ?_; cases hv69)
               <;> (refine cS 70 (cA Tryz.call37 (r17Valid_e ⟨addsL a.acts b.acts, addsL a.starts b.starts, addsL a.ends b.ends, addsFl a.follows b.follows⟩ q1 q2)) fun v70 hv70 => ?_; cases hv70)
               <;> refine xL 71 q_not ?_
               <;> refine aL_end (nav ?_) <;> try dsimp only)
             first | refine cCd (fun hb71 => ?_) (fun hb71 => ?_) | refine cC (fun hb71 => ?_) (fun hb71 => ?_)
             · first
               | exact Bool.noConfusion hb71
               | (
                refine nav ?_
                (refine aC_region ?_
                  <;> refine xL 72 (q_build tSt28_LeN) ?_
                  <;> refine s_sta 4 tAgg28_LeN ?_
                  <;> refine xL 5 q_assign ?_
                  <;> refine aL_end (nav ?_) <;> try dsimp only)
                exact ret_cs (k := 4) 4 (by kernel_rfl) (Tryz.results28) rfl rfl rfl (Nat.le_of_ble_eq_true rfl) (by decide) rfl (.inr (.inr ⟨hA, hB, by omega, _, hg, .inl ⟨by simpa using hb71, rfl⟩⟩)))
             · first
               | exact Bool.noConfusion hb71
               | (
                refine nav ?_
                (refine aC_region ?_
                  <;> (refine yL 73 (q_ldao 6 tAgg28_LeN) fun v73 hv73 => ?_; cases hv73)
                  <;> refine s_sta 4 tAgg28_LeN ?_
                  <;> refine xL 5 q_assign ?_
                  <;> refine aL_end (nav ?_) <;> try dsimp only)
                exact ret_cs (k := 4) 4 (by kernel_rfl) (Tryz.results28) rfl rfl rfl (Nat.le_of_ble_eq_true rfl) (by decide) rfl (.inr (.inr ⟨hA, hB, by omega, _, hg, .inr ⟨by simpa using hb71, rfl⟩⟩))))))))
end Go.Proofs.YtebcjijpdhbcdaaGreat
