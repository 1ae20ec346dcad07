/-
  Walks: the reference's graph, automaton and words of a directly-follows graph.
-/
import Derived.Test.YtebcjijpdhbcdaaGreatMLdW
import Derived.Test.YtebcjijpdhbcdaaGreatLl
import Derived.Test.YtebcjijpdhbcdaaGreatLc
import Derived.Test.YtebcjijpdhbcdaaGreatMEoE
namespace Go.Proofs.YtebcjijpdhbcdaaGreat
open Go.RowKit Go.Cb Go.En
set_option linter.all false
set_option maxRecDepth 100000

theorem tAgg28_LeG : AggT Tryz.prog 28 4 = true := by kernel_rfl
theorem tAgg66_LeG : AggT Tryz.prog 66 5 = true := by kernel_rfl
theorem tAgg79_LeG : AggT Tryz.prog 79 2 = true := by kernel_rfl
theorem tAr85_LeG : ArrT Tryz.prog 85 2 = true := by kernel_rfl
theorem tEl63_LeG : ElT Tryz.prog 63 3 1 8 (.int .i64 0) := ⟨Tryz.underlying63, by kernel_rfl, rfl, by decide⟩
theorem tEl64_LeG : ElT Tryz.prog 64 126 3 24 (.agg #[(.int .i64 0), (.int .i64 0), (.int .i64 0)]) := ⟨Tryz.underlying64, by kernel_rfl, rfl, by decide⟩
theorem tEl77_LeG : ElT Tryz.prog 77 85 2 16 (.agg #[(.int .i64 0), (.int .i64 0)]) := ⟨Tryz.underlying77, by kernel_rfl, rfl, by decide⟩
theorem tFl28_0_LeG : FldT Tryz.prog 28 0 0 = true := by kernel_rfl
theorem tFl28_1_LeG : FldT Tryz.prog 28 1 1 = true := by kernel_rfl
theorem tFl28_2_LeG : FldT Tryz.prog 28 2 2 = true := by kernel_rfl
theorem tFl28_3_LeG : FldT Tryz.prog 28 3 3 = true := by kernel_rfl
theorem tFl44_0_LeG : FldT Tryz.prog 44 0 0 = true := by kernel_rfl
theorem tFl47_0_LeG : FldT Tryz.prog 47 0 0 = true := by kernel_rfl
theorem tFl47_1_LeG : FldT Tryz.prog 47 1 1 = true := by kernel_rfl
theorem tFl66_3_LeG : FldT Tryz.prog 66 3 3 = true := by kernel_rfl
theorem tFl66_4_LeG : FldT Tryz.prog 66 4 4 = true := by kernel_rfl
theorem tFl79_1_LeG : FldT Tryz.prog 79 1 1 = true := by kernel_rfl
theorem tFv79_1_LeG : FldV Tryz.prog 79 1 1 = true := by kernel_rfl
theorem tNa25_LeG : NoAgg Tryz.prog 25 = true := by kernel_rfl
theorem tNa26_LeG : NoAgg Tryz.prog 26 = true := by kernel_rfl
theorem tNa3_LeG : NoAgg Tryz.prog 3 = true := by kernel_rfl
theorem tNa63_LeG : NoAgg Tryz.prog 63 = true := by kernel_rfl
theorem tNa64_LeG : NoAgg Tryz.prog 64 = true := by kernel_rfl
theorem tNa77_LeG : NoAgg Tryz.prog 77 = true := by kernel_rfl
theorem tNa9_LeG : NoAgg Tryz.prog 9 = true := by kernel_rfl
theorem tSl25_LeG : SlT Tryz.prog 25 44 2 = true := by kernel_rfl
theorem tSl26_LeG : SlT Tryz.prog 26 47 3 = true := by kernel_rfl
theorem tSl51_LeG : SlT Tryz.prog 51 9 1 = true := by kernel_rfl
theorem tSl77_LeG : SlT Tryz.prog 77 85 2 = true := by kernel_rfl
theorem tSt126_LeG : stInfo Tryz.prog 126 = some ((.agg #[(.int .i64 0), (.int .i64 0), (.int .i64 0)]), ([0, 1, 2] : List Nat).map fun o => (o, 1)) := by kernel_rfl
theorem tSt66_LeG : stInfo Tryz.prog 66 = some ((.agg #[(.int .i64 0), (.int .i64 0), (.slice none 0 0), (.slice none 0 0), (.slice none 0 0)]), ([0, 1, 2, 3, 4] : List Nat).map fun o => (o, 1)) := by kernel_rfl
theorem tSt79_LeG : stInfo Tryz.prog 79 = some ((.agg #[(.int .i64 0), (.slice none 0 0)]), ([0, 1] : List Nat).map fun o => (o, 1)) := by kernel_rfl
theorem tSz63_LeG : (Tryz.prog.info? 63).map (·.size) = some 1 := by kernel_rfl
theorem tSz64_LeG : (Tryz.prog.info? 64).map (·.size) = some 1 := by kernel_rfl
theorem tSz77_LeG : (Tryz.prog.info? 77).map (·.size) = some 1 := by kernel_rfl
theorem tZr66_LeG : ZeroT Tryz.prog 66 (.agg #[(.int .i64 0), (.int .i64 0), (.slice none 0 0), (.slice none 0 0), (.slice none 0 0)]) := by unfold ZeroT; kernel_rfl
theorem tZr79_LeG : ZeroT Tryz.prog 79 (.agg #[(.int .i64 0), (.slice none 0 0)]) := by unfold ZeroT; kernel_rfl
theorem tZr85_LeG : ZeroT Tryz.prog 85 (.agg #[(.int .i64 0), (.int .i64 0)]) := by unfold ZeroT; kernel_rfl

def cPI (p : Nat × Nat) : List PV := [pInt (p.1 : Nat), pInt (p.2 : Nat)]
theorem cPI_len (p : Nat × Nat) : (cPI p).length = 2 := rfl
def pPIs (l : List (Nat × Nat)) : PV := .sl l.length (l.flatMap cPI)
theorem share_pis (e n : Nat) (l : List (Nat × Nat)) (hn : n = l.length) : share (.own e 2 n (l.flatMap cPI)) = pPIs l := by
  subst hn
  rw [share, shares_eq, List.map_flatMap]; rfl
theorem snoc_pis (e : Nat) (L : List (Nat × Nat)) (x : Nat × Nat) : PV.own e 2 (L.length + 1) (L.flatMap cPI ++ cPI x) = .own e 2 (L ++ [x]).length ((L ++ [x]).flatMap cPI) := by simp
def edgeL (acts : List ByteArray) (l : List Flw) : List (Nat × Nat) := l.map fun f => (ixN acts f.src, ixN acts f.dst)
theorem edgeL_step {acts : List ByteArray} {l : List Flw} {k : Nat} {x : Flw} (h : l[k]? = some x) : edgeL acts (l.take (k + 1)) = edgeL acts (l.take k) ++ [(ixN acts x.src, ixN acts x.dst)] := by
  unfold edgeL; rw [take_snoc h, List.map_append]; rfl
def pGraphG (g : Dfg) : PV := .agg [pInt (g.acts.length : Nat), pPIs (edgeL (cnames g.acts) g.follows)]
theorem rIxN_e (l : List ByteArray) (s : ByteArray) (h : hasStr l s = true) : AF Tryz.prog 89 [pStrs l, pStr s] (· = pInt (ixN l s : Nat)) := (rIndex_e l s).mono fun p hp => by rw [hp, (ixN_of h).1]
set_option maxHeartbeats 2000000 in
theorem r17Graph_e (g : Dfg) (hG : GOk g) : AF Tryz.prog 41 [pDfg g] (· = pGraphG g) := by
  have h40 := hG.n40
  have hfl := hG.flen
  refine AF.of_body 43 Tryz.func41 rfl Tryz.ntmps41 (Nat.le_of_ble_eq_true rfl) ?_
  intro w0 M0 vs hl hv
  obtain ⟨v0, rfl⟩ := len1 hl
  clear hl hv
  refine nav ?_
  (refine aC_region ?_
    <;> refine s_boxa 1 4 fun h1 => ?_
    <;> refine s_alloc [(.int .i64 0), (.slice none 0 0)] 2 2 tZr79_LeG fun h2 => ?_
    <;> refine aL_end (nav ?_) <;> try dsimp only)
  (refine aC_region ?_
    <;> refine xL 5 (q_fldo 1 tFl28_0_LeG) ?_
    <;> (refine yL 6 (q_ldo 1 tNa25_LeG) fun v6 hv6 => ?_; cases hv6)
    <;> refine xL 7 (q_len tSl25_LeG) ?_
    <;> refine xL 8 (q_build tSt79_LeG) ?_
    <;> refine s_alloc [(.int .i64 0), (.slice none 0 0)] 2 3 tZr79_LeG fun h3 => ?_
    <;> refine s_sta 3 tAgg79_LeG ?_
    <;> refine aL_end (nav ?_) <;> try dsimp only)
  (refine aC_region ?_
    <;> refine xL 4 q_assign ?_
    <;> refine aL_end (nav ?_) <;> try dsimp only)
  refine aC_ent (nilOwn 200 85 2 rfl) fun _ => ?_
  refine aC_loop (ι := { x : Nat × Value // x.1 ≤ g.follows.length ∧ x.2.oneCell' = true }) (fun k => ⟨[(1, _, _), (2, _, _), (3, _, _), (4, .int .i64 k.1.1, pInt k.1.1)], [(1, _, _), (2, _, _), (3, h3, .own 79 2 1 [pInt (g.acts.length : Nat), .val k.1.2]), (200, k.1.2, .own 85 2 (edgeL (cnames g.acts) (g.follows.take k.1.1)).length ((edgeL (cnames g.acts) (g.follows.take k.1.1)).flatMap cPI))]⟩) (fun k => g.follows.length - k.1.1) ⟨(0, .slice none 0 0), Nat.zero_le _, rfl⟩ (fun a w H => H.weaken ⟨rfl, rfl, rfl, rfl, trivial⟩ ⟨rfl, rfl, rfl, rfl, trivial⟩) ?_
  rintro ⟨⟨k, hv⟩, hk, hvo⟩
  dsimp only
  dsimp only at hk hvo
  have hel : (edgeL (cnames g.acts) (g.follows.take k)).length ≤ 1600 := by unfold edgeL; rw [List.length_map, List.length_take]; omega
  refine nav ?_
  (refine aC_region ?_
    <;> refine xL 9 q_move ?_
    <;> refine xL 10 (q_fldo 1 tFl28_3_LeG) ?_
    <;> (refine yL 11 (q_ldo 1 tNa26_LeG) fun v11 hv11 => ?_; cases hv11)
    <;> refine xL 12 (q_len tSl26_LeG) ?_
    <;> refine xL 13 q_lss ?_
    <;> refine aL_end (nav ?_) <;> try dsimp only)
  first | refine cCd (fun hb13 => ?_) (fun hb13 => ?_) | refine cC (fun hb13 => ?_) (fun hb13 => ?_)
  · first
    | exact Bool.noConfusion hb13
    | (
     obtain ⟨x, hx⟩ := get_some (show k < g.follows.length by omega)
     have e1 : (g.follows.flatMap cFlw)[k * 3 + 0]? = some (pStr x.src) := flat_at cFlw_len hx (by decide)
     have e2 : (g.follows.flatMap cFlw)[k * 3 + 1]? = some (pStr x.dst) := flat_at cFlw_len hx (by decide)
     have hxa := (hG.fl x (List.mem_of_getElem? hx)).1
     have hxb := (hG.fl x (List.mem_of_getElem? hx)).2
     have hia := hG.ix hxa
     have hib := hG.ix hxb
     refine nav ?_
     (refine aC_draw (fun i => ([26] : List Nat).elem i) [1, 3] (by kernel_rfl) ?_
       <;> refine xD 0 16 rfl (q_fldo 3 tFl79_1_LeG) ?_
       <;> (refine yD 1 17 rfl (q_ldo 3 tNa77_LeG) fun v17 hv17 => ?_; cases hv17)
       <;> refine xD 2 18 rfl (q_fldo 1 tFl28_0_LeG) ?_
       <;> (refine yD 3 19 rfl (q_ldo 1 tNa25_LeG) fun v19 hv19 => ?_; cases hv19)
       <;> refine xD 5 21 rfl (q_fldo 1 tFl28_3_LeG) ?_
       <;> (refine yD 6 22 rfl (q_ldo 1 tNa26_LeG) fun v22 hv22 => ?_; cases hv22)
       <;> refine xD 7 23 rfl q_move ?_
       <;> refine xD 8 24 rfl (q_idxN tSl26_LeG) ?_
       <;> refine xD 9 25 rfl (q_fld tFl47_0_LeG) ?_
       <;> (refine yD 10 26 rfl (q_ld tNa9_LeG) fun v26 hv26 => ?_; cases hv26)
       <;> refine xD 12 28 rfl (q_fldo 1 tFl28_0_LeG) ?_
       <;> (refine yD 13 29 rfl (q_ldo 1 tNa25_LeG) fun v29 hv29 => ?_; cases hv29)
       <;> refine xD 15 31 rfl (q_fldo 1 tFl28_3_LeG) ?_
       <;> (refine yD 16 32 rfl (q_ldo 1 tNa26_LeG) fun v32 hv32 => ?_; cases hv32)
       <;> refine xD 17 33 rfl q_move ?_
       <;> refine xD 18 34 rfl (q_idxN tSl26_LeG) ?_
       <;> refine xD 19 35 rfl (q_fld tFl47_1_LeG) ?_
       <;> (refine yD 20 36 rfl (q_ld tNa9_LeG) fun v36 hv36 => ?_; cases hv36)
       <;> (refine aD_one 4 (by kernel_rfl) ?_)
       <;> (refine aW_call (d := 20) rfl (cA Tryz.call86 (r17names_e g.acts (by omega))) fun v20 hv20 => ?_; cases hv20)
       <;> (refine aD_one 11 (by kernel_rfl) ?_)
       <;> (refine aW_call (d := 27) rfl (cA Tryz.call89 (rIxN_e (cnames g.acts) x.src hxa)) fun v27 hv27 => ?_; cases hv27)
       <;> (refine aD_one 14 (by kernel_rfl) ?_)
       <;> (refine aW_call (d := 30) rfl (cA Tryz.call86 (r17names_e g.acts (by omega))) fun v30 hv30 => ?_; cases hv30)
       <;> (refine aD_one 21 (by kernel_rfl) ?_)
       <;> (refine aW_call (d := 37) rfl (cA Tryz.call89 (rIxN_e (cnames g.acts) x.dst hxb)) fun v37 hv37 => ?_; cases hv37)
       <;> refine xE 22 38 rfl (q_build2 tAr85_LeG tZr85_LeG) ?_
       <;> (refine aD_one 23 (by kernel_rfl) ?_)
       <;> (refine aW_run rfl fun w9 M9 N9 DQ back => ?_)
       <;> refine s_lit1a 39 tEl77_LeG fun h39 ho39 => ?_
       <;> refine aL_end (back _ (nrm ?_))
       <;> (refine aD_one 24 (by kernel_rfl) ?_)
       <;> (refine aW_run rfl fun w9 M9 N9 DQ back => ?_)
       <;> refine s_app 200 39 40 tEl77_LeG fun h40 ho40 => ?_
       <;> refine aL_end (back _ (nrm ?_))
       <;> refine xE 25 41 rfl (q_fldo 3 tFl79_1_LeG) ?_
       <;> (refine aD_one 26 (by kernel_rfl) ?_)
       <;> (refine aW_last rfl rfl (by kernel_rfl) fun DQ back => ?_)
       <;> refine s_st 3 tNa77_LeG tSz77_LeG ?_
       <;> refine aL_end (back _ (nav ?_))
       <;> try dsimp only)
     (refine aC_region ?_
       <;> refine xL 14 q_move ?_
       <;> refine xL 15 q_add ?_
       <;> refine xL 4 q_assign ?_
       <;> refine aL_end (nav ?_) <;> try dsimp only)
     refine aN_ent (relabel (l := 40) 200 rfl rfl) fun _ => ?_
     refine aN_ent (recast (l := 200) (p' := .own 85 2 (edgeL (cnames g.acts) (g.follows.take (k + 1))).length ((edgeL (cnames g.acts) (g.follows.take (k + 1))).flatMap cPI)) rfl (by rw [edgeL_step hx]; exact snoc_pis _ _ (ixN (cnames g.acts) x.src, ixN (cnames g.acts) x.dst))) fun _ => ?_
     refine aN_again (
       ⟨(k + 1, h40), lt_of_get hx, ho40⟩
       ) (by dsimp only; omega) ⟨rfl, rfl, rfl, rfl, trivial⟩ ⟨rfl, rfl, rfl, rfl, trivial⟩)
  · first
    | exact Bool.noConfusion hb13
    | (
     have hkE : k = g.follows.length := by omega
     subst hkE
     rw [List.take_length]
     refine aC_ent (freezeCell (l := 3) (l' := 200) (j := 1) rfl rfl rfl rfl) fun _ => ?_
     rw [share_pis _ _ _ rfl]
     dsimp only [List.set]
     refine nav ?_
     (refine aC_region ?_
       <;> (refine yL 42 (q_ldao 3 tAgg79_LeG) fun v42 hv42 => ?_; cases hv42)
       <;> refine s_sta 2 tAgg79_LeG ?_
       <;> refine aL_end (nav ?_) <;> try dsimp only)
     exact ret_cell (k := 2) 2 (by kernel_rfl) (Tryz.results41) rfl rfl (Nat.le_of_ble_eq_true rfl) (by decide) rfl rfl)
theorem flat_pi {l : List (Nat × Nat)} {k : Nat} {p : Nat × Nat} (h : l[k]? = some p) : (l.flatMap cPI)[k * 2 + 0]? = some (pInt (p.1 : Nat)) ∧ (l.flatMap cPI)[k * 2 + 1]? = some (pInt (p.2 : Nat)) := ⟨flat_at (f := cPI) cPI_len h (by decide), flat_at (f := cPI) cPI_len h (by decide)⟩
def edgeM (p : Nat × Nat) : Mv := ⟨((p.1 : Nat) : Int) + 1, ((p.2 : Nat) : Int) + 1, (p.2 : Nat)⟩
theorem edgeMs (acts : List ByteArray) (l : List Flw) : (edgeL acts l).map edgeM = flMs acts l := by
  unfold edgeL flMs
  rw [List.map_map]; rfl
def edMs (l : List (Nat × Nat)) : List Mv := l.map edgeM
theorem edMs_step {l : List (Nat × Nat)} {k : Nat} {x : Nat × Nat} (h : l[k]? = some x) : edMs (l.take (k + 1)) = edMs (l.take k) ++ [edgeM x] := by
  unfold edMs; rw [take_snoc h, List.map_append]; rfl
set_option maxHeartbeats 4000000 in
theorem r17Auto_e (g : Dfg) (hG : GOk g) : AF Tryz.prog 43 [pDfg g] (· = pAut (autG g)) := by
  have h40 := hG.n40
  have hfl := hG.flen
  have hsl := cnt_few hG hG.st hG.stA
  have hel := cnt_few hG hG.en hG.enA
  have hna : (cnames g.acts).length = g.acts.length := by simp [cnames]
  have hEl : (edgeL (cnames g.acts) g.follows).length = g.follows.length := by unfold edgeL; rw [List.length_map]
  refine AF.of_body 98 Tryz.func43 rfl Tryz.ntmps43 (Nat.le_of_ble_eq_true rfl) ?_
  intro w0 M0 vs hl hv
  obtain ⟨v0, rfl⟩ := len1 hl
  clear hl hv
  refine nav ?_
  (refine aC_region ?_
    <;> refine s_boxa 1 4 fun h1 => ?_
    <;> refine s_alloc [(.int .i64 0), (.int .i64 0), (.slice none 0 0), (.slice none 0 0), (.slice none 0 0)] 5 2 tZr66_LeG fun h2 => ?_
    <;> refine aL_end (nav ?_) <;> try dsimp only)
  (refine aC_region ?_
    <;> refine xL 10 (q_fldo 1 tFl28_0_LeG) ?_
    <;> (refine yL 11 (q_ldo 1 tNa25_LeG) fun v11 hv11 => ?_; cases hv11)
    <;> (refine cS 12 (cA Tryz.call86 (r17names_e g.acts (by omega))) fun v12 hv12 => ?_; cases hv12)
    <;> refine xL 3 q_assign ?_
    <;> refine aL_end (nav ?_) <;> try dsimp only)
  (refine aC_region ?_
    <;> refine xL 13 q_move ?_
    <;> refine xL 14 (q_len tSl51_LeG) ?_
    <;> refine xL 15 q_add ?_
    <;> refine xL 16 q_move ?_
    <;> refine xL 17 (q_len tSl51_LeG) ?_
    <;> (refine s_lit1 (kk := 1) 18 tEl63_LeG fun h18 ho18 => ?_; refine aL_ent (En.freeze (l := 18) (t := 18) rfl rfl) fun _ => ?_; rw [show share (PV.own 3 1 1 [.val (.int .i64 0)]) = pInts [0] from rfl])
    <;> refine xL 19 (q_build tSt66_LeG) ?_
    <;> refine s_alloc [(.int .i64 0), (.int .i64 0), (.slice none 0 0), (.slice none 0 0), (.slice none 0 0)] 5 4 tZr66_LeG fun h4 => ?_
    <;> refine s_sta 4 tAgg66_LeG ?_
    <;> refine aL_end (nav ?_) <;> try dsimp only)
  (refine aC_region ?_
    <;> refine xL 5 q_assign ?_
    <;> refine aL_end (nav ?_) <;> try dsimp only)
  refine aC_ent (nilOwn 201 126 3 rfl) fun _ => ?_
  rw [hna]
  refine aC_loop (ι := { x : Nat × Value // x.1 ≤ g.starts.length ∧ x.2.oneCell' = true }) (fun k => ⟨[(1, _, _), (2, _, _), (3, _, _), (4, _, _), (5, .int .i64 k.1.1, pInt k.1.1)], [(1, _, _), (2, _, _), (4, h4, .own 66 5 1 [pInt ((g.acts.length : Nat) + 1), pInt (g.acts.length : Nat), pInts [0], .val (.slice none 0 0), .val k.1.2]), (201, k.1.2, .own 126 3 (stMs (cnames g.acts) (g.starts.take k.1.1)).length ((stMs (cnames g.acts) (g.starts.take k.1.1)).flatMap cMv))]⟩) (fun k => g.starts.length - k.1.1) ⟨(0, .slice none 0 0), Nat.zero_le _, rfl⟩ (fun a w H => H.weaken ⟨rfl, rfl, rfl, rfl, rfl, trivial⟩ ⟨rfl, rfl, rfl, rfl, trivial⟩) ?_
  rintro ⟨⟨k, hw⟩, hk, hwo⟩
  dsimp only
  dsimp only at hk hwo
  have hsl2 : (stMs (cnames g.acts) (g.starts.take k)).length ≤ 1000000 := by unfold stMs; rw [List.length_map, List.length_take]; omega
  refine nav ?_
  (refine aC_region ?_
    <;> refine xL 20 q_move ?_
    <;> refine xL 21 (q_fldo 1 tFl28_1_LeG) ?_
    <;> (refine yL 22 (q_ldo 1 tNa25_LeG) fun v22 hv22 => ?_; cases hv22)
    <;> refine xL 23 (q_len tSl25_LeG) ?_
    <;> refine xL 24 q_lss ?_
    <;> refine aL_end (nav ?_) <;> try dsimp only)
  first | refine cCd (fun hb24 => ?_) (fun hb24 => ?_) | refine cC (fun hb24 => ?_) (fun hb24 => ?_)
  · first
    | exact Bool.noConfusion hb24
    | (
     obtain ⟨x, hx⟩ := get_some (show k < g.starts.length by omega)
     have e1 : (g.starts.flatMap cCnt)[k * 2 + 0]? = some (pStr x.name) := flat_at cCnt_len hx (by decide)
     have hxa := hG.st x (List.mem_of_getElem? hx)
     have hxi := (ixN_of hxa).2
     refine nav ?_
     (refine aC_region ?_
       <;> refine xL 27 q_move ?_
       <;> refine xL 28 (q_fldo 1 tFl28_1_LeG) ?_
       <;> (refine yL 29 (q_ldo 1 tNa25_LeG) fun v29 hv29 => ?_; cases hv29)
       <;> refine xL 30 q_move ?_
       <;> refine xL 31 (q_idxN tSl25_LeG) ?_
       <;> refine xL 32 (q_fld tFl44_0_LeG) ?_
       <;> (refine yL 33 (q_ld tNa9_LeG) fun v33 hv33 => ?_; cases hv33)
       <;> (refine cS 34 (cA Tryz.call89 (rIxN_e (cnames g.acts) x.name hxa)) fun v34 hv34 => ?_; cases hv34)
       <;> refine xL 6 q_assign ?_
       <;> refine aL_end (nav ?_) <;> try dsimp only)
     (refine aC_region ?_
       <;> refine xL 35 (q_fldo 4 tFl66_4_LeG) ?_
       <;> (refine yL 36 (q_ldo 4 tNa64_LeG) fun v36 hv36 => ?_; cases hv36)
       <;> refine xL 37 q_move ?_
       <;> refine xL 38 q_add ?_
       <;> refine xL 39 q_move ?_
       <;> refine xL 40 (q_build tSt126_LeG) ?_
       <;> refine s_lit1a 41 tEl64_LeG fun h41 ho41 => ?_
       <;> refine s_app 201 41 42 tEl64_LeG fun h42 ho42 => ?_
       <;> refine xL 43 (q_fldo 4 tFl66_4_LeG) ?_
       <;> refine s_st 4 tNa64_LeG tSz64_LeG ?_
       <;> refine aL_end (nav ?_) <;> try dsimp only)
     (refine aC_region ?_
       <;> refine xL 25 q_move ?_
       <;> refine xL 26 q_add ?_
       <;> refine xL 5 q_assign ?_
       <;> refine aL_end (nav ?_) <;> try dsimp only)
     refine aN_ent (relabel (l := 42) 201 rfl rfl) fun _ => ?_
     refine aN_ent (recast (l := 201) (p' := .own 126 3 (stMs (cnames g.acts) (g.starts.take (k + 1))).length ((stMs (cnames g.acts) (g.starts.take (k + 1))).flatMap cMv)) rfl (by rw [stMs_step hx]; exact snoc_mvs _ _ (moveS (cnames g.acts) x))) fun _ => ?_
     refine aN_again (
       ⟨(k + 1, h42), lt_of_get hx, ho42⟩
       ) (by dsimp only; omega) ⟨rfl, rfl, rfl, rfl, rfl, trivial⟩ ⟨rfl, rfl, rfl, rfl, trivial⟩)
  · first
    | exact Bool.noConfusion hb24
    | (
     have hkE : k = g.starts.length := by omega
     subst hkE
     rw [List.take_length]
     refine nav ?_
     (refine aC_region ?_
       <;> refine xL 7 q_assign ?_
       <;> refine aL_end (nav ?_) <;> try dsimp only)
     refine aC_ent (nilOwn 200 3 1 rfl) fun _ => ?_
     refine aC_loop (ι := { x : Nat × Value // x.1 ≤ g.ends.length ∧ x.2.oneCell' = true }) (fun k => ⟨[(1, _, _), (2, _, _), (3, _, _), (4, _, _), (7, .int .i64 k.1.1, pInt k.1.1)], [(1, _, _), (2, _, _), (201, _, _), (4, h4, .own 66 5 1 [pInt ((g.acts.length : Nat) + 1), pInt (g.acts.length : Nat), pInts [0], .val k.1.2, .val hw]), (200, k.1.2, .own 3 1 (finEs (cnames g.acts) (g.ends.take k.1.1)).length ((finEs (cnames g.acts) (g.ends.take k.1.1)).map pInt))]⟩) (fun k => g.ends.length - k.1.1) ⟨(0, .slice none 0 0), Nat.zero_le _, rfl⟩ (fun a w H => H.weaken ⟨rfl, rfl, rfl, rfl, rfl, trivial⟩ ⟨rfl, rfl, rfl, rfl, rfl, trivial⟩) ?_
     rintro ⟨⟨k2, hv⟩, hk2, hvo⟩
     dsimp only
     dsimp only at hk2 hvo
     have hfe : (finEs (cnames g.acts) (g.ends.take k2)).length ≤ 1000000 := by unfold finEs; rw [List.length_map, List.length_take]; omega
     refine nav ?_
     (refine aC_region ?_
       <;> refine xL 44 q_move ?_
       <;> refine xL 45 (q_fldo 1 tFl28_2_LeG) ?_
       <;> (refine yL 46 (q_ldo 1 tNa25_LeG) fun v46 hv46 => ?_; cases hv46)
       <;> refine xL 47 (q_len tSl25_LeG) ?_
       <;> refine xL 48 q_lss ?_
       <;> refine aL_end (nav ?_) <;> try dsimp only)
     first | refine cCd (fun hb48 => ?_) (fun hb48 => ?_) | refine cC (fun hb48 => ?_) (fun hb48 => ?_)
     · first
       | exact Bool.noConfusion hb48
       | (
        obtain ⟨x, hx⟩ := get_some (show k2 < g.ends.length by omega)
        have e1 : (g.ends.flatMap cCnt)[k2 * 2 + 0]? = some (pStr x.name) := flat_at cCnt_len hx (by decide)
        have hxa := hG.en x (List.mem_of_getElem? hx)
        have hxi := (ixN_of hxa).2
        refine nav ?_
        (refine aC_draw (fun i => ([14] : List Nat).elem i) [1, 4] (by kernel_rfl) ?_
          <;> refine xD 0 51 rfl (q_fldo 4 tFl66_3_LeG) ?_
          <;> (refine yD 1 52 rfl (q_ldo 4 tNa63_LeG) fun v52 hv52 => ?_; cases hv52)
          <;> refine xD 2 53 rfl q_move ?_
          <;> refine xD 3 54 rfl (q_fldo 1 tFl28_2_LeG) ?_
          <;> (refine yD 4 55 rfl (q_ldo 1 tNa25_LeG) fun v55 hv55 => ?_; cases hv55)
          <;> refine xE 5 56 rfl q_move ?_
          <;> refine xE 6 57 rfl (q_idxN tSl25_LeG) ?_
          <;> refine xE 7 58 rfl (q_fld tFl44_0_LeG) ?_
          <;> (refine yE 8 59 rfl (q_ld tNa9_LeG) fun v59 hv59 => ?_; cases hv59)
          <;> (refine aD_one 9 (by kernel_rfl) ?_)
          <;> (refine aW_call (d := 60) rfl (cA Tryz.call89 (rIxN_e (cnames g.acts) x.name hxa)) fun v60 hv60 => ?_; cases hv60)
          <;> refine xE 10 61 rfl q_add ?_
          <;> (refine aD_one 11 (by kernel_rfl) ?_)
          <;> (refine aW_run rfl fun w9 M9 N9 DQ back => ?_)
          <;> refine s_lit1 (kk := 1) 62 tEl63_LeG fun h62 ho62 => ?_
          <;> refine aL_end (back _ (nrm ?_))
          <;> (refine aD_one 12 (by kernel_rfl) ?_)
          <;> (refine aW_run rfl fun w9 M9 N9 DQ back => ?_)
          <;> refine s_app 200 62 63 tEl63_LeG fun h63 ho63 => ?_
          <;> refine aL_end (back _ (nrm ?_))
          <;> refine xE 13 64 rfl (q_fldo 4 tFl66_3_LeG) ?_
          <;> (refine aD_one 14 (by kernel_rfl) ?_)
          <;> (refine aW_last rfl rfl (by kernel_rfl) fun DQ back => ?_)
          <;> refine s_st 4 tNa63_LeG tSz63_LeG ?_
          <;> refine aL_end (back _ (nav ?_))
          <;> try dsimp only)
        (refine aC_region ?_
          <;> refine xL 49 q_move ?_
          <;> refine xL 50 q_add ?_
          <;> refine xL 7 q_assign ?_
          <;> refine aL_end (nav ?_) <;> try dsimp only)
        refine aN_ent (relabel (l := 63) 200 rfl rfl) fun _ => ?_
        refine aN_ent (recast (l := 200) (p' := .own 3 1 (finEs (cnames g.acts) (g.ends.take (k2 + 1))).length ((finEs (cnames g.acts) (g.ends.take (k2 + 1))).map pInt)) rfl (by rw [finEs_step hx]; exact own_snoc _ _ _)) fun _ => ?_
        refine aN_again (
          ⟨(k2 + 1, h63), lt_of_get hx, ho63⟩
          ) (by dsimp only; omega) ⟨rfl, rfl, rfl, rfl, rfl, trivial⟩ ⟨rfl, rfl, rfl, rfl, rfl, trivial⟩)
     · first
       | exact Bool.noConfusion hb48
       | (
        have hkE2 : k2 = g.ends.length := by omega
        subst hkE2
        rw [List.take_length]
        refine nav ?_
        (refine aC_region ?_
          <;> (refine yL 65 (q_ldao 1 tAgg28_LeG) fun v65 hv65 => ?_; cases hv65)
          <;> (refine cD 66 (cA Tryz.call41 (r17Graph_e g hG)) fun v66 hv66 => ?_; clear hv66)
          <;> (refine yL 67 (q_fieldv tFv79_1_LeG) fun v67 hv67 => ?_; cases hv67)
          <;> refine xL 8 q_assign ?_
          <;> refine aL_end (nav ?_) <;> try dsimp only)
        rw [show stMs (cnames g.acts) g.starts = stMs (cnames g.acts) g.starts ++ edMs ((edgeL (cnames g.acts) g.follows).take 0) from (List.append_nil _).symm]
        obtain ⟨E, hE⟩ : ∃ E, E = edgeL (cnames g.acts) g.follows := ⟨_, rfl⟩
        rw [← hE] at hEl ⊢
        (refine aC_region ?_
          <;> refine xL 9 q_assign ?_
          <;> refine aL_end (nav ?_) <;> try dsimp only)
        refine aC_loop (ι := { x : Nat × Value // x.1 ≤ E.length ∧ x.2.oneCell' = true }) (fun k => ⟨[(1, _, _), (2, _, _), (3, _, _), (4, _, _), (8, _, _), (9, .int .i64 k.1.1, pInt k.1.1)], [(1, _, _), (2, _, _), (200, _, _), (4, h4, .own 66 5 1 [pInt ((g.acts.length : Nat) + 1), pInt (g.acts.length : Nat), pInts [0], .val hv, .val k.1.2]), (201, k.1.2, .own 126 3 (stMs (cnames g.acts) g.starts ++ edMs (E.take k.1.1)).length ((stMs (cnames g.acts) g.starts ++ edMs (E.take k.1.1)).flatMap cMv))]⟩) (fun k => E.length - k.1.1) ⟨(0, hw), Nat.zero_le _, hwo⟩ (fun a w H => H.weaken ⟨rfl, rfl, rfl, rfl, rfl, rfl, trivial⟩ ⟨rfl, rfl, rfl, rfl, rfl, trivial⟩) ?_
        rintro ⟨⟨k3, hz⟩, hk3, hzo⟩
        dsimp only
        dsimp only at hk3 hzo
        have hql : (stMs (cnames g.acts) g.starts ++ edMs (E.take k3)).length ≤ 2000000 := by unfold stMs edMs; rw [List.length_append, List.length_map, List.length_map, List.length_take]; omega
        refine nav ?_
        (refine aC_region ?_
          <;> refine xL 68 q_move ?_
          <;> refine xL 69 q_move ?_
          <;> refine xL 70 (q_len tSl77_LeG) ?_
          <;> refine xL 71 q_lss ?_
          <;> refine aL_end (nav ?_) <;> try dsimp only)
        first | refine cCd (fun hb71 => ?_) (fun hb71 => ?_) | refine cC (fun hb71 => ?_) (fun hb71 => ?_)
        · first
          | exact Bool.noConfusion hb71
          | (
           obtain ⟨x, hx⟩ := get_some (show k3 < E.length by omega)
           have e1 := (flat_pi hx).1
           have e2 := (flat_pi hx).2
           have hxm : x ∈ edgeL (cnames g.acts) g.follows := hE ▸ List.mem_of_getElem? hx
           have hxb : x.1 < g.acts.length ∧ x.2 < g.acts.length := by
             unfold edgeL at hxm
             obtain ⟨f, hf, rfl⟩ := List.mem_map.1 hxm
             exact ⟨hG.ix (hG.fl f hf).1, hG.ix (hG.fl f hf).2⟩
           refine nav ?_
           (refine aC_draw (fun i => ([23] : List Nat).elem i) [4] (by kernel_rfl) ?_
             <;> refine xD 0 74 rfl (q_fldo 4 tFl66_4_LeG) ?_
             <;> (refine yD 1 75 rfl (q_ldo 4 tNa64_LeG) fun v75 hv75 => ?_; cases hv75)
             <;> refine xD 2 76 rfl q_move ?_
             <;> refine xD 3 77 rfl q_move ?_
             <;> refine xD 4 78 rfl (q_idxN tSl77_LeG) ?_
             <;> refine xD 5 79 rfl (q_idxas (i := 0) tAr85_LeG) ?_
             <;> (refine yD 6 80 rfl (q_ld tNa3_LeG) fun v80 hv80 => ?_; cases hv80)
             <;> refine xD 7 81 rfl q_add ?_
             <;> refine xD 8 82 rfl q_move ?_
             <;> refine xD 9 83 rfl q_move ?_
             <;> refine xD 10 84 rfl (q_idxN tSl77_LeG) ?_
             <;> refine xD 11 85 rfl (q_idxas (i := 1) tAr85_LeG) ?_
             <;> (refine yD 12 86 rfl (q_ld tNa3_LeG) fun v86 hv86 => ?_; cases hv86)
             <;> refine xD 13 87 rfl q_add ?_
             <;> refine xD 14 88 rfl q_move ?_
             <;> refine xE 15 89 rfl q_move ?_
             <;> refine xE 16 90 rfl (q_idxN tSl77_LeG) ?_
             <;> refine xE 17 91 rfl (q_idxas (i := 1) tAr85_LeG) ?_
             <;> (refine yE 18 92 rfl (q_ld tNa3_LeG) fun v92 hv92 => ?_; cases hv92)
             <;> refine xE 19 93 rfl (q_build tSt126_LeG) ?_
             <;> (refine aD_one 20 (by kernel_rfl) ?_)
             <;> (refine aW_run rfl fun w9 M9 N9 DQ back => ?_)
             <;> refine s_lit1a 94 tEl64_LeG fun h94 ho94 => ?_
             <;> refine aL_end (back _ (nrm ?_))
             <;> (refine aD_one 21 (by kernel_rfl) ?_)
             <;> (refine aW_run rfl fun w9 M9 N9 DQ back => ?_)
             <;> refine s_app 201 94 95 tEl64_LeG fun h95 ho95 => ?_
             <;> refine aL_end (back _ (nrm ?_))
             <;> refine xE 22 96 rfl (q_fldo 4 tFl66_4_LeG) ?_
             <;> (refine aD_one 23 (by kernel_rfl) ?_)
             <;> (refine aW_last rfl rfl (by kernel_rfl) fun DQ back => ?_)
             <;> refine s_st 4 tNa64_LeG tSz64_LeG ?_
             <;> refine aL_end (back _ (nav ?_))
             <;> try dsimp only)
           (refine aC_region ?_
             <;> refine xL 72 q_move ?_
             <;> refine xL 73 q_add ?_
             <;> refine xL 9 q_assign ?_
             <;> refine aL_end (nav ?_) <;> try dsimp only)
           refine aN_ent (relabel (l := 95) 201 rfl rfl) fun _ => ?_
           refine aN_ent (recast (l := 201) (p' := .own 126 3 (stMs (cnames g.acts) g.starts ++ edMs (E.take (k3 + 1))).length ((stMs (cnames g.acts) g.starts ++ edMs (E.take (k3 + 1))).flatMap cMv)) rfl (by rw [edMs_step hx, ← List.append_assoc]; exact snoc_mvs _ _ (edgeM x))) fun _ => ?_
           refine aN_again (
             ⟨(k3 + 1, h95), lt_of_get hx, ho95⟩
             ) (by dsimp only; omega) ⟨rfl, rfl, rfl, rfl, rfl, rfl, trivial⟩ ⟨rfl, rfl, rfl, rfl, rfl, trivial⟩)
        · first
          | exact Bool.noConfusion hb71
          | (
           have hkE3 : k3 = E.length := by omega
           subst hkE3
           rw [List.take_length]
           refine aC_ent (freezeCell (l := 4) (l' := 200) (j := 3) rfl rfl rfl rfl) fun _ => ?_
           refine aC_ent (freezeCell (l := 4) (l' := 201) (j := 4) rfl rfl rfl rfl) fun _ => ?_
           rw [share_ints _ _ _ rfl, show share (PV.own 126 3 (stMs (cnames g.acts) g.starts ++ edMs E).length ((stMs (cnames g.acts) g.starts ++ edMs E).flatMap cMv)) = pMvs (autG g).moves by rw [hE]; unfold edMs; rw [edgeMs]; exact share_mvs _ _]
           dsimp only [List.set]
           refine nav ?_
           (refine aC_region ?_
             <;> (refine yL 97 (q_ldao 4 tAgg66_LeG) fun v97 hv97 => ?_; cases hv97)
             <;> refine s_sta 2 tAgg66_LeG ?_
             <;> refine aL_end (nav ?_) <;> try dsimp only)
           exact ret_cell (k := 5) 2 (by kernel_rfl) (Tryz.results43) rfl rfl (Nat.le_of_ble_eq_true rfl) (by decide) rfl rfl)))
end Go.Proofs.YtebcjijpdhbcdaaGreat
