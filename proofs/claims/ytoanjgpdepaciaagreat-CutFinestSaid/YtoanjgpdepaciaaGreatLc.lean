/-
  Walks: the relation of a graph (package cut): squares, of, at, reach.
  Walks: reach, loops, fits, begin (package cut).
  Walks: cut.Valid.
-/
import Derived.Test.YtoanjgpdepaciaaGreatLa
import Derived.Test.YtoanjgpdepaciaaGreatLp
import Derived.Test.YtoanjgpdepaciaaGreatEa
namespace Go.Proofs.YtoanjgpdepaciaaGreat
open Go.RowKit Go.Cb Go.En
set_option linter.all false
set_option maxRecDepth 100000

theorem tAgg62_LbE : AggT Tryz.prog 62 2 = true := by kernel_rfl
theorem tAgg68_LbE : AggT Tryz.prog 68 3 = true := by kernel_rfl
theorem tEl36_LbE : ElT Tryz.prog 36 9 1 16 (.string ByteArray.empty) := ⟨Tryz.underlying36, by kernel_rfl, rfl, by decide⟩
theorem tEl77_LbE : ElT Tryz.prog 77 78 1 24 (.slice none 0 0) := ⟨Tryz.underlying77, by kernel_rfl, rfl, by decide⟩
theorem tEl78_LbE : ElT Tryz.prog 78 4 1 1 (.bool false) := ⟨Tryz.underlying78, by kernel_rfl, rfl, by decide⟩
theorem tFl25_0_LbE : FldT Tryz.prog 25 0 0 = true := by kernel_rfl
theorem tFl25_1_LbE : FldT Tryz.prog 25 1 1 = true := by kernel_rfl
theorem tFl25_2_LbE : FldT Tryz.prog 25 2 2 = true := by kernel_rfl
theorem tFl25_3_LbE : FldT Tryz.prog 25 3 3 = true := by kernel_rfl
theorem tFl62_0_LbE : FldT Tryz.prog 62 0 0 = true := by kernel_rfl
theorem tFl68_0_LbE : FldT Tryz.prog 68 0 0 = true := by kernel_rfl
theorem tFl68_1_LbE : FldT Tryz.prog 68 1 1 = true := by kernel_rfl
theorem tFl80_0_LbE : FldT Tryz.prog 80 0 0 = true := by kernel_rfl
theorem tFl80_1_LbE : FldT Tryz.prog 80 1 1 = true := by kernel_rfl
theorem tFl80_2_LbE : FldT Tryz.prog 80 2 2 = true := by kernel_rfl
theorem tFl80_3_LbE : FldT Tryz.prog 80 3 3 = true := by kernel_rfl
theorem tNa22_LbE : NoAgg Tryz.prog 22 = true := by kernel_rfl
theorem tNa23_LbE : NoAgg Tryz.prog 23 = true := by kernel_rfl
theorem tNa36_LbE : NoAgg Tryz.prog 36 = true := by kernel_rfl
theorem tNa4_LbE : NoAgg Tryz.prog 4 = true := by kernel_rfl
theorem tNa77_LbE : NoAgg Tryz.prog 77 = true := by kernel_rfl
theorem tNa78_LbE : NoAgg Tryz.prog 78 = true := by kernel_rfl
theorem tNa9_LbE : NoAgg Tryz.prog 9 = true := by kernel_rfl
theorem tSl22_LbE : SlT Tryz.prog 22 62 2 = true := by kernel_rfl
theorem tSl23_LbE : SlT Tryz.prog 23 68 3 = true := by kernel_rfl
theorem tSl77_LbE : SlT Tryz.prog 77 78 1 = true := by kernel_rfl
theorem tSl78_LbE : SlT Tryz.prog 78 4 1 = true := by kernel_rfl
theorem tSt80_LbE : stInfo Tryz.prog 80 = some ((.agg #[(.slice none 0 0), (.slice none 0 0), (.slice none 0 0), (.slice none 0 0)]), ([0, 1, 2, 3] : List Nat).map fun o => (o, 1)) := by kernel_rfl
theorem tSz36_LbE : (Tryz.prog.info? 36).map (·.size) = some 1 := by kernel_rfl
theorem tSz4_LbE : (Tryz.prog.info? 4).map (·.size) = some 1 := by kernel_rfl
theorem tSz78_LbE : (Tryz.prog.info? 78).map (·.size) = some 1 := by kernel_rfl
theorem tZr62_LbE : ZeroT Tryz.prog 62 (.agg #[(.string ByteArray.empty), (.int .i64 0)]) := by unfold ZeroT; kernel_rfl
theorem tZr68_LbE : ZeroT Tryz.prog 68 (.agg #[(.string ByteArray.empty), (.string ByteArray.empty), (.int .i64 0)]) := by unfold ZeroT; kernel_rfl

theorem vec_fill {α : Type} {n k : Nat} (p z q : α) : ((vec n fun i => if i < k then p else z).set k q).set k p = vec n fun i => if i < k + 1 then p else z := by
  rw [vec_set, vec_set]
  refine vec_congr fun i hi => ?_
  by_cases e : i = k
  · subst e; rw [if_pos rfl, if_pos (by omega)]
  · rw [if_neg e, if_neg e]
    by_cases h : i < k
    · rw [if_pos h, if_pos (by omega)]
    · rw [if_neg h, if_neg (by omega)]
theorem cSquare_e (n : Nat) (hn : n ≤ 1000000) : AF Tryz.prog 104 [pInt n] (· = oMat 78 4 n (fun _ _ => false)) := by
  refine AF.of_body 19 Tryz.func104 rfl Tryz.ntmps104 (Nat.le_of_ble_eq_true rfl) ?_
  intro w0 M0 vs hl hv
  obtain ⟨v0, rfl⟩ := len1 hl
  obtain rfl := hv 0 _ _ rfl rfl
  clear hl hv
  refine nav ?_
  (refine aC_region ?_
    <;> refine xL 2 q_assign ?_
    <;> refine aL_end (nav ?_) <;> try dsimp only)
  (refine aC_region ?_
    <;> refine xL 5 q_move ?_
    <;> refine s_make 6 tEl77_LbE fun h6 ho6 => ?_
    <;> refine xL 3 q_assign ?_
    <;> refine aL_end (nav ?_) <;> try dsimp only)
  (refine aC_region ?_
    <;> refine xL 7 q_move ?_
    <;> refine xL 8 (q_leno 6 tSl77_LbE) ?_
    <;> refine xL 9 q_move ?_
    <;> refine aL_end (nav ?_) <;> try dsimp only)
  rw [show List.replicate n (PV.val (.slice none 0 0)) = vec n (fun i => if i < 0 then oBools 4 n (fun _ => false) else .val (.slice none 0 0)) by rw [vec_const]; exact vec_congr fun i _ => by rw [if_neg (by omega)]]
  refine aC_loop (ι := { k : Nat // k ≤ n }) (fun k => ⟨[(0, _, _), (3, _, _), (8, _, _), (9, .int .i64 k.1, pInt k.1)], [(6, h6, .own 78 1 n (vec n fun i => if i < k.1 then oBools 4 n (fun _ => false) else .val (.slice none 0 0)))]⟩) (fun k => n - k.1) ⟨0, by omega⟩ (fun a w H => H.weaken ⟨rfl, rfl, rfl, rfl, trivial⟩ ⟨rfl, trivial⟩) ?_
  rintro ⟨k, hk⟩
  dsimp only
  refine nav ?_
  (refine aC_region ?_
    <;> refine xL 10 q_lss ?_
    <;> refine aL_end (nav ?_) <;> try dsimp only)
  first | refine cCd (fun hb10 => ?_) (fun hb10 => ?_) | refine cC (fun hb10 => ?_) (fun hb10 => ?_)
  · first
    | exact Bool.noConfusion hb10
    | (
        have hlt : k < n := by omega
        have hl0 := vec_len n (fun i => if i < k then oBools 4 n (fun _ => false) else PV.val (.slice none 0 0))
        refine nav ?_
        (refine aC_region ?_
          <;> refine xL 11 q_move ?_
          <;> refine xL 4 q_assign ?_
          <;> refine aL_end (nav ?_) <;> try dsimp only)
        (refine aC_region ?_
          <;> refine xL 12 q_move ?_
          <;> refine xL 13 q_move ?_
          <;> refine xL 14 q_move ?_
          <;> refine s_make 15 tEl78_LbE fun h15 ho15 => ?_
          <;> refine xL 16 (q_idxoN 6 tSl77_LbE) ?_
          <;> refine s_stI 6 k tNa78_LbE tSz78_LbE ?_
          <;> refine aL_end (nav ?_) <;> try dsimp only)
        (refine aC_region ?_
          <;> refine xL 17 q_add ?_
          <;> refine xL 9 q_move ?_
          <;> refine aL_end (nav ?_) <;> try dsimp only)
        refine aN_ent (fold (l := 6) (l' := 15) (j := k) rfl (List.getElem?_set_self (by rw [vec_len]; omega)) rfl rfl) fun _ => ?_
        rw [show List.replicate n (PV.val (.bool false)) = vec n (fun _ => pBool false) from vec_const _ _, vec_fill]
        refine aN_again (
          ⟨k + 1, by omega⟩
          ) (by dsimp only; omega) ⟨rfl, rfl, rfl, rfl, trivial⟩ ⟨rfl, trivial⟩)
  · first
    | exact Bool.noConfusion hb10
    | (
        refine nav ?_
        (refine aC_region ?_
          <;> refine xL 18 q_move ?_
          <;> refine xL 2 q_assign ?_
          <;> refine aL_end (nav ?_) <;> try dsimp only)
        refine ret_own 6 (Tryz.results104) rfl rfl ?_
        obtain rfl : k = n := by omega
        show PV.own _ _ _ _ = PV.own _ _ _ _
        congr 1
        exact vec_congr fun i hi => by rw [if_pos hi])
/-! ### Places of names -/
def ixN (l : List ByteArray) (s : ByteArray) : Nat := (idx (fun x => strEq x s) l).toNat
theorem ixN_of {l : List ByteArray} {s : ByteArray} (h : hasStr l s = true) : idx (fun x => strEq x s) l = (ixN l s : Int) ∧ ixN l s < l.length := by
  have h1 := idx_bd (fun x => strEq x s) l
  have h2 : 0 ≤ idx (fun x => strEq x s) l := by
    have := idx_any (fun x => strEq x s) l
    rw [show l.any (fun x => strEq x s) = true from h] at this
    exact of_decide_eq_true this
  unfold ixN
  omega
theorem cAt_e (l : List ByteArray) (rest : List PV) (s : ByteArray) (h : hasStr l s = true) : AF Tryz.prog 132 [.sptr 0 (pStrs l :: rest), pStr s] (· = pInt (ixN l s : Nat)) := by
  refine AF.of_body 11 Tryz.func132 rfl Tryz.ntmps132 (Nat.le_of_ble_eq_true rfl) ?_
  intro w0 M0 vs hl hv
  obtain ⟨v0, v1, rfl⟩ := len2 hl
  obtain rfl := hv 1 _ _ rfl rfl
  clear hl hv
  refine nav ?_
  (refine aC_region ?_
    <;> refine xL 4 q_assign ?_
    <;> refine aL_end (nav ?_) <;> try dsimp only)
  (refine aC_region ?_
    <;> refine xL 5 q_move ?_
    <;> refine xL 6 q_nilp ?_
    <;> refine xL 7 (q_fld tFl80_0_LbE) ?_
    <;> (refine yL 8 (q_ld tNa36_LbE) fun v8 hv8 => ?_; cases hv8)
    <;> refine xL 9 q_move ?_
    <;> (refine cS 10 (cA Tryz.call59 (sIndexStr_e l s)) fun v10 hv10 => ?_; cases hv10)
    <;> refine xL 4 q_assign ?_
    <;> refine aL_end (nav ?_) <;> try dsimp only)
  refine ret_shr (Tryz.results132) rfl ?_
  rw [(ixN_of h).1]
def edgeF (acts : List ByteArray) (l : List Flw) (i j : Nat) : Bool := l.any fun f => ixN acts f.src == i && ixN acts f.dst == j
def markF (acts : List ByteArray) (l : List Cnt) (i : Nat) : Bool := l.any fun c => ixN acts c.name == i
theorem edgeF_snoc {acts : List ByteArray} {l : List Flw} {k : Nat} {f : Flw} (h : l[k]? = some f) (i j : Nat) : edgeF acts (l.take (k + 1)) i j = (edgeF acts (l.take k) i j || (ixN acts f.src == i && ixN acts f.dst == j)) := by
  unfold edgeF; rw [take_snoc h, List.any_append]; simp
theorem markF_snoc {acts : List ByteArray} {l : List Cnt} {k : Nat} {c : Cnt} (h : l[k]? = some c) (i : Nat) : markF acts (l.take (k + 1)) i = (markF acts (l.take k) i || (ixN acts c.name == i)) := by
  unfold markF; rw [take_snoc h, List.any_append]; simp
theorem edge_step {acts : List ByteArray} {l : List Flw} {k : Nat} {f : Flw} (h : l[k]? = some f) (i j : Nat) : edgeF acts (l.take (k + 1)) i j = if i = ixN acts f.src then (if j = ixN acts f.dst then true else edgeF acts (l.take k) (ixN acts f.src) j) else edgeF acts (l.take k) i j := by
  rw [edgeF_snoc h]
  generalize ixN acts f.src = a
  generalize ixN acts f.dst = b
  by_cases h1 : i = a
  · subst h1
    rw [if_pos rfl]
    by_cases h2 : j = b
    · subst h2; simp
    · rw [if_neg h2, show (b == j) = false from beq_eq_false_iff_ne.2 (Ne.symm h2)]; simp
  · rw [if_neg h1, show (a == i) = false from beq_eq_false_iff_ne.2 (Ne.symm h1)]; simp
theorem mark_step {acts : List ByteArray} {l : List Cnt} {k : Nat} {c : Cnt} (h : l[k]? = some c) (i : Nat) : markF acts (l.take (k + 1)) i = if i = ixN acts c.name then true else markF acts (l.take k) i := by
  rw [markF_snoc h]
  generalize ixN acts c.name = a
  by_cases h1 : i = a
  · subst h1; simp
  · rw [if_neg h1, show (a == i) = false from beq_eq_false_iff_ne.2 (Ne.symm h1)]; simp
def cRel (g : Dfg) : List PV := [pStrs (cnames g.acts), pMat g.acts.length (edgeF (cnames g.acts) g.follows), pBools g.acts.length (markF (cnames g.acts) g.starts), pBools g.acts.length (markF (cnames g.acts) g.ends)]
def pRel (g : Dfg) : PV := .sptr 0 (cRel g)
theorem dfg_parts {g : Dfg} (h : dfgOk g = true) : (cnames g.acts).length ≤ 40 ∧ (∀ c ∈ g.starts, hasStr (cnames g.acts) c.name = true) ∧ (∀ c ∈ g.ends, hasStr (cnames g.acts) c.name = true) ∧ (∀ f ∈ g.follows, hasStr (cnames g.acts) f.src = true ∧ hasStr (cnames g.acts) f.dst = true) := by
  unfold dfgOk alphaB ascB at h
  simp only [Bool.and_eq_true, List.all_eq_true, decide_eq_true_eq] at h
  obtain ⟨⟨⟨⟨⟨⟨⟨h1, h2⟩, h3⟩, h4⟩, h5⟩, h6⟩, h7⟩, h8⟩ := h
  refine ⟨h1.1.1, fun c hc => h2.2 _ (List.mem_map.2 ⟨c, hc, rfl⟩), fun c hc => h3.2 _ (List.mem_map.2 ⟨c, hc, rfl⟩), fun f hf => ?_⟩
  have := h7 f hf
  unfold flwOk at this
  simp only [Bool.and_eq_true] at this
  exact ⟨this.1.2, this.2⟩
theorem mat_step {e e' n a b : Nat} {f f' : Nat → Nat → Bool} (hf : ∀ i j, i < n → j < n → f' i j = if i = a then (if j = b then true else f a j) else f i j) : (vec n fun i => oBools e' n (f i)).set a (.own e' 1 n ((vec n fun j => pBool (f a j)).set (b * 1) (pBool true))) = vec n fun i => oBools e' n (f' i) := by
  rw [Nat.mul_one, vec_set, vec_set]
  refine vec_congr fun i hi => ?_
  by_cases h : i = a
  · subst h
    rw [if_pos rfl]
    show PV.own _ _ _ _ = PV.own _ _ _ _
    congr 1
    refine vec_congr fun j hj => ?_
    rw [hf i j hi hj, if_pos rfl]
    split <;> rfl
  · rw [if_neg h]
    show PV.own _ _ _ _ = PV.own _ _ _ _
    congr 1
    refine vec_congr fun j hj => ?_
    rw [hf i j hi hj, if_neg h]
theorem bools_step {n a : Nat} {f f' : Nat → Bool} (hf : ∀ i, i < n → f' i = if i = a then true else f i) : (vec n fun i => pBool (f i)).set (a * 1) (pBool true) = vec n fun i => pBool (f' i) := by
  rw [Nat.mul_one, vec_set]
  refine vec_congr fun i hi => ?_
  rw [hf i hi]; split <;> rfl
theorem reads_rel {sL hP : List (Nat × Ent)} {l e k e' n : Nat} {h : Value} {acts : List ByteArray} {rest : List PV} (hl : lk hP l = some (h, .own e k 1 (.own e' 1 n (acts.map pStr) :: rest))) (hn : n = acts.length) : Reads (⟨sL, hP⟩ : St) (padd (sbase h) 0) (.sptr 0 (pStrs acts :: shares rest)) := by
  have := reads_ptr (sL := sL) (j := 0) hl Nat.one_pos
  rw [shares, share_strs, hn] at this
  exact this
theorem fam_row {n i : Nat} {e : Nat} (f : Nat → Nat → Bool) (h : i < n) : (vec n fun i => oBools e n (f i))[i]? = some (oBools e n (f i)) := vec_get _ h
theorem hs_at {Hs : List Value} {i : Nat} {v : Value} (h : Hs[i]? = some v) : (Hs.map PV.val)[i * 1]? = some (.val v) := by rw [Nat.mul_one, List.getElem?_map, h]; rfl
set_option maxHeartbeats 1000000 in
theorem cOf_e (g : Dfg) (hg : dfgOk g = true) (hfl : g.follows.length ≤ 140737488355328) (hsl : g.starts.length ≤ 140737488355328) (hel : g.ends.length ≤ 140737488355328) : AF Tryz.prog 102 [pDfg g] (· = pRel g) := by
  obtain ⟨hn40, hst, hen, hfo⟩ := dfg_parts hg
  have hna : (cnames g.acts).length = g.acts.length := by simp [cnames]
  refine AF.of_body 101 Tryz.func102 rfl Tryz.ntmps102 (Nat.le_of_ble_eq_true rfl) ?_
  intro w0 M0 vs hl hv
  obtain ⟨v0, rfl⟩ := len1 hl
  clear hl hv
  refine nav ?_
  (refine aC_region ?_
    <;> refine s_boxa 1 4 fun h1 => ?_
    <;> refine xL 2 q_assign ?_
    <;> refine aL_end (nav ?_) <;> try dsimp only)
  (refine aC_region ?_
    <;> refine xL 13 (q_fldo 1 tFl25_0_LbE) ?_
    <;> (refine yL 14 (q_ldo 1 tNa22_LbE) fun v14 hv14 => ?_; cases hv14)
    <;> refine xL 15 (q_len tSl22_LbE) ?_
    <;> refine xL 3 q_assign ?_
    <;> refine aL_end (nav ?_) <;> try dsimp only)
  refine aC_mid (fun x : { x : Value × Value × Value × Value × Value // x.2.2.2.2.oneCell' = true } => ⟨[(1, padd (sbase h1) 0, .val (padd (sbase h1) 0)), (4, padd (sbase x.1.1) 0, .val (padd (sbase x.1.1) 0))], [(1, h1, .own 25 4 1 [pCnts g.acts, pCnts g.starts, pCnts g.ends, pFlws g.follows]), (23, x.1.1, .own 80 4 1 [.val (.slice none 0 0), .val x.1.2.1, .val x.1.2.2.1, .val x.1.2.2.2.1]), (17, x.1.2.1, oMat 78 4 g.acts.length (fun _ _ => false)), (19, x.1.2.2.1, .own 4 1 g.acts.length (List.replicate g.acts.length (.val (.bool false)))), (21, x.1.2.2.2.1, .own 4 1 g.acts.length (List.replicate g.acts.length (.val (.bool false))))]⟩) ?_ ?_
  · (refine aC_draw (fun i => ([] : List Nat).elem i) [] (by kernel_rfl) ?_
      <;> refine xD 0 16 rfl q_move ?_
      <;> refine xD 2 18 rfl q_move ?_
      <;> refine xD 4 20 rfl q_move ?_
      <;> (refine aD_three 1 3 5 (by kernel_rfl) ?_ ?_ ?_; rotate_right; (focus ((refine aW_run rfl fun w9 M9 N9 DQ back => ?_) <;> refine s_make 21 tEl78_LbE fun h21 ho21 => ?_ <;> refine aL_end (back _ (nrm ?_)) <;> (refine aD_two 1 3 (by kernel_rfl) ?_ ?_; rotate_right; (focus ((refine aW_run rfl fun w9 M9 N9 DQ back => ?_) <;> refine s_make 19 tEl78_LbE fun h19 ho19 => ?_ <;> refine aL_end (back _ (nrm ?_)) <;> (refine aD_one 1 (by kernel_rfl) ?_) <;> (refine aW_run rfl fun w9 M9 N9 DQ back => ?_) <;> refine cO 17 (cA Tryz.call104 (cSquare_e g.acts.length (by omega))) fun v17 ho17 => ?_ <;> refine aL_end (back _ (nrm ?_)) <;> refine xE 6 22 rfl (q_build tSt80_LbE) ?_ <;> (refine aD_one 7 (by kernel_rfl) ?_) <;> (refine aW_run rfl fun w9 M9 N9 DQ back => ?_) <;> refine s_boxa 23 4 fun h23 => ?_ <;> refine aL_end (back _ (nrm ?_)) <;> refine xE 8 4 rfl q_assign ?_ <;> refine aD_end (by kernel_rfl) (nav ?_))); rotate_right; (focus ((refine aW_run rfl fun w9 M9 N9 DQ back => ?_) <;> refine cO 17 (cA Tryz.call104 (cSquare_e g.acts.length (by omega))) fun v17 ho17 => ?_ <;> refine aL_end (back _ (nrm ?_)) <;> (refine aD_one 3 (by kernel_rfl) ?_) <;> (refine aW_run rfl fun w9 M9 N9 DQ back => ?_) <;> refine s_make 19 tEl78_LbE fun h19 ho19 => ?_ <;> refine aL_end (back _ (nrm ?_)) <;> refine xE 6 22 rfl (q_build tSt80_LbE) ?_ <;> (refine aD_one 7 (by kernel_rfl) ?_) <;> (refine aW_run rfl fun w9 M9 N9 DQ back => ?_) <;> refine s_boxa 23 4 fun h23 => ?_ <;> refine aL_end (back _ (nrm ?_)) <;> refine xE 8 4 rfl q_assign ?_ <;> refine aD_end (by kernel_rfl) (nav ?_)))))); rotate_right; (focus ((refine aW_run rfl fun w9 M9 N9 DQ back => ?_) <;> refine s_make 19 tEl78_LbE fun h19 ho19 => ?_ <;> refine aL_end (back _ (nrm ?_)) <;> (refine aD_two 1 5 (by kernel_rfl) ?_ ?_; rotate_right; (focus ((refine aW_run rfl fun w9 M9 N9 DQ back => ?_) <;> refine s_make 21 tEl78_LbE fun h21 ho21 => ?_ <;> refine aL_end (back _ (nrm ?_)) <;> (refine aD_one 1 (by kernel_rfl) ?_) <;> (refine aW_run rfl fun w9 M9 N9 DQ back => ?_) <;> refine cO 17 (cA Tryz.call104 (cSquare_e g.acts.length (by omega))) fun v17 ho17 => ?_ <;> refine aL_end (back _ (nrm ?_)) <;> refine xE 6 22 rfl (q_build tSt80_LbE) ?_ <;> (refine aD_one 7 (by kernel_rfl) ?_) <;> (refine aW_run rfl fun w9 M9 N9 DQ back => ?_) <;> refine s_boxa 23 4 fun h23 => ?_ <;> refine aL_end (back _ (nrm ?_)) <;> refine xE 8 4 rfl q_assign ?_ <;> refine aD_end (by kernel_rfl) (nav ?_))); rotate_right; (focus ((refine aW_run rfl fun w9 M9 N9 DQ back => ?_) <;> refine cO 17 (cA Tryz.call104 (cSquare_e g.acts.length (by omega))) fun v17 ho17 => ?_ <;> refine aL_end (back _ (nrm ?_)) <;> (refine aD_one 5 (by kernel_rfl) ?_) <;> (refine aW_run rfl fun w9 M9 N9 DQ back => ?_) <;> refine s_make 21 tEl78_LbE fun h21 ho21 => ?_ <;> refine aL_end (back _ (nrm ?_)) <;> refine xE 6 22 rfl (q_build tSt80_LbE) ?_ <;> (refine aD_one 7 (by kernel_rfl) ?_) <;> (refine aW_run rfl fun w9 M9 N9 DQ back => ?_) <;> refine s_boxa 23 4 fun h23 => ?_ <;> refine aL_end (back _ (nrm ?_)) <;> refine xE 8 4 rfl q_assign ?_ <;> refine aD_end (by kernel_rfl) (nav ?_)))))); rotate_right; (focus ((refine aW_run rfl fun w9 M9 N9 DQ back => ?_) <;> refine cO 17 (cA Tryz.call104 (cSquare_e g.acts.length (by omega))) fun v17 ho17 => ?_ <;> refine aL_end (back _ (nrm ?_)) <;> (refine aD_two 3 5 (by kernel_rfl) ?_ ?_; rotate_right; (focus ((refine aW_run rfl fun w9 M9 N9 DQ back => ?_) <;> refine s_make 21 tEl78_LbE fun h21 ho21 => ?_ <;> refine aL_end (back _ (nrm ?_)) <;> (refine aD_one 3 (by kernel_rfl) ?_) <;> (refine aW_run rfl fun w9 M9 N9 DQ back => ?_) <;> refine s_make 19 tEl78_LbE fun h19 ho19 => ?_ <;> refine aL_end (back _ (nrm ?_)) <;> refine xE 6 22 rfl (q_build tSt80_LbE) ?_ <;> (refine aD_one 7 (by kernel_rfl) ?_) <;> (refine aW_run rfl fun w9 M9 N9 DQ back => ?_) <;> refine s_boxa 23 4 fun h23 => ?_ <;> refine aL_end (back _ (nrm ?_)) <;> refine xE 8 4 rfl q_assign ?_ <;> refine aD_end (by kernel_rfl) (nav ?_))); rotate_right; (focus ((refine aW_run rfl fun w9 M9 N9 DQ back => ?_) <;> refine s_make 19 tEl78_LbE fun h19 ho19 => ?_ <;> refine aL_end (back _ (nrm ?_)) <;> (refine aD_one 5 (by kernel_rfl) ?_) <;> (refine aW_run rfl fun w9 M9 N9 DQ back => ?_) <;> refine s_make 21 tEl78_LbE fun h21 ho21 => ?_ <;> refine aL_end (back _ (nrm ?_)) <;> refine xE 6 22 rfl (q_build tSt80_LbE) ?_ <;> (refine aD_one 7 (by kernel_rfl) ?_) <;> (refine aW_run rfl fun w9 M9 N9 DQ back => ?_) <;> refine s_boxa 23 4 fun h23 => ?_ <;> refine aL_end (back _ (nrm ?_)) <;> refine xE 8 4 rfl q_assign ?_ <;> refine aD_end (by kernel_rfl) (nav ?_)))))))
      <;> try dsimp only) <;> (
      exact aN_join ⟨(h23, v17, h19, h21, .bool true), rfl⟩ ⟨rfl, rfl, trivial⟩ ⟨rfl, rfl, rfl, rfl, rfl, trivial⟩)
  · rintro ⟨⟨h23, h17, h19, h21, _⟩, _⟩
    dsimp only
    refine nav ?_
    (refine aC_region ?_
      <;> refine xL 24 (q_fldo 1 tFl25_0_LbE) ?_
      <;> (refine yL 25 (q_ldo 1 tNa22_LbE) fun v25 hv25 => ?_; cases hv25)
      <;> refine xL 26 (q_len tSl22_LbE) ?_
      <;> refine xL 27 q_move ?_
      <;> refine aL_end (nav ?_) <;> try dsimp only)
    refine aC_ent (nilOwn 200 9 1 rfl) fun _ => ?_
    refine aC_loop (ι := { x : Nat × Value // x.1 ≤ g.acts.length }) (fun k => ⟨[(1, _, _), (4, _, _), (25, _, _), (26, _, _), (27, .int .i64 k.1.1, pInt k.1.1)], [(1, _, _), (17, _, _), (19, _, _), (21, _, _), (23, h23, .own 80 4 1 [.val k.1.2, .val h17, .val h19, .val h21]), (200, k.1.2, .own 9 1 k.1.1 ((cnames (g.acts.take k.1.1)).map pStr))]⟩) (fun k => g.acts.length - k.1.1) ⟨(0, .slice none 0 0), by omega⟩ (fun a w H => H.weaken ⟨rfl, rfl, rfl, rfl, rfl, trivial⟩ ⟨rfl, rfl, rfl, rfl, rfl, rfl, trivial⟩) ?_
    rintro ⟨⟨k, h3⟩, hk⟩
    dsimp only
    dsimp only at hk
    refine nav ?_
    (refine aC_region ?_
      <;> refine xL 28 q_lss ?_
      <;> refine aL_end (nav ?_) <;> try dsimp only)
    first | refine cCd (fun hb28 => ?_) (fun hb28 => ?_) | refine cC (fun hb28 => ?_) (fun hb28 => ?_)
    · first
      | exact Bool.noConfusion hb28
      | (
          obtain ⟨x, hx⟩ := get_some (show k < g.acts.length by omega)
          have e1 := flat_drop cCnt_len g.acts k x hx
          have e2 := flat_fit cCnt_len hx
          have e3 : ((cnames (g.acts.take k)).map pStr).length = k := by simp [cnames]; omega
          refine nav ?_
          (refine aC_region ?_
            <;> refine xL 29 (q_idxN tSl22_LbE) ?_
            <;> (refine yL 30 (q_lda tAgg62_LbE) fun v30 hv30 => ?_; cases hv30)
            <;> refine s_alloc [(.string ByteArray.empty), (.int .i64 0)] 2 6 tZr62_LbE fun h6 => ?_
            <;> refine s_sta 6 tAgg62_LbE ?_
            <;> refine aL_end (nav ?_) <;> try dsimp only)
          (refine aC_draw (fun i => ([11] : List Nat).elem i) [23, 6] (by kernel_rfl) ?_
            <;> refine xD 0 31 rfl q_move ?_
            <;> refine xD 1 32 rfl q_move ?_
            <;> refine xD 2 33 rfl (q_nilo 23) ?_
            <;> refine xD 3 34 rfl (q_fldo 23 tFl80_0_LbE) ?_
            <;> (refine yD 4 35 rfl (q_ldo 23 tNa36_LbE) fun v35 hv35 => ?_; cases hv35)
            <;> refine xE 5 36 rfl (q_fldo 6 tFl62_0_LbE) ?_
            <;> (refine yE 6 37 rfl (q_ldo 6 tNa9_LbE) fun v37 hv37 => ?_; cases hv37)
            <;> (refine aD_one 7 (by kernel_rfl) ?_)
            <;> (refine aW_run rfl fun w9 M9 N9 DQ back => ?_)
            <;> refine s_lit1 (kk := 1) 38 tEl36_LbE fun h38 ho38 => ?_
            <;> refine aL_end (back _ (nrm ?_))
            <;> (refine aD_one 8 (by kernel_rfl) ?_)
            <;> (refine aW_run rfl fun w9 M9 N9 DQ back => ?_)
            <;> refine s_app 200 38 39 tEl36_LbE fun h39 ho39 => ?_
            <;> refine aL_end (back _ (nrm ?_))
            <;> refine xE 9 40 rfl (q_nilo 23) ?_
            <;> refine xE 10 41 rfl (q_fldo 23 tFl80_0_LbE) ?_
            <;> (refine aD_one 11 (by kernel_rfl) ?_)
            <;> (refine aW_last rfl rfl (by kernel_rfl) fun DQ back => ?_)
            <;> refine s_st 23 tNa36_LbE tSz36_LbE ?_
            <;> refine aL_end (back _ (nav ?_))
            <;> try dsimp only)
          (refine aC_region ?_
            <;> refine xL 42 q_add ?_
            <;> refine xL 27 q_move ?_
            <;> refine aL_end (nav ?_) <;> try dsimp only)
          refine aN_ent (relabel (l := 39) 200 rfl rfl) fun _ => ?_
          rw [show (cnames (g.acts.take k)).map pStr ++ [pStr x.name] = (cnames (g.acts.take (k + 1))).map pStr by rw [cnames_take hx, List.map_append]; rfl]
          refine aN_again (
            ⟨(k + 1, h39), by show k + 1 ≤ g.acts.length; omega⟩
            ) (by dsimp only; omega) ⟨rfl, rfl, rfl, rfl, rfl, trivial⟩ ⟨rfl, rfl, rfl, rfl, rfl, rfl, trivial⟩)
    · first
      | exact Bool.noConfusion hb28
      | (
          refine nav ?_
          (refine aC_region ?_
            <;> refine xL 43 (q_fldo 1 tFl25_3_LbE) ?_
            <;> (refine yL 44 (q_ldo 1 tNa23_LbE) fun v44 hv44 => ?_; cases hv44)
            <;> refine xL 45 (q_len tSl23_LbE) ?_
            <;> refine xL 46 q_move ?_
            <;> refine aL_end (nav ?_) <;> try dsimp only)
          obtain rfl : k = g.acts.length := by omega
          rw [List.take_length]
          refine aC_ent (fold (l := 23) (l' := 200) (j := 0) rfl rfl rfl rfl) fun _ => ?_
          refine aC_ent (spread (l := 17) 201 rfl rfl) fun Hs => ?_
          obtain ⟨Hs, hHs⟩ := Hs
          rw [vec_len] at hHs
          dsimp only
          refine aC_loop (ι := { k : Nat // k ≤ g.follows.length }) (fun k => ⟨[(1, _, _), (4, _, _), (44, _, _), (45, _, _), (46, .int .i64 k.1, pInt k.1)], [(1, _, _), (23, _, _), (17, _, _), (19, _, _), (21, _, _), (201, .agg Hs.toArray, .agg (vec g.acts.length fun i => oBools 4 g.acts.length (edgeF (cnames g.acts) (g.follows.take k.1) i)))]⟩) (fun k => g.follows.length - k.1) ⟨0, by omega⟩ (fun a w H => H.weaken ⟨rfl, rfl, rfl, rfl, rfl, trivial⟩ ⟨rfl, rfl, rfl, rfl, rfl, rfl, trivial⟩) ?_
          rintro ⟨k, hk⟩
          dsimp only
          refine nav ?_
          (refine aC_region ?_
            <;> refine xL 47 q_lss ?_
            <;> refine aL_end (nav ?_) <;> try dsimp only)
          first | refine cCd (fun hb47 => ?_) (fun hb47 => ?_) | refine cC (fun hb47 => ?_) (fun hb47 => ?_)
          · first
            | exact Bool.noConfusion hb47
            | (
                obtain ⟨x, hx⟩ := get_some (show k < g.follows.length by omega)
                have e1 := flat_drop cFlw_len g.follows k x hx
                have e2 := flat_fit cFlw_len hx
                have hxa := (hfo x (List.mem_of_getElem? hx)).1
                have hxb := (hfo x (List.mem_of_getElem? hx)).2
                have ha := (ixN_of hxa).2
                have hb := (ixN_of hxb).2
                rw [hna] at ha hb
                obtain ⟨ra, hra⟩ := get_some (show ixN (cnames g.acts) x.src < Hs.length by omega)
                have e3 := hs_at hra
                have e4 := fam_row (e := 4) (edgeF (cnames g.acts) (g.follows.take k)) ha
                have e5 := vec_len g.acts.length (fun j => pBool (edgeF (cnames g.acts) (g.follows.take k) (ixN (cnames g.acts) x.src) j))
                refine nav ?_
                (refine aC_region ?_
                  <;> refine xL 48 (q_idxN tSl23_LbE) ?_
                  <;> (refine yL 49 (q_lda tAgg68_LbE) fun v49 hv49 => ?_; cases hv49)
                  <;> refine s_alloc [(.string ByteArray.empty), (.string ByteArray.empty), (.int .i64 0)] 3 8 tZr68_LbE fun h8 => ?_
                  <;> refine s_sta 8 tAgg68_LbE ?_
                  <;> refine aL_end (nav ?_) <;> try dsimp only)
                (refine aC_draw (fun i => ([15] : List Nat).elem i) [23, 8, 17, 201] (by kernel_rfl) ?_
                  <;> refine xD 0 50 rfl q_move ?_
                  <;> refine xD 1 51 rfl (q_nilo 23) ?_
                  <;> refine xD 2 52 rfl (q_fldo 23 tFl80_1_LbE) ?_
                  <;> (refine yD 3 53 rfl (q_ldo 23 tNa77_LbE) fun v53 hv53 => ?_; cases hv53)
                  <;> refine xD 4 54 rfl q_move ?_
                  <;> refine xD 5 55 rfl (q_fldo 8 tFl68_0_LbE) ?_
                  <;> (refine yD 6 56 rfl (q_ldo 8 tNa9_LbE) fun v56 hv56 => ?_; cases hv56)
                  <;> refine xD 10 60 rfl q_move ?_
                  <;> refine xD 11 61 rfl (q_fldo 8 tFl68_1_LbE) ?_
                  <;> (refine yD 12 62 rfl (q_ldo 8 tNa9_LbE) fun v62 hv62 => ?_; cases hv62)
                  <;> (refine aD_one 7 (by kernel_rfl) ?_)
                  <;> (refine aW_call (d := 57) rfl (cB rfl Tryz.call132 (cAt_e (cnames g.acts) _ x.src hxa) ⟨⟨_, _, rfl, reads_rel (l := 23) rfl hna.symm⟩, ⟨_, _, rfl, reads_slot (x := .tmp 56) rfl⟩, trivial⟩) fun v57 hv57 => ?_; cases hv57)
                  <;> refine xD 8 58 rfl (q_idxoN 17 tSl77_LbE) ?_
                  <;> (refine yD 9 59 rfl (q_ldo 17 tNa78_LbE) fun v59 hv59 => ?_; cases hv59)
                  <;> (refine aD_one 13 (by kernel_rfl) ?_)
                  <;> (refine aW_call (d := 63) rfl (cB rfl Tryz.call132 (cAt_e (cnames g.acts) _ x.dst hxb) ⟨⟨_, _, rfl, reads_rel (l := 23) rfl hna.symm⟩, ⟨_, _, rfl, reads_slot (x := .tmp 62) rfl⟩, trivial⟩) fun v63 hv63 => ?_; cases hv63)
                  <;> refine xE 14 64 rfl (q_idxf 201 tSl78_LbE) ?_
                  <;> (refine aD_one 15 (by kernel_rfl) ?_)
                  <;> (refine aW_last rfl rfl (by kernel_rfl) fun DQ back => ?_)
                  <;> refine s_stf 201 tNa4_LbE tSz4_LbE ?_
                  <;> refine aL_end (back _ (nav ?_))
                  <;> try dsimp only)
                (refine aC_region ?_
                  <;> refine xL 65 q_add ?_
                  <;> refine xL 46 q_move ?_
                  <;> refine aL_end (nav ?_) <;> try dsimp only)
                rw [mat_step (e := 0) (f' := edgeF (cnames g.acts) (g.follows.take (k + 1))) fun i j _ _ => edge_step hx i j]
                refine aN_again (
                  ⟨k + 1, by omega⟩
                  ) (by dsimp only; omega) ⟨rfl, rfl, rfl, rfl, rfl, trivial⟩ ⟨rfl, rfl, rfl, rfl, rfl, rfl, trivial⟩)
          · first
            | exact Bool.noConfusion hb47
            | (
                refine nav ?_
                (refine aC_region ?_
                  <;> refine xL 66 (q_fldo 1 tFl25_1_LbE) ?_
                  <;> (refine yL 67 (q_ldo 1 tNa22_LbE) fun v67 hv67 => ?_; cases hv67)
                  <;> refine xL 68 (q_len tSl22_LbE) ?_
                  <;> refine xL 69 q_move ?_
                  <;> refine aL_end (nav ?_) <;> try dsimp only)
                obtain rfl : k = g.follows.length := by omega
                rw [List.take_length, show List.replicate g.acts.length (PV.val (.bool false)) = vec g.acts.length (fun i => pBool (markF (cnames g.acts) [] i)) from vec_const _ _]
                refine aC_loop (ι := { k : Nat // k ≤ g.starts.length }) (fun k => ⟨[(1, _, _), (4, _, _), (67, _, _), (68, _, _), (69, .int .i64 k.1, pInt k.1)], [(1, _, _), (23, _, _), (17, _, _), (201, _, _), (21, _, _), (19, h19, oBools 4 g.acts.length (markF (cnames g.acts) (g.starts.take k.1)))]⟩) (fun k => g.starts.length - k.1) ⟨0, by omega⟩ (fun a w H => H.weaken ⟨rfl, rfl, rfl, rfl, rfl, trivial⟩ ⟨rfl, rfl, rfl, rfl, rfl, rfl, trivial⟩) ?_
                rintro ⟨k, hk⟩
                dsimp only
                refine nav ?_
                (refine aC_region ?_
                  <;> refine xL 70 q_lss ?_
                  <;> refine aL_end (nav ?_) <;> try dsimp only)
                first | refine cCd (fun hb70 => ?_) (fun hb70 => ?_) | refine cC (fun hb70 => ?_) (fun hb70 => ?_)
                · first
                  | exact Bool.noConfusion hb70
                  | (
                      obtain ⟨x, hx⟩ := get_some (show k < g.starts.length by omega)
                      have e1 := flat_drop cCnt_len g.starts k x hx
                      have e2 := flat_fit cCnt_len hx
                      have hxa := hst x (List.mem_of_getElem? hx)
                      have ha := (ixN_of hxa).2
                      rw [hna] at ha
                      have e5 := vec_len g.acts.length (fun j => pBool (markF (cnames g.acts) (g.starts.take k) j))
                      refine nav ?_
                      (refine aC_region ?_
                        <;> refine xL 71 (q_idxN tSl22_LbE) ?_
                        <;> (refine yL 72 (q_lda tAgg62_LbE) fun v72 hv72 => ?_; cases hv72)
                        <;> refine s_alloc [(.string ByteArray.empty), (.int .i64 0)] 2 10 tZr62_LbE fun h10 => ?_
                        <;> refine s_sta 10 tAgg62_LbE ?_
                        <;> refine aL_end (nav ?_) <;> try dsimp only)
                      (refine aC_draw (fun i => ([9] : List Nat).elem i) [23, 10, 19] (by kernel_rfl) ?_
                        <;> refine xD 0 73 rfl q_move ?_
                        <;> refine xD 1 74 rfl (q_nilo 23) ?_
                        <;> refine xD 2 75 rfl (q_fldo 23 tFl80_2_LbE) ?_
                        <;> (refine yD 3 76 rfl (q_ldo 23 tNa78_LbE) fun v76 hv76 => ?_; cases hv76)
                        <;> refine xD 4 77 rfl q_move ?_
                        <;> refine xE 5 78 rfl (q_fldo 10 tFl62_0_LbE) ?_
                        <;> (refine yE 6 79 rfl (q_ldo 10 tNa9_LbE) fun v79 hv79 => ?_; cases hv79)
                        <;> (refine aD_one 7 (by kernel_rfl) ?_)
                        <;> (refine aW_call (d := 80) rfl (cB rfl Tryz.call132 (cAt_e (cnames g.acts) _ x.name hxa) ⟨⟨_, _, rfl, reads_rel (l := 23) rfl hna.symm⟩, ⟨_, _, rfl, reads_slot (x := .tmp 79) rfl⟩, trivial⟩) fun v80 hv80 => ?_; cases hv80)
                        <;> refine xE 8 81 rfl (q_idxoN 19 tSl78_LbE) ?_
                        <;> (refine aD_one 9 (by kernel_rfl) ?_)
                        <;> (refine aW_last rfl rfl (by kernel_rfl) fun DQ back => ?_)
                        <;> refine s_st 19 tNa4_LbE tSz4_LbE ?_
                        <;> refine aL_end (back _ (nav ?_))
                        <;> try dsimp only)
                      (refine aC_region ?_
                        <;> refine xL 82 q_add ?_
                        <;> refine xL 69 q_move ?_
                        <;> refine aL_end (nav ?_) <;> try dsimp only)
                      rw [bools_step (f' := markF (cnames g.acts) (g.starts.take (k + 1))) fun i _ => mark_step hx i]
                      refine aN_again (
                        ⟨k + 1, by omega⟩
                        ) (by dsimp only; omega) ⟨rfl, rfl, rfl, rfl, rfl, trivial⟩ ⟨rfl, rfl, rfl, rfl, rfl, rfl, trivial⟩)
                · first
                  | exact Bool.noConfusion hb70
                  | (
                      refine nav ?_
                      (refine aC_region ?_
                        <;> refine xL 83 (q_fldo 1 tFl25_2_LbE) ?_
                        <;> (refine yL 84 (q_ldo 1 tNa22_LbE) fun v84 hv84 => ?_; cases hv84)
                        <;> refine xL 85 (q_len tSl22_LbE) ?_
                        <;> refine xL 86 q_move ?_
                        <;> refine aL_end (nav ?_) <;> try dsimp only)
                      obtain rfl : k = g.starts.length := by omega
                      rw [List.take_length]
                      refine aC_loop (ι := { k : Nat // k ≤ g.ends.length }) (fun k => ⟨[(1, _, _), (4, _, _), (84, _, _), (85, _, _), (86, .int .i64 k.1, pInt k.1)], [(1, _, _), (23, _, _), (17, _, _), (201, _, _), (19, _, _), (21, h21, oBools 4 g.acts.length (markF (cnames g.acts) (g.ends.take k.1)))]⟩) (fun k => g.ends.length - k.1) ⟨0, by omega⟩ (fun a w H => H.weaken ⟨rfl, rfl, rfl, rfl, rfl, trivial⟩ ⟨rfl, rfl, rfl, rfl, rfl, rfl, trivial⟩) ?_
                      rintro ⟨k, hk⟩
                      dsimp only
                      refine nav ?_
                      (refine aC_region ?_
                        <;> refine xL 87 q_lss ?_
                        <;> refine aL_end (nav ?_) <;> try dsimp only)
                      first | refine cCd (fun hb87 => ?_) (fun hb87 => ?_) | refine cC (fun hb87 => ?_) (fun hb87 => ?_)
                      · first
                        | exact Bool.noConfusion hb87
                        | (
                            obtain ⟨x, hx⟩ := get_some (show k < g.ends.length by omega)
                            have e1 := flat_drop cCnt_len g.ends k x hx
                            have e2 := flat_fit cCnt_len hx
                            have hxa := hen x (List.mem_of_getElem? hx)
                            have ha := (ixN_of hxa).2
                            rw [hna] at ha
                            have e5 := vec_len g.acts.length (fun j => pBool (markF (cnames g.acts) (g.ends.take k) j))
                            refine nav ?_
                            (refine aC_region ?_
                              <;> refine xL 88 (q_idxN tSl22_LbE) ?_
                              <;> (refine yL 89 (q_lda tAgg62_LbE) fun v89 hv89 => ?_; cases hv89)
                              <;> refine s_alloc [(.string ByteArray.empty), (.int .i64 0)] 2 12 tZr62_LbE fun h12 => ?_
                              <;> refine s_sta 12 tAgg62_LbE ?_
                              <;> refine aL_end (nav ?_) <;> try dsimp only)
                            (refine aC_draw (fun i => ([9] : List Nat).elem i) [23, 12, 21] (by kernel_rfl) ?_
                              <;> refine xD 0 90 rfl q_move ?_
                              <;> refine xD 1 91 rfl (q_nilo 23) ?_
                              <;> refine xD 2 92 rfl (q_fldo 23 tFl80_3_LbE) ?_
                              <;> (refine yD 3 93 rfl (q_ldo 23 tNa78_LbE) fun v93 hv93 => ?_; cases hv93)
                              <;> refine xD 4 94 rfl q_move ?_
                              <;> refine xE 5 95 rfl (q_fldo 12 tFl62_0_LbE) ?_
                              <;> (refine yE 6 96 rfl (q_ldo 12 tNa9_LbE) fun v96 hv96 => ?_; cases hv96)
                              <;> (refine aD_one 7 (by kernel_rfl) ?_)
                              <;> (refine aW_call (d := 97) rfl (cB rfl Tryz.call132 (cAt_e (cnames g.acts) _ x.name hxa) ⟨⟨_, _, rfl, reads_rel (l := 23) rfl hna.symm⟩, ⟨_, _, rfl, reads_slot (x := .tmp 96) rfl⟩, trivial⟩) fun v97 hv97 => ?_; cases hv97)
                              <;> refine xE 8 98 rfl (q_idxoN 21 tSl78_LbE) ?_
                              <;> (refine aD_one 9 (by kernel_rfl) ?_)
                              <;> (refine aW_last rfl rfl (by kernel_rfl) fun DQ back => ?_)
                              <;> refine s_st 21 tNa4_LbE tSz4_LbE ?_
                              <;> refine aL_end (back _ (nav ?_))
                              <;> try dsimp only)
                            (refine aC_region ?_
                              <;> refine xL 99 q_add ?_
                              <;> refine xL 86 q_move ?_
                              <;> refine aL_end (nav ?_) <;> try dsimp only)
                            rw [bools_step (f' := markF (cnames g.acts) (g.ends.take (k + 1))) fun i _ => mark_step hx i]
                            refine aN_again (
                              ⟨k + 1, by omega⟩
                              ) (by dsimp only; omega) ⟨rfl, rfl, rfl, rfl, rfl, trivial⟩ ⟨rfl, rfl, rfl, rfl, rfl, rfl, trivial⟩)
                      · first
                        | exact Bool.noConfusion hb87
                        | (
                            refine nav ?_
                            (refine aC_region ?_
                              <;> refine xL 100 q_move ?_
                              <;> refine xL 2 q_assign ?_
                              <;> refine aL_end (nav ?_) <;> try dsimp only)
                            obtain rfl : k = g.ends.length := by omega
                            rw [List.take_length]
                            refine aR_ent (gather (l := 17) (l' := 201) rfl rfl rfl rfl) fun _ => ?_
                            refine aR_ent (fold (l := 23) (l' := 17) (j := 1) rfl rfl rfl rfl) fun _ => ?_
                            refine aR_ent (fold (l := 23) (l' := 19) (j := 2) rfl rfl rfl rfl) fun _ => ?_
                            refine aR_ent (fold (l := 23) (l' := 21) (j := 3) rfl rfl rfl rfl) fun _ => ?_
                            refine aR_ent (freezeP (l := 23) (t := 2) (j := 0) rfl Nat.one_pos rfl) fun _ => ?_
                            refine ret_shr (Tryz.results102) rfl ?_
                            show PV.sptr 0 (shares [_, oMat 78 4 _ _, oBools _ _ _, oBools _ _ _]) = pRel g
                            rw [shares, shares, shares, shares, shares, share_mat, share_bools, share_bools, share_strs]
                            unfold pRel cRel pStrs
                            rw [hna]))))
end Go.Proofs.YtoanjgpdepaciaaGreat

namespace Go.Proofs.YtoanjgpdepaciaaGreat
open Go.RowKit Go.Cb Go.En
set_option linter.all false
set_option maxRecDepth 100000

theorem tAgg25_LbF : AggT Tryz.prog 25 4 = true := by kernel_rfl
theorem tFl80_0_LbF : FldT Tryz.prog 80 0 0 = true := by kernel_rfl
theorem tFl80_1_LbF : FldT Tryz.prog 80 1 1 = true := by kernel_rfl
theorem tFl80_2_LbF : FldT Tryz.prog 80 2 2 = true := by kernel_rfl
theorem tFl80_3_LbF : FldT Tryz.prog 80 3 3 = true := by kernel_rfl
theorem tNa36_LbF : NoAgg Tryz.prog 36 = true := by kernel_rfl
theorem tNa3_LbF : NoAgg Tryz.prog 3 = true := by kernel_rfl
theorem tNa4_LbF : NoAgg Tryz.prog 4 = true := by kernel_rfl
theorem tNa77_LbF : NoAgg Tryz.prog 77 = true := by kernel_rfl
theorem tNa78_LbF : NoAgg Tryz.prog 78 = true := by kernel_rfl
theorem tSl36_LbF : SlT Tryz.prog 36 9 1 = true := by kernel_rfl
theorem tSl77_LbF : SlT Tryz.prog 77 78 1 = true := by kernel_rfl
theorem tSl78_LbF : SlT Tryz.prog 78 4 1 = true := by kernel_rfl
theorem tSl81_LbF : SlT Tryz.prog 81 3 1 = true := by kernel_rfl
theorem tSz4_LbF : (Tryz.prog.info? 4).map (·.size) = some 1 := by kernel_rfl

/-- In the midst of round k of the square, before place (i, j). -/
def warAt (E : Nat → Nat → Bool) (k i j a b : Nat) : Bool := if a < i ∨ (a = i ∧ b < j) then war E (k + 1) a b else war E k a b
theorem warAt_col (E : Nat → Nat → Bool) (k i j a : Nat) : warAt E k i j a k = war E k a k := by
  unfold warAt
  split
  · rw [war_col]
  · rfl
theorem warAt_row (E : Nat → Nat → Bool) (k i j b : Nat) : warAt E k i j k b = war E k k b := by
  unfold warAt
  split
  · rw [war_row]
  · rfl
theorem warAt_self (E : Nat → Nat → Bool) (k i j : Nat) : warAt E k i j i j = war E k i j := by unfold warAt; rw [if_neg (by omega)]
theorem warAt_step {e n k i j : Nat} {E : Nat → Nat → Bool} {x : Bool} (hx : x = war E (k + 1) i j) : (vec n fun a => oBools e n (warAt E k i j a)).set i (.own e 1 n ((vec n fun b => pBool (warAt E k i j i b)).set (j * 1) (pBool x))) = vec n fun a => oBools e n (warAt E k i (j + 1) a) := by
  subst hx
  rw [Nat.mul_one, vec_set, vec_set]
  refine vec_congr fun a ha => ?_
  by_cases h : a = i
  · subst h
    rw [if_pos rfl]
    show PV.own _ _ _ _ = PV.own _ _ _ _
    congr 1
    refine vec_congr fun b hb => ?_
    by_cases h2 : b = j
    · subst h2; rw [if_pos rfl]; unfold warAt; rw [if_pos (by omega)]
    · rw [if_neg h2]; unfold warAt
      by_cases h3 : b < j
      · rw [if_pos (by omega), if_pos (by omega)]
      · rw [if_neg (by omega), if_neg (by omega)]
  · rw [if_neg h]
    show PV.own _ _ _ _ = PV.own _ _ _ _
    congr 1
    refine vec_congr fun b hb => ?_
    unfold warAt
    by_cases h3 : a < i
    · rw [if_pos (by omega), if_pos (by omega)]
    · rw [if_neg (by omega), if_neg (by omega)]
theorem war_c1 {E : Nat → Nat → Bool} {k i j : Nat} (h : war E k i j = true) : true = war E (k + 1) i j := by simp [war, h]
theorem war_c2 {E : Nat → Nat → Bool} {k i j : Nat} (h : war E k i j = false) (h2 : war E k i k = true) : war E k k j = war E (k + 1) i j := by simp [war, h, h2]
theorem war_c3 {E : Nat → Nat → Bool} {k i j : Nat} (h : war E k i j = false) (h2 : war E k i k = false) : false = war E (k + 1) i j := by simp [war, h, h2]
theorem warAt_next {n k i : Nat} {E : Nat → Nat → Bool} (e : Nat) : (vec n fun a => oBools e n (warAt E k i n a)) = vec n fun a => oBools e n (warAt E k (i + 1) 0 a) := by
  refine vec_congr fun a ha => ?_
  show PV.own _ _ _ _ = PV.own _ _ _ _
  congr 1
  refine vec_congr fun b hb => ?_
  unfold warAt
  by_cases h : a ≤ i
  · rw [if_pos (by omega), if_pos (by omega)]
  · rw [if_neg (by omega), if_neg (by omega)]
theorem warAt_end {n k : Nat} {E : Nat → Nat → Bool} (e : Nat) : (vec n fun a => oBools e n (warAt E k n 0 a)) = vec n fun a => oBools e n (war E (k + 1) a) := by
  refine vec_congr fun a ha => ?_
  show PV.own _ _ _ _ = PV.own _ _ _ _
  congr 1
  refine vec_congr fun b hb => ?_
  unfold warAt
  rw [if_pos (by omega)]
theorem warAt_start {n k : Nat} {E : Nat → Nat → Bool} (e : Nat) : (vec n fun a => oBools e n (war E k a)) = vec n fun a => oBools e n (warAt E k 0 0 a) := by
  refine vec_congr fun a ha => ?_
  show PV.own _ _ _ _ = PV.own _ _ _ _
  congr 1
  refine vec_congr fun b hb => ?_
  unfold warAt
  rw [if_neg (by omega)]
theorem vec_at1 {α : Type} {n i : Nat} (f : Nat → α) (h : i < n) : (vec n f)[i * 1]? = some (f i) := by rw [Nat.mul_one]; exact vec_get f h
theorem vec_all {α : Type} {n : Nat} {f : Nat → α} {p : α → Bool} (h : ∀ i, p (f i) = true) : (vec n f).all p = true := by
  unfold vec; rw [List.all_map, List.all_eq_true]; exact fun i _ => h i
theorem copy_step {e n k : Nat} {E : Nat → Nat → Bool} (v : Value) : (((vec n fun i => oBools e n (fun j => if i < k then E i j else false)).set k (.val v)).set k (.own e 1 n (vec n fun j => pBool (E k j)))) = vec n fun i => oBools e n (fun j => if i < k + 1 then E i j else false) := by
  rw [List.set_set, vec_set]
  refine vec_congr fun a ha => ?_
  by_cases h : a = k
  · subst h
    rw [if_pos rfl]
    show PV.own _ _ _ _ = PV.own _ _ _ _
    congr 1
    exact vec_congr fun b hb => by dsimp only; rw [if_pos (by omega)]
  · rw [if_neg h]
    show PV.own _ _ _ _ = PV.own _ _ _ _
    congr 1
    refine vec_congr fun b hb => ?_
    dsimp only
    by_cases h3 : a < k
    · rw [if_pos h3, if_pos (by omega)]
    · rw [if_neg h3, if_neg (by omega)]
set_option maxHeartbeats 1000000 in
theorem cReach_e (l : List ByteArray) (n : Nat) (E : Nat → Nat → Bool) (s f : PV) (hl : l.length = n) (hn : n ≤ 1000) : AF Tryz.prog 45 [.sptr 0 [pStrs l, pMat n E, s, f]] (· = pMat n (reachB n E)) := by
  refine AF.of_body 82 Tryz.func45 rfl Tryz.ntmps45 (Nat.le_of_ble_eq_true rfl) ?_
  intro w0 M0 vs hl hv
  obtain ⟨v0, rfl⟩ := len1 hl
  clear hl hv
  refine nav ?_
  (refine aC_region ?_
    <;> refine xL 2 q_assign ?_
    <;> refine aL_end (nav ?_) <;> try dsimp only)
  (refine aC_region ?_
    <;> refine xL 8 q_move ?_
    <;> refine xL 9 q_nilp ?_
    <;> refine xL 10 (q_fld tFl80_0_LbF) ?_
    <;> (refine yL 11 (q_ld tNa36_LbF) fun v11 hv11 => ?_; cases hv11)
    <;> refine xL 12 (q_len tSl36_LbF) ?_
    <;> refine cO 13 (cA Tryz.call104 (cSquare_e l.length (by omega))) fun v13 ho13 => ?_
    <;> refine xL 3 q_assign ?_
    <;> refine aL_end (nav ?_) <;> try dsimp only)
  (refine aC_region ?_
    <;> refine xL 14 q_move ?_
    <;> refine xL 15 (q_leno 13 tSl77_LbF) ?_
    <;> refine xL 16 q_move ?_
    <;> refine aL_end (nav ?_) <;> try dsimp only)
  rw [hl]
  refine aC_ent (spread (l := 13) 200 rfl rfl) fun Hs => ?_
  obtain ⟨Hs, hHs⟩ := Hs
  rw [vec_len] at hHs
  dsimp only
  rw [show (vec n fun i => oBools 4 n (fun _ => false)) = vec n (fun i => oBools 4 n (fun j => if i < 0 then E i j else false)) from vec_congr fun i _ => by congr 1]
  refine aC_loop (ι := { k : Nat // k ≤ n }) (fun k => ⟨[(0, _, _), (3, _, _), (15, _, _), (16, .int .i64 k.1, pInt k.1)], [(13, _, _), (200, .agg Hs.toArray, .agg (vec n fun i => oBools 4 n (fun j => if i < k.1 then E i j else false)))]⟩) (fun k => n - k.1) ⟨0, by omega⟩ (fun a w H => H.weaken ⟨rfl, rfl, rfl, rfl, trivial⟩ ⟨rfl, rfl, trivial⟩) ?_
  rintro ⟨k, hk⟩
  dsimp only
  refine nav ?_
  (refine aC_region ?_
    <;> refine xL 17 q_lss ?_
    <;> refine aL_end (nav ?_) <;> try dsimp only)
  first | refine cCd (fun hb17 => ?_) (fun hb17 => ?_) | refine cC (fun hb17 => ?_) (fun hb17 => ?_)
  · first
    | exact Bool.noConfusion hb17
    | (
        have hlt : k < n := by omega
        obtain ⟨rk, hrk⟩ := get_some (show k < Hs.length by omega)
        have e1 := hs_at hrk
        have e2 := vec_at1 (fun i => pBools n (E i)) hlt
        refine aC_ent (famPick (l := 200) (i := k) 201 rfl hrk (vec_get _ hlt) rfl) fun _ => ?_
        refine nav ?_
        (refine aC_region ?_
          <;> refine xL 18 q_move ?_
          <;> refine xL 4 q_assign ?_
          <;> refine aL_end (nav ?_) <;> try dsimp only)
        (refine aC_draw (fun i => ([] : List Nat).elem i) [13] (by kernel_rfl) ?_
          <;> refine xD 0 19 rfl q_move ?_
          <;> refine xD 1 20 rfl q_move ?_
          <;> refine xD 2 21 rfl (q_idxoN 13 tSl77_LbF) ?_
          <;> (refine yD 3 22 rfl (q_ldo 13 tNa78_LbF) fun v22 hv22 => ?_; cases hv22)
          <;> refine xD 4 23 rfl q_move ?_
          <;> refine xD 5 24 rfl q_nilp ?_
          <;> refine xD 6 25 rfl (q_fld tFl80_1_LbF) ?_
          <;> (refine yD 7 26 rfl (q_ld tNa77_LbF) fun v26 hv26 => ?_; cases hv26)
          <;> refine xE 8 27 rfl q_move ?_
          <;> refine xE 9 28 rfl (q_idxN tSl77_LbF) ?_
          <;> (refine yE 10 29 rfl (q_ld tNa78_LbF) fun v29 hv29 => ?_; cases hv29)
          <;> (refine aD_one 11 (by kernel_rfl) ?_)
          <;> (refine aW_run rfl fun w9 M9 N9 DQ back => ?_)
          <;> refine s_copy 201 30 tSl78_LbF ?_ (vec_len _ _) (vec_all fun _ => rfl)
          <;> refine aL_end (back _ (nrm ?_))
          <;> refine aD_end (by kernel_rfl) (nav ?_)
          <;> try dsimp only)
        (refine aC_region ?_
          <;> refine xL 31 q_add ?_
          <;> refine xL 16 q_move ?_
          <;> refine aL_end (nav ?_) <;> try dsimp only)
        refine aN_ent (famBack (l := 200) (l' := 201) (i := k) rfl hrk (List.getElem?_set_self (by rw [vec_len]; omega)) rfl rfl) fun _ => ?_
        rw [copy_step]
        refine aN_again (
          ⟨k + 1, by omega⟩
          ) (by dsimp only; omega) ⟨rfl, rfl, rfl, rfl, trivial⟩ ⟨rfl, rfl, trivial⟩)
  · first
    | exact Bool.noConfusion hb17
    | (
        refine nav ?_
        (refine aC_region ?_
          <;> refine xL 32 q_move ?_
          <;> refine xL 33 (q_leno 13 tSl77_LbF) ?_
          <;> refine xL 34 q_move ?_
          <;> refine aL_end (nav ?_) <;> try dsimp only)
        rw [show (vec n fun i => oBools 4 n (fun j => if i < k then E i j else false)) = vec n (fun i => oBools 4 n (war E 0 i)) from vec_congr fun i hi => by
          show PV.own _ _ _ _ = PV.own _ _ _ _
          congr 1
          exact vec_congr fun j _ => by dsimp only; rw [if_pos (show i < k by omega)]; rfl]
        refine aC_loop (ι := { m : Nat // m ≤ n }) (fun k => ⟨[(0, _, _), (3, _, _), (33, _, _), (34, .int .i64 k.1, pInt k.1)], [(13, _, _), (200, .agg Hs.toArray, .agg (vec n fun i => oBools 4 n (war E k.1 i)))]⟩) (fun k => n - k.1) ⟨0, by omega⟩ (fun a w H => H.weaken ⟨rfl, rfl, rfl, rfl, trivial⟩ ⟨rfl, rfl, trivial⟩) ?_
        rintro ⟨m, hm⟩
        dsimp only
        refine nav ?_
        (refine aC_region ?_
          <;> refine xL 35 q_lss ?_
          <;> refine aL_end (nav ?_) <;> try dsimp only)
        first | refine cCd (fun hb35 => ?_) (fun hb35 => ?_) | refine cC (fun hb35 => ?_) (fun hb35 => ?_)
        · first
          | exact Bool.noConfusion hb35
          | (
              refine nav ?_
              (refine aC_region ?_
                <;> refine xL 36 q_move ?_
                <;> refine xL 5 q_assign ?_
                <;> refine aL_end (nav ?_) <;> try dsimp only)
              (refine aC_region ?_
                <;> refine xL 37 q_move ?_
                <;> refine xL 38 (q_leno 13 tSl77_LbF) ?_
                <;> refine xL 39 q_move ?_
                <;> refine aL_end (nav ?_) <;> try dsimp only)
              rw [warAt_start]
              refine aC_loop (ι := { i : Nat // i ≤ n }) (fun k => ⟨[(0, _, _), (3, _, _), (33, _, _), (34, _, _), (5, _, _), (38, _, _), (39, .int .i64 k.1, pInt k.1)], [(13, _, _), (200, .agg Hs.toArray, .agg (vec n fun a => oBools 4 n (warAt E m k.1 0 a)))]⟩) (fun k => n - k.1) ⟨0, by omega⟩ (fun a w H => H.weaken ⟨rfl, rfl, rfl, rfl, rfl, rfl, rfl, trivial⟩ ⟨rfl, rfl, trivial⟩) ?_
              rintro ⟨i, hi⟩
              dsimp only
              refine nav ?_
              (refine aC_region ?_
                <;> refine xL 40 q_lss ?_
                <;> refine aL_end (nav ?_) <;> try dsimp only)
              first | refine cCd (fun hb40 => ?_) (fun hb40 => ?_) | refine cC (fun hb40 => ?_) (fun hb40 => ?_)
              · first
                | exact Bool.noConfusion hb40
                | (
                    refine nav ?_
                    (refine aC_region ?_
                      <;> refine xL 41 q_move ?_
                      <;> refine xL 6 q_assign ?_
                      <;> refine aL_end (nav ?_) <;> try dsimp only)
                    (refine aC_region ?_
                      <;> refine xL 42 q_move ?_
                      <;> refine xL 43 (q_leno 13 tSl77_LbF) ?_
                      <;> refine xL 44 q_move ?_
                      <;> refine aL_end (nav ?_) <;> try dsimp only)
                    refine aC_loop (ι := { j : Nat // j ≤ n }) (fun k => ⟨[(0, _, _), (3, _, _), (33, _, _), (34, _, _), (5, _, _), (38, _, _), (39, _, _), (6, _, _), (43, _, _), (44, .int .i64 k.1, pInt k.1)], [(13, _, _), (200, .agg Hs.toArray, .agg (vec n fun a => oBools 4 n (warAt E m i k.1 a)))]⟩) (fun k => n - k.1) ⟨0, by omega⟩ (fun a w H => H.weaken ⟨rfl, rfl, rfl, rfl, rfl, rfl, rfl, rfl, rfl, rfl, trivial⟩ ⟨rfl, rfl, trivial⟩) ?_
                    rintro ⟨j, hj⟩
                    dsimp only
                    refine nav ?_
                    (refine aC_region ?_
                      <;> refine xL 45 q_lss ?_
                      <;> refine aL_end (nav ?_) <;> try dsimp only)
                    first | refine cCd (fun hb45 => ?_) (fun hb45 => ?_) | refine cC (fun hb45 => ?_) (fun hb45 => ?_)
                    · first
                      | exact Bool.noConfusion hb45
                      | (
                          have hmn : m < n := by omega
                          have hin : i < n := by omega
                          have hjn : j < n := by omega
                          obtain ⟨ri, hri⟩ := get_some (show i < Hs.length by omega)
                          obtain ⟨rm, hrm⟩ := get_some (show m < Hs.length by omega)
                          have e1 := hs_at hri
                          have e2 := hs_at hrm
                          have e3 := fam_row (e := 4) (warAt E m i j) hin
                          have e4 := fam_row (e := 4) (warAt E m i j) hmn
                          have e5 : (vec n fun b => pBool (warAt E m i j i b))[j * 1]? = some (pBool (war E m i j)) := by rw [vec_at1 _ hjn, warAt_self]
                          have e6 : (vec n fun b => pBool (warAt E m i j i b))[m * 1]? = some (pBool (war E m i m)) := by rw [vec_at1 _ hmn, warAt_col]
                          have e7 : (vec n fun b => pBool (warAt E m i j m b))[j * 1]? = some (pBool (war E m m j)) := by rw [vec_at1 _ hjn, warAt_row]
                          have e8 := vec_len n (fun b => pBool (warAt E m i j i b))
                          refine nav ?_
                          (refine aC_region ?_
                            <;> refine xL 46 q_move ?_
                            <;> refine xL 7 q_assign ?_
                            <;> refine aL_end (nav ?_) <;> try dsimp only)
                          (refine aC_draw (fun i => ([31] : List Nat).elem i) [13, 200] (by kernel_rfl) ?_
                            <;> refine xD 0 47 rfl q_move ?_
                            <;> refine xD 1 48 rfl q_move ?_
                            <;> refine xD 2 49 rfl (q_idxoN 13 tSl77_LbF) ?_
                            <;> (refine yD 3 50 rfl (q_ldo 13 tNa78_LbF) fun v50 hv50 => ?_; cases hv50)
                            <;> refine xD 4 51 rfl q_move ?_
                            <;> refine xD 5 52 rfl q_move ?_
                            <;> refine xD 6 53 rfl q_move ?_
                            <;> refine xD 7 54 rfl (q_idxoN 13 tSl77_LbF) ?_
                            <;> (refine yD 8 55 rfl (q_ldo 13 tNa78_LbF) fun v55 hv55 => ?_; cases hv55)
                            <;> refine xE 9 56 rfl q_move ?_
                            <;> refine xE 10 57 rfl (q_idxf 200 tSl78_LbF) ?_
                            <;> (refine yE 11 58 rfl (q_ldf 200 tNa4_LbF) fun v58 hv58 => ?_; cases hv58)
                            <;> refine xE 12 59 rfl q_move ?_
                            <;> (refine bD 59 (fun hb59 => ?_) (fun hb59 => ?_) <;> (first | refine kD 13 60 rfl ?_ | refine xD 13 60 rfl q_move ?_))
                            <;> (first | refine kD 14 61 rfl ?_ | refine xD 14 61 rfl q_move ?_)
                            <;> (first | refine kD 15 62 rfl ?_ | refine xD 15 62 rfl (q_idxoN 13 tSl77_LbF) ?_)
                            <;> (first | refine kD 16 63 rfl ?_ | (refine yD 16 63 rfl (q_ldo 13 tNa78_LbF) fun v63 hv63 => ?_; cases hv63))
                            <;> (first | refine kD 17 64 rfl ?_ | refine xD 17 64 rfl q_move ?_)
                            <;> (first | refine kD 18 65 rfl ?_ | refine xD 18 65 rfl (q_idxf 200 tSl78_LbF) ?_)
                            <;> (first | refine kD 19 66 rfl ?_ | (refine yD 19 66 rfl (q_ldf 200 tNa4_LbF) fun v66 hv66 => ?_; cases hv66))
                            <;> (first | refine kD 20 67 rfl ?_ | refine xD 20 67 rfl q_move ?_)
                            <;> (first | refine kD 21 68 rfl ?_ | (refine bD 67 (fun hb67 => ?_) (fun hb67 => ?_) <;> (first | refine kD 21 68 rfl ?_ | refine xD 21 68 rfl q_move ?_)))
                            <;> (first | refine kD 22 69 rfl ?_ | refine xD 22 69 rfl q_move ?_)
                            <;> (first | refine kD 23 70 rfl ?_ | refine xD 23 70 rfl (q_idxoN 13 tSl77_LbF) ?_)
                            <;> (first | refine kD 24 71 rfl ?_ | (refine yD 24 71 rfl (q_ldo 13 tNa78_LbF) fun v71 hv71 => ?_; cases hv71))
                            <;> (first | refine kD 25 72 rfl ?_ | refine xD 25 72 rfl q_move ?_)
                            <;> (first | refine kD 26 73 rfl ?_ | refine xD 26 73 rfl (q_idxf 200 tSl78_LbF) ?_)
                            <;> (first | refine kD 27 74 rfl ?_ | (refine yD 27 74 rfl (q_ldf 200 tNa4_LbF) fun v74 hv74 => ?_; cases hv74))
                            <;> (first | refine kD 28 75 rfl ?_ | refine xD 28 75 rfl q_pick ?_)
                            <;> refine xE 29 76 rfl q_pick ?_
                            <;> refine xE 30 77 rfl (q_idxf 200 tSl78_LbF) ?_
                            <;> (refine aD_one 31 (by kernel_rfl) ?_)
                            <;> (refine aW_last rfl rfl (by kernel_rfl) fun DQ back => ?_)
                            <;> refine s_stf 200 tNa4_LbF tSz4_LbF ?_
                            <;> refine aL_end (back _ (nav ?_))
                            <;> try dsimp only) <;> (
                            (refine aC_region ?_
                              <;> refine xL 78 q_add ?_
                              <;> refine xL 44 q_move ?_
                              <;> refine aL_end (nav ?_) <;> try dsimp only)
                            rw [warAt_step (by first | exact war_c1 hb59 | exact war_c2 hb59 hb67 | exact war_c3 hb59 hb67)]
                            refine aN_again (
                              ⟨j + 1, by omega⟩
                              ) (by dsimp only; omega) ⟨rfl, rfl, rfl, rfl, rfl, rfl, rfl, rfl, rfl, rfl, trivial⟩ ⟨rfl, rfl, trivial⟩))
                    · first
                      | exact Bool.noConfusion hb45
                      | (
                          refine nav ?_
                          (refine aC_region ?_
                            <;> refine xL 79 q_add ?_
                            <;> refine xL 39 q_move ?_
                            <;> refine aL_end (nav ?_) <;> try dsimp only)
                          rw [show j = n by omega, warAt_next]
                          refine aN_again (
                            ⟨i + 1, by omega⟩
                            ) (by dsimp only; omega) ⟨rfl, rfl, rfl, rfl, rfl, rfl, rfl, trivial⟩ ⟨rfl, rfl, trivial⟩))
              · first
                | exact Bool.noConfusion hb40
                | (
                    refine nav ?_
                    (refine aC_region ?_
                      <;> refine xL 80 q_add ?_
                      <;> refine xL 34 q_move ?_
                      <;> refine aL_end (nav ?_) <;> try dsimp only)
                    rw [show i = n by omega, warAt_end]
                    refine aN_again (
                      ⟨m + 1, by omega⟩
                      ) (by dsimp only; omega) ⟨rfl, rfl, rfl, rfl, trivial⟩ ⟨rfl, rfl, trivial⟩))
        · first
          | exact Bool.noConfusion hb35
          | (
              refine nav ?_
              (refine aC_region ?_
                <;> refine xL 81 q_move ?_
                <;> refine xL 2 q_assign ?_
                <;> refine aL_end (nav ?_) <;> try dsimp only)
              rw [show m = n by omega]
              refine aR_ent (gather (l := 13) (l' := 200) rfl rfl rfl rfl) fun _ => ?_
              refine aR_ent (En.freeze (l := 13) (t := 2) rfl rfl) fun _ => ?_
              refine ret_shr (Tryz.results45) rfl ?_
              exact share_mat _ _ n (war E n)))
/-! ### Loops and fits -/
def allB (n : Nat) (p : Nat → Bool) : Bool := (List.range n).all p
theorem allB_stop {n k : Nat} {p : Nat → Bool} (hk : k < n) (h : p k = false) : allB n p = false := List.all_eq_false.2 ⟨k, List.mem_range.2 hk, by rw [h]; simp⟩
theorem allB_end {n : Nat} {p : Nat → Bool} (h : ∀ j, j < n → p j = true) : allB n p = true := List.all_eq_true.2 fun j hj => h j (List.mem_range.1 hj)
def endsB (n : Nat) (E : Nat → Nat → Bool) (F : Nat → Bool) (a b : Nat) : Bool := !E a b || (F a && allB n fun x => !F x || E x b)
def begsB (n : Nat) (E : Nat → Nat → Bool) (S : Nat → Bool) (a b : Nat) : Bool := !E b a || (S a && allB n fun x => !S x || E b x)
def loopsB (n : Nat) (E : Nat → Nat → Bool) (S F : Nat → Bool) (a b : Nat) : Bool := endsB n E F a b && begsB n E S a b
def relP (l : List ByteArray) (n : Nat) (E : Nat → Nat → Bool) (S F : Nat → Bool) : PV := .sptr 0 [pStrs l, pMat n E, pBools n S, pBools n F]
set_option maxHeartbeats 1000000 in
theorem cLoops_e (l : List ByteArray) (n : Nat) (E : Nat → Nat → Bool) (S F : Nat → Bool) (a b : Nat) (hl : l.length = n) (hn : n ≤ 1000) (ha : a < n) (hb : b < n) : AF Tryz.prog 74 [relP l n E S F, pInt a, pInt b] (· = pBool (loopsB n E S F a b)) := by
  have ea := vec_at1 (fun i => pBools n (E i)) ha
  have eb := vec_at1 (fun i => pBools n (E i)) hb
  have eab := vec_at1 (fun j => pBool (E a j)) hb
  have eba := vec_at1 (fun j => pBool (E b j)) ha
  have fa := vec_at1 (fun j => pBool (F j)) ha
  have sa := vec_at1 (fun j => pBool (S j)) ha
  refine AF.of_body 103 Tryz.func74 rfl Tryz.ntmps74 (Nat.le_of_ble_eq_true rfl) ?_
  intro w0 M0 vs hl hv
  obtain ⟨v0, v1, v2, rfl⟩ := len3 hl
  obtain rfl := hv 1 _ _ rfl rfl
  obtain rfl := hv 2 _ _ rfl rfl
  clear hl hv
  dsimp only [relP]
  refine nav ?_
  (refine aC_region ?_
    <;> refine xL 6 q_assign ?_
    <;> refine aL_end (nav ?_) <;> try dsimp only)
  (refine aC_region ?_
    <;> refine xL 9 q_move ?_
    <;> refine xL 10 q_nilp ?_
    <;> refine xL 11 (q_fld tFl80_1_LbF) ?_
    <;> (refine yL 12 (q_ld tNa77_LbF) fun v12 hv12 => ?_; cases hv12)
    <;> refine xL 13 q_move ?_
    <;> refine xL 14 (q_idxN tSl77_LbF) ?_
    <;> (refine yL 15 (q_ld tNa78_LbF) fun v15 hv15 => ?_; cases hv15)
    <;> refine xL 16 q_move ?_
    <;> refine xL 17 (q_idxN tSl78_LbF) ?_
    <;> (refine yL 18 (q_ld tNa4_LbF) fun v18 hv18 => ?_; cases hv18)
    <;> refine aL_end (nav ?_) <;> try dsimp only)
  refine aC_mid (fun x : { x : Unit // endsB n E F a b = true } => ⟨[(0, v0, relP l n E S F), (1, .int .i64 a, pInt a), (2, .int .i64 b, pInt b)], []⟩) ?_ ?_
  · first | refine cCd (fun hb18 => ?_) (fun hb18 => ?_) | refine cC (fun hb18 => ?_) (fun hb18 => ?_)
    · first
      | exact Bool.noConfusion hb18
      | (
          refine nav ?_
          (refine aC_region ?_
            <;> refine xL 19 q_move ?_
            <;> refine xL 20 q_nilp ?_
            <;> refine xL 21 (q_fld tFl80_3_LbF) ?_
            <;> (refine yL 22 (q_ld tNa78_LbF) fun v22 hv22 => ?_; cases hv22)
            <;> refine xL 23 q_move ?_
            <;> refine xL 24 (q_idxN tSl78_LbF) ?_
            <;> (refine yL 25 (q_ld tNa4_LbF) fun v25 hv25 => ?_; cases hv25)
            <;> refine xL 26 q_not ?_
            <;> refine aL_end (nav ?_) <;> try dsimp only)
          first | refine cCd (fun hb26 => ?_) (fun hb26 => ?_) | refine cC (fun hb26 => ?_) (fun hb26 => ?_)
          · first
            | exact Bool.noConfusion hb26
            | (
                refine nav ?_
                (refine aC_region ?_
                  <;> refine xL 6 q_assign ?_
                  <;> refine aL_end (nav ?_) <;> try dsimp only)
                refine ret_shr (Tryz.results74) rfl ?_
                rw [show loopsB n E S F a b = false by unfold loopsB endsB; rw [hb18, show F a = false by simpa using hb26]; simp])
          · first
            | exact Bool.noConfusion hb26
            | (
                refine nav ?_
                (refine aC_region ?_
                  <;> refine xL 27 q_move ?_
                  <;> refine xL 28 q_nilp ?_
                  <;> refine xL 29 (q_fld tFl80_0_LbF) ?_
                  <;> (refine yL 30 (q_ld tNa36_LbF) fun v30 hv30 => ?_; cases hv30)
                  <;> refine xL 31 (q_len tSl36_LbF) ?_
                  <;> refine xL 32 q_move ?_
                  <;> refine aL_end (nav ?_) <;> try dsimp only)
                refine aC_loop (ι := { k : Nat // k ≤ n ∧ ∀ j, j < k → (!F j || E j b) = true }) (fun k => ⟨[(0, _, _), (1, _, _), (2, _, _), (31, _, _), (32, .int .i64 k.1, pInt k.1)], []⟩) (fun k => n - k.1) ⟨0, by omega, by omega⟩ (fun a w H => H.weaken ⟨rfl, rfl, rfl, rfl, rfl, trivial⟩ trivial) ?_
                rintro ⟨k, hk, hp⟩
                dsimp only
                refine nav ?_
                (refine aC_region ?_
                  <;> refine xL 33 q_lss ?_
                  <;> refine aL_end (nav ?_) <;> try dsimp only)
                first | refine cCd (fun hb33 => ?_) (fun hb33 => ?_) | refine cC (fun hb33 => ?_) (fun hb33 => ?_)
                · first
                  | exact Bool.noConfusion hb33
                  | (
                      have hlt : k < n := by omega
                      have fk := vec_at1 (fun j => pBool (F j)) hlt
                      have ek := vec_at1 (fun i => pBools n (E i)) hlt
                      have ekb := vec_at1 (fun j => pBool (E k j)) hb
                      refine nav ?_
                      (refine aC_region ?_
                        <;> refine xL 34 q_move ?_
                        <;> refine xL 7 q_assign ?_
                        <;> refine aL_end (nav ?_) <;> try dsimp only)
                      (refine aC_region ?_
                        <;> refine xL 35 q_move ?_
                        <;> refine xL 36 q_nilp ?_
                        <;> refine xL 37 (q_fld tFl80_3_LbF) ?_
                        <;> (refine yL 38 (q_ld tNa78_LbF) fun v38 hv38 => ?_; cases hv38)
                        <;> refine xL 39 q_move ?_
                        <;> refine xL 40 (q_idxN tSl78_LbF) ?_
                        <;> (refine yL 41 (q_ld tNa4_LbF) fun v41 hv41 => ?_; cases hv41)
                        <;> refine xL 42 q_move ?_
                        <;> (refine bL 42 (fun hb42 => ?_) (fun hb42 => ?_) <;> (first | refine kL 43 ?_ | refine xL 43 q_move ?_))
                        <;> (first | refine kL 44 ?_ | refine xL 44 q_nilp ?_)
                        <;> (first | refine kL 45 ?_ | refine xL 45 (q_fld tFl80_1_LbF) ?_)
                        <;> (first | refine kL 46 ?_ | (refine yL 46 (q_ld tNa77_LbF) fun v46 hv46 => ?_; cases hv46))
                        <;> (first | refine kL 47 ?_ | refine xL 47 q_move ?_)
                        <;> (first | refine kL 48 ?_ | refine xL 48 (q_idxN tSl77_LbF) ?_)
                        <;> (first | refine kL 49 ?_ | (refine yL 49 (q_ld tNa78_LbF) fun v49 hv49 => ?_; cases hv49))
                        <;> (first | refine kL 50 ?_ | refine xL 50 q_move ?_)
                        <;> (first | refine kL 51 ?_ | refine xL 51 (q_idxN tSl78_LbF) ?_)
                        <;> (first | refine kL 52 ?_ | (refine yL 52 (q_ld tNa4_LbF) fun v52 hv52 => ?_; cases hv52))
                        <;> (first | refine kL 53 ?_ | refine xL 53 q_not ?_)
                        <;> refine xL 54 q_pick ?_
                        <;> refine aL_end (nav ?_) <;> try dsimp only) <;> (
                        first | refine cCd (fun hb54 => ?_) (fun hb54 => ?_) | refine cC (fun hb54 => ?_) (fun hb54 => ?_)
                        · first
                          | exact Bool.noConfusion hb54
                          | (
                              refine nav ?_
                              (refine aC_region ?_
                                <;> refine xL 6 q_assign ?_
                                <;> refine aL_end (nav ?_) <;> try dsimp only)
                              refine ret_shr (Tryz.results74) rfl ?_
                              rw [show loopsB n E S F a b = false by unfold loopsB endsB; rw [hb18, allB_stop hlt (by rw [hb42, show E k b = false by simpa using hb54]; rfl)]; simp])
                        · first
                          | exact Bool.noConfusion hb54
                          | (
                              refine nav ?_
                              (refine aC_region ?_
                                <;> refine xL 55 q_add ?_
                                <;> refine xL 32 q_move ?_
                                <;> refine aL_end (nav ?_) <;> try dsimp only)
                              refine aN_again (
                                ⟨k + 1, by omega, fun j hj => by
                                  by_cases e : j = k
                                  · subst e
                                    first | (rw [hb42]; simpa using hb54) | (rw [hb42]; rfl)
                                  · exact hp j (by omega)⟩
                                ) (by dsimp only; omega) ⟨rfl, rfl, rfl, rfl, rfl, trivial⟩ trivial)))
                · first
                  | exact Bool.noConfusion hb33
                  | (
                      refine nav ?_
                      refine aN_join ⟨(), ?_⟩ ⟨rfl, rfl, rfl, trivial⟩ trivial
                      first
                        | (unfold endsB; rw [hb18, show F a = true by simpa using hb26, allB_end fun j hj => hp j (by omega)]; rfl)
                        | (unfold endsB; rw [hb18]; rfl))))
    · first
      | exact Bool.noConfusion hb18
      | (
          refine nav ?_
          refine aN_join ⟨(), ?_⟩ ⟨rfl, rfl, rfl, trivial⟩ trivial
          first
            | (unfold endsB; rw [hb18, show F a = true by simpa using hb26, allB_end fun j hj => hp j (by omega)]; rfl)
            | (unfold endsB; rw [hb18]; rfl))
  · rintro ⟨_, hends⟩
    dsimp only [relP]
    refine nav ?_
    (refine aC_region ?_
      <;> refine xL 56 q_move ?_
      <;> refine xL 57 q_nilp ?_
      <;> refine xL 58 (q_fld tFl80_1_LbF) ?_
      <;> (refine yL 59 (q_ld tNa77_LbF) fun v59 hv59 => ?_; cases hv59)
      <;> refine xL 60 q_move ?_
      <;> refine xL 61 (q_idxN tSl77_LbF) ?_
      <;> (refine yL 62 (q_ld tNa78_LbF) fun v62 hv62 => ?_; cases hv62)
      <;> refine xL 63 q_move ?_
      <;> refine xL 64 (q_idxN tSl78_LbF) ?_
      <;> (refine yL 65 (q_ld tNa4_LbF) fun v65 hv65 => ?_; cases hv65)
      <;> refine aL_end (nav ?_) <;> try dsimp only)
    first | refine cCd (fun hb65 => ?_) (fun hb65 => ?_) | refine cC (fun hb65 => ?_) (fun hb65 => ?_)
    · first
      | exact Bool.noConfusion hb65
      | (
          refine nav ?_
          (refine aC_region ?_
            <;> refine xL 66 q_move ?_
            <;> refine xL 67 q_nilp ?_
            <;> refine xL 68 (q_fld tFl80_2_LbF) ?_
            <;> (refine yL 69 (q_ld tNa78_LbF) fun v69 hv69 => ?_; cases hv69)
            <;> refine xL 70 q_move ?_
            <;> refine xL 71 (q_idxN tSl78_LbF) ?_
            <;> (refine yL 72 (q_ld tNa4_LbF) fun v72 hv72 => ?_; cases hv72)
            <;> refine xL 73 q_not ?_
            <;> refine aL_end (nav ?_) <;> try dsimp only)
          first | refine cCd (fun hb73 => ?_) (fun hb73 => ?_) | refine cC (fun hb73 => ?_) (fun hb73 => ?_)
          · first
            | exact Bool.noConfusion hb73
            | (
                refine nav ?_
                (refine aC_region ?_
                  <;> refine xL 6 q_assign ?_
                  <;> refine aL_end (nav ?_) <;> try dsimp only)
                refine ret_shr (Tryz.results74) rfl ?_
                rw [show loopsB n E S F a b = false by unfold loopsB begsB; rw [hb65, show S a = false by simpa using hb73]; simp])
          · first
            | exact Bool.noConfusion hb73
            | (
                refine nav ?_
                (refine aC_region ?_
                  <;> refine xL 74 q_move ?_
                  <;> refine xL 75 q_nilp ?_
                  <;> refine xL 76 (q_fld tFl80_0_LbF) ?_
                  <;> (refine yL 77 (q_ld tNa36_LbF) fun v77 hv77 => ?_; cases hv77)
                  <;> refine xL 78 (q_len tSl36_LbF) ?_
                  <;> refine xL 79 q_move ?_
                  <;> refine aL_end (nav ?_) <;> try dsimp only)
                refine aC_loop (ι := { k : Nat // k ≤ n ∧ ∀ j, j < k → (!S j || E b j) = true }) (fun k => ⟨[(0, _, _), (1, _, _), (2, _, _), (78, _, _), (79, .int .i64 k.1, pInt k.1)], []⟩) (fun k => n - k.1) ⟨0, by omega, by omega⟩ (fun a w H => H.weaken ⟨rfl, rfl, rfl, rfl, rfl, trivial⟩ trivial) ?_
                rintro ⟨k, hk, hp⟩
                dsimp only
                refine nav ?_
                (refine aC_region ?_
                  <;> refine xL 80 q_lss ?_
                  <;> refine aL_end (nav ?_) <;> try dsimp only)
                first | refine cCd (fun hb80 => ?_) (fun hb80 => ?_) | refine cC (fun hb80 => ?_) (fun hb80 => ?_)
                · first
                  | exact Bool.noConfusion hb80
                  | (
                      have hlt : k < n := by omega
                      have fk := vec_at1 (fun j => pBool (S j)) hlt
                      have ekb := vec_at1 (fun j => pBool (E b j)) hlt
                      refine nav ?_
                      (refine aC_region ?_
                        <;> refine xL 81 q_move ?_
                        <;> refine xL 8 q_assign ?_
                        <;> refine aL_end (nav ?_) <;> try dsimp only)
                      (refine aC_region ?_
                        <;> refine xL 82 q_move ?_
                        <;> refine xL 83 q_nilp ?_
                        <;> refine xL 84 (q_fld tFl80_2_LbF) ?_
                        <;> (refine yL 85 (q_ld tNa78_LbF) fun v85 hv85 => ?_; cases hv85)
                        <;> refine xL 86 q_move ?_
                        <;> refine xL 87 (q_idxN tSl78_LbF) ?_
                        <;> (refine yL 88 (q_ld tNa4_LbF) fun v88 hv88 => ?_; cases hv88)
                        <;> refine xL 89 q_move ?_
                        <;> (refine bL 89 (fun hb89 => ?_) (fun hb89 => ?_) <;> (first | refine kL 90 ?_ | refine xL 90 q_move ?_))
                        <;> (first | refine kL 91 ?_ | refine xL 91 q_nilp ?_)
                        <;> (first | refine kL 92 ?_ | refine xL 92 (q_fld tFl80_1_LbF) ?_)
                        <;> (first | refine kL 93 ?_ | (refine yL 93 (q_ld tNa77_LbF) fun v93 hv93 => ?_; cases hv93))
                        <;> (first | refine kL 94 ?_ | refine xL 94 q_move ?_)
                        <;> (first | refine kL 95 ?_ | refine xL 95 (q_idxN tSl77_LbF) ?_)
                        <;> (first | refine kL 96 ?_ | (refine yL 96 (q_ld tNa78_LbF) fun v96 hv96 => ?_; cases hv96))
                        <;> (first | refine kL 97 ?_ | refine xL 97 q_move ?_)
                        <;> (first | refine kL 98 ?_ | refine xL 98 (q_idxN tSl78_LbF) ?_)
                        <;> (first | refine kL 99 ?_ | (refine yL 99 (q_ld tNa4_LbF) fun v99 hv99 => ?_; cases hv99))
                        <;> (first | refine kL 100 ?_ | refine xL 100 q_not ?_)
                        <;> refine xL 101 q_pick ?_
                        <;> refine aL_end (nav ?_) <;> try dsimp only) <;> (
                        first | refine cCd (fun hb101 => ?_) (fun hb101 => ?_) | refine cC (fun hb101 => ?_) (fun hb101 => ?_)
                        · first
                          | exact Bool.noConfusion hb101
                          | (
                              refine nav ?_
                              (refine aC_region ?_
                                <;> refine xL 6 q_assign ?_
                                <;> refine aL_end (nav ?_) <;> try dsimp only)
                              refine ret_shr (Tryz.results74) rfl ?_
                              rw [show loopsB n E S F a b = false by unfold loopsB begsB; rw [hb65, allB_stop hlt (by rw [hb89, show E b k = false by simpa using hb101]; rfl)]; simp])
                        · first
                          | exact Bool.noConfusion hb101
                          | (
                              refine nav ?_
                              (refine aC_region ?_
                                <;> refine xL 102 q_add ?_
                                <;> refine xL 79 q_move ?_
                                <;> refine aL_end (nav ?_) <;> try dsimp only)
                              refine aN_again (
                                ⟨k + 1, by omega, fun j hj => by
                                  by_cases e : j = k
                                  · subst e
                                    first | (rw [hb89]; simpa using hb101) | (rw [hb89]; rfl)
                                  · exact hp j (by omega)⟩
                                ) (by dsimp only; omega) ⟨rfl, rfl, rfl, rfl, rfl, trivial⟩ trivial)))
                · first
                  | exact Bool.noConfusion hb80
                  | (
                      refine nav ?_
                      (refine aC_region ?_
                        <;> refine xL 6 q_assign ?_
                        <;> refine aL_end (nav ?_) <;> try dsimp only)
                      refine ret_shr (Tryz.results74) rfl ?_
                      first
                        | rw [show loopsB n E S F a b = true by unfold loopsB begsB; rw [hends, hb65, show S a = true by simpa using hb73, allB_end fun j hj => hp j (by omega)]; rfl]
                        | rw [show loopsB n E S F a b = true by unfold loopsB begsB; rw [hends, hb65]; rfl])))
    · first
      | exact Bool.noConfusion hb65
      | (
          refine nav ?_
          (refine aC_region ?_
            <;> refine xL 6 q_assign ?_
            <;> refine aL_end (nav ?_) <;> try dsimp only)
          refine ret_shr (Tryz.results74) rfl ?_
          first
            | rw [show loopsB n E S F a b = true by unfold loopsB begsB; rw [hends, hb65, show S a = true by simpa using hb73, allB_end fun j hj => hp j (by omega)]; rfl]
            | rw [show loopsB n E S F a b = true by unfold loopsB begsB; rw [hends, hb65]; rfl])
def fitsB (n : Nat) (E R : Nat → Nat → Bool) (S F : Nat → Bool) (kind : Int) (at' : Nat → Int) (a b : Nat) : Bool :=
  if kind = 1 then !E a b else if kind = 2 then decide (at' b < at' a) || (R a b && !R b a) else if kind = 3 then E a b
  else if at' a ≠ 0 ∧ at' b ≠ 0 then !E a b else if at' a = 0 then loopsB n E S F a b else true
def pIntsF (n : Nat) (f : Nat → Int) : PV := .sl n (vec n fun i => pInt (f i))
set_option maxHeartbeats 1000000 in
theorem cFits_e (l : List ByteArray) (n : Nat) (E R : Nat → Nat → Bool) (S F : Nat → Bool) (kind : Int) (at' : Nat → Int) (a b : Nat) (hl : l.length = n) (hn : n ≤ 1000) (ha : a < n) (hb : b < n) : AF Tryz.prog 46 [relP l n E S F, pMat n R, pInt kind, pInt a, pInt b, pIntsF n at'] (· = pBool (fitsB n E R S F kind at' a b)) := by
  have ea := vec_at1 (fun i => pBools n (E i)) ha
  have eab := vec_at1 (fun j => pBool (E a j)) hb
  have ra := vec_at1 (fun i => pBools n (R i)) ha
  have rb := vec_at1 (fun i => pBools n (R i)) hb
  have rab := vec_at1 (fun j => pBool (R a j)) hb
  have rba := vec_at1 (fun j => pBool (R b j)) ha
  have ia := vec_at1 (fun j => pInt (at' j)) ha
  have ib := vec_at1 (fun j => pInt (at' j)) hb
  refine AF.of_body 103 Tryz.func46 rfl Tryz.ntmps46 (Nat.le_of_ble_eq_true rfl) ?_
  intro w0 M0 vs hl hv
  obtain ⟨v0, v1, v2, v3, v4, v5, rfl⟩ := len6 hl
  obtain rfl := hv 2 _ _ rfl rfl
  obtain rfl := hv 3 _ _ rfl rfl
  obtain rfl := hv 4 _ _ rfl rfl
  clear hl hv
  dsimp only [relP, pIntsF]
  refine nav ?_
  (refine aC_region ?_
    <;> refine xL 12 q_assign ?_
    <;> refine aL_end (nav ?_) <;> try dsimp only)
  (refine aC_region ?_
    <;> refine xL 13 q_move ?_
    <;> refine aL_end (nav ?_) <;> try dsimp only)
  (refine aC_region ?_
    <;> refine xL 15 q_eql ?_
    <;> refine xL 14 q_assign ?_
    <;> refine aL_end (nav ?_) <;> try dsimp only)
  first | refine cCd (fun hb14 => ?_) (fun hb14 => ?_) | refine cC (fun hb14 => ?_) (fun hb14 => ?_)
  · first
    | exact Bool.noConfusion hb14
    | (
        refine nav ?_
        (refine aC_region ?_
          <;> refine xL 16 q_move ?_
          <;> refine xL 17 q_nilp ?_
          <;> refine xL 18 (q_fld tFl80_1_LbF) ?_
          <;> (refine yL 19 (q_ld tNa77_LbF) fun v19 hv19 => ?_; cases hv19)
          <;> refine xL 20 q_move ?_
          <;> refine xL 21 (q_idxN tSl77_LbF) ?_
          <;> (refine yL 22 (q_ld tNa78_LbF) fun v22 hv22 => ?_; cases hv22)
          <;> refine xL 23 q_move ?_
          <;> refine xL 24 (q_idxN tSl78_LbF) ?_
          <;> (refine yL 25 (q_ld tNa4_LbF) fun v25 hv25 => ?_; cases hv25)
          <;> refine xL 26 q_not ?_
          <;> refine xL 12 q_assign ?_
          <;> refine aL_end (nav ?_) <;> try dsimp only)
        refine ret_shr (Tryz.results46) rfl ?_
        unfold fitsB; rw [if_pos hb14])
  · first
    | exact Bool.noConfusion hb14
    | (
        refine nav ?_
        (refine aC_region ?_
          <;> refine xL 28 q_eql ?_
          <;> refine xL 27 q_assign ?_
          <;> refine aL_end (nav ?_) <;> try dsimp only)
        first | refine cCd (fun hb27 => ?_) (fun hb27 => ?_) | refine cC (fun hb27 => ?_) (fun hb27 => ?_)
        · first
          | exact Bool.noConfusion hb27
          | (
              refine nav ?_
              (refine aC_draw (fun i => ([] : List Nat).elem i) [] (by kernel_rfl) ?_
                <;> refine xD 0 29 rfl q_move ?_
                <;> refine xD 1 30 rfl q_move ?_
                <;> refine xD 2 31 rfl (q_idxN tSl81_LbF) ?_
                <;> (refine yD 3 32 rfl (q_ld tNa3_LbF) fun v32 hv32 => ?_; cases hv32)
                <;> refine xD 4 33 rfl q_move ?_
                <;> refine xE 5 34 rfl q_move ?_
                <;> refine xE 6 35 rfl (q_idxN tSl81_LbF) ?_
                <;> (refine yE 7 36 rfl (q_ld tNa3_LbF) fun v36 hv36 => ?_; cases hv36)
                <;> refine xE 8 37 rfl q_gtr ?_
                <;> refine xE 9 38 rfl q_move ?_
                <;> (refine bDd 38 (fun hb38 => ?_) (fun hb38 => ?_) <;> (first | refine kD 10 39 rfl ?_ | refine xD 10 39 rfl q_move ?_))
                <;> (first | refine kD 11 40 rfl ?_ | refine xD 11 40 rfl q_move ?_)
                <;> (first | refine kD 12 41 rfl ?_ | refine xD 12 41 rfl (q_idxN tSl77_LbF) ?_)
                <;> (first | refine kD 13 42 rfl ?_ | (refine yD 13 42 rfl (q_ld tNa78_LbF) fun v42 hv42 => ?_; cases hv42))
                <;> (first | refine kD 14 43 rfl ?_ | refine xD 14 43 rfl q_move ?_)
                <;> (first | refine kD 15 44 rfl ?_ | refine xD 15 44 rfl (q_idxN tSl78_LbF) ?_)
                <;> (first | refine kD 16 45 rfl ?_ | (refine yD 16 45 rfl (q_ld tNa4_LbF) fun v45 hv45 => ?_; cases hv45))
                <;> (first | refine kD 17 46 rfl ?_ | refine xD 17 46 rfl q_move ?_)
                <;> (first | refine kD 18 47 rfl ?_ | (refine bD 46 (fun hb46 => ?_) (fun hb46 => ?_) <;> (first | refine kD 18 47 rfl ?_ | refine xD 18 47 rfl q_move ?_)))
                <;> (first | refine kD 19 48 rfl ?_ | refine xD 19 48 rfl q_move ?_)
                <;> (first | refine kD 20 49 rfl ?_ | refine xD 20 49 rfl (q_idxN tSl77_LbF) ?_)
                <;> (first | refine kD 21 50 rfl ?_ | (refine yD 21 50 rfl (q_ld tNa78_LbF) fun v50 hv50 => ?_; cases hv50))
                <;> (first | refine kD 22 51 rfl ?_ | refine xD 22 51 rfl q_move ?_)
                <;> (first | refine kD 23 52 rfl ?_ | refine xD 23 52 rfl (q_idxN tSl78_LbF) ?_)
                <;> (first | refine kD 24 53 rfl ?_ | (refine yD 24 53 rfl (q_ld tNa4_LbF) fun v53 hv53 => ?_; cases hv53))
                <;> (first | refine kD 25 54 rfl ?_ | refine xD 25 54 rfl q_not ?_)
                <;> (first | refine kD 26 55 rfl ?_ | refine xD 26 55 rfl q_pick ?_)
                <;> refine xE 27 56 rfl q_pick ?_
                <;> refine xE 28 12 rfl q_assign ?_
                <;> refine aD_end (by kernel_rfl) (nav ?_)
                <;> try dsimp only) <;> (
                refine ret_shr (Tryz.results46) rfl ?_
                unfold fitsB; rw [if_neg hb14, if_pos hb27]
                first
                  | rw [decide_eq_true hb38]; rfl
                  | rw [decide_eq_false hb38, hb46]; simp))
        · first
          | exact Bool.noConfusion hb27
          | (
              refine nav ?_
              (refine aC_region ?_
                <;> refine xL 58 q_eql ?_
                <;> refine xL 57 q_assign ?_
                <;> refine aL_end (nav ?_) <;> try dsimp only)
              first | refine cCd (fun hb57 => ?_) (fun hb57 => ?_) | refine cC (fun hb57 => ?_) (fun hb57 => ?_)
              · first
                | exact Bool.noConfusion hb57
                | (
                    refine nav ?_
                    (refine aC_region ?_
                      <;> refine xL 59 q_move ?_
                      <;> refine xL 60 q_nilp ?_
                      <;> refine xL 61 (q_fld tFl80_1_LbF) ?_
                      <;> (refine yL 62 (q_ld tNa77_LbF) fun v62 hv62 => ?_; cases hv62)
                      <;> refine xL 63 q_move ?_
                      <;> refine xL 64 (q_idxN tSl77_LbF) ?_
                      <;> (refine yL 65 (q_ld tNa78_LbF) fun v65 hv65 => ?_; cases hv65)
                      <;> refine xL 66 q_move ?_
                      <;> refine xL 67 (q_idxN tSl78_LbF) ?_
                      <;> (refine yL 68 (q_ld tNa4_LbF) fun v68 hv68 => ?_; cases hv68)
                      <;> refine xL 12 q_assign ?_
                      <;> refine aL_end (nav ?_) <;> try dsimp only)
                    refine ret_shr (Tryz.results46) rfl ?_
                    unfold fitsB; rw [if_neg hb14, if_neg hb27, if_pos hb57])
              · first
                | exact Bool.noConfusion hb57
                | (
                    refine nav ?_
                    (refine aC_region ?_
                      <;> refine xL 70 q_move ?_
                      <;> refine xL 71 q_move ?_
                      <;> refine xL 72 (q_idxN tSl81_LbF) ?_
                      <;> (refine yL 73 (q_ld tNa3_LbF) fun v73 hv73 => ?_; cases hv73)
                      <;> refine xL 74 q_neq ?_
                      <;> refine xL 75 q_move ?_
                      <;> (refine bLd 75 (fun hb75 => ?_) (fun hb75 => ?_) <;> (first | refine kL 76 ?_ | refine xL 76 q_move ?_))
                      <;> (first | refine kL 77 ?_ | refine xL 77 q_move ?_)
                      <;> (first | refine kL 78 ?_ | refine xL 78 (q_idxN tSl81_LbF) ?_)
                      <;> (first | refine kL 79 ?_ | (refine yL 79 (q_ld tNa3_LbF) fun v79 hv79 => ?_; cases hv79))
                      <;> (first | refine kL 80 ?_ | refine xL 80 q_neq ?_)
                      <;> refine xL 81 q_pick ?_
                      <;> refine xL 69 q_assign ?_
                      <;> refine aL_end (nav ?_) <;> try dsimp only) <;> (
                      first | refine cCd (fun hb69 => ?_) (fun hb69 => ?_) | refine cC (fun hb69 => ?_) (fun hb69 => ?_)
                      · first
                        | exact Bool.noConfusion hb69
                        | (
                            refine nav ?_
                            (refine aC_region ?_
                              <;> refine xL 82 q_move ?_
                              <;> refine xL 83 q_nilp ?_
                              <;> refine xL 84 (q_fld tFl80_1_LbF) ?_
                              <;> (refine yL 85 (q_ld tNa77_LbF) fun v85 hv85 => ?_; cases hv85)
                              <;> refine xL 86 q_move ?_
                              <;> refine xL 87 (q_idxN tSl77_LbF) ?_
                              <;> (refine yL 88 (q_ld tNa78_LbF) fun v88 hv88 => ?_; cases hv88)
                              <;> refine xL 89 q_move ?_
                              <;> refine xL 90 (q_idxN tSl78_LbF) ?_
                              <;> (refine yL 91 (q_ld tNa4_LbF) fun v91 hv91 => ?_; cases hv91)
                              <;> refine xL 92 q_not ?_
                              <;> refine xL 12 q_assign ?_
                              <;> refine aL_end (nav ?_) <;> try dsimp only)
                            refine ret_shr (Tryz.results46) rfl ?_
                            unfold fitsB; rw [if_neg hb14, if_neg hb27, if_neg hb57, if_pos ⟨by omega, by omega⟩])
                      · first
                        | exact Bool.noConfusion hb69
                        | (
                            refine nav ?_
                            (refine aC_region ?_
                              <;> refine xL 94 q_move ?_
                              <;> refine xL 95 q_move ?_
                              <;> refine xL 96 (q_idxN tSl81_LbF) ?_
                              <;> (refine yL 97 (q_ld tNa3_LbF) fun v97 hv97 => ?_; cases hv97)
                              <;> refine xL 98 q_eql ?_
                              <;> refine xL 93 q_assign ?_
                              <;> refine aL_end (nav ?_) <;> try dsimp only)
                            first | refine cCd (fun hb93 => ?_) (fun hb93 => ?_) | refine cC (fun hb93 => ?_) (fun hb93 => ?_)
                            · first
                              | exact Bool.noConfusion hb93
                              | (
                                  refine nav ?_
                                  (refine aC_region ?_
                                    <;> refine xL 99 q_move ?_
                                    <;> refine xL 100 q_move ?_
                                    <;> refine xL 101 q_move ?_
                                    <;> (refine cS 102 (cA Tryz.call74 (cLoops_e l n E S F a b hl hn ha hb)) fun v102 hv102 => ?_; cases hv102)
                                    <;> refine xL 12 q_assign ?_
                                    <;> refine aL_end (nav ?_) <;> try dsimp only)
                                  refine ret_shr (Tryz.results46) rfl ?_
                                  unfold fitsB; rw [if_neg hb14, if_neg hb27, if_neg hb57, if_neg (by omega), if_pos (by omega)])
                            · first
                              | exact Bool.noConfusion hb93
                              | (
                                  refine nav ?_
                                  (refine aC_region ?_
                                    <;> refine xL 12 q_assign ?_
                                    <;> refine aL_end (nav ?_) <;> try dsimp only)
                                  refine ret_shr (Tryz.results46) rfl ?_
                                  unfold fitsB; rw [if_neg hb14, if_neg hb27, if_neg hb57, if_neg (by omega), if_neg (by omega)]))))))
def RBegin (g : Dfg) (p : PV) : Prop := p = if dfgOk g then .tup [pRel g, pInt 0] else .tup [.val (.pointer none), pInt 1]
theorem cBegin_e (g : Dfg) (hf : fitD g) (ha : g.acts.length ≤ 1000000) (hs : g.starts.length ≤ 1000000) (he : g.ends.length ≤ 1000000) : AF Tryz.prog 43 [pDfg g] (RBegin g) := by
  refine AF.of_body 9 Tryz.func43 rfl Tryz.ntmps43 (Nat.le_of_ble_eq_true rfl) ?_
  intro w0 M0 vs hl hv
  obtain ⟨v0, rfl⟩ := len1 hl
  clear hl hv
  refine nav ?_
  (refine aC_region ?_
    <;> refine s_boxa 1 4 fun h1 => ?_
    <;> refine xL 2 q_assign ?_
    <;> refine xL 3 q_assign ?_
    <;> refine aL_end (nav ?_) <;> try dsimp only)
  (refine aC_region ?_
    <;> (refine yL 4 (q_ldao 1 tAgg25_LbF) fun v4 hv4 => ?_; cases hv4)
    <;> (refine cS 5 (cA Tryz.call101 (dValid_e g hf ha hs he)) fun v5 hv5 => ?_; cases hv5)
    <;> refine xL 6 q_not ?_
    <;> refine aL_end (nav ?_) <;> try dsimp only)
  first | refine cCd (fun hb6 => ?_) (fun hb6 => ?_) | refine cC (fun hb6 => ?_) (fun hb6 => ?_)
  · first
    | exact Bool.noConfusion hb6
    | (
        refine nav ?_
        (refine aC_region ?_
          <;> refine xL 2 q_assign ?_
          <;> refine xL 3 q_assign ?_
          <;> refine aL_end (nav ?_) <;> try dsimp only)
        refine ret_ss (Tryz.results43) rfl rfl ?_
        unfold RBegin; rw [show dfgOk g = false by simpa using hb6]; rfl)
  · first
    | exact Bool.noConfusion hb6
    | (
        refine nav ?_
        (refine aC_region ?_
          <;> (refine yL 7 (q_ldao 1 tAgg25_LbF) fun v7 hv7 => ?_; cases hv7)
          <;> (refine cS 8 (cA Tryz.call102 (cOf_e g (by simpa using hb6) hf.2.2.2.1 hf.2.1.1 hf.2.2.1.1)) fun v8 hv8 => ?_; cases hv8)
          <;> refine xL 2 q_assign ?_
          <;> refine xL 3 q_assign ?_
          <;> refine aL_end (nav ?_) <;> try dsimp only)
        refine ret_ss (Tryz.results43) rfl rfl ?_
        unfold RBegin; rw [show dfgOk g = true by simpa using hb6]; rfl)
end Go.Proofs.YtoanjgpdepaciaaGreat

namespace Go.Proofs.YtoanjgpdepaciaaGreat
open Go.RowKit Go.Cb Go.En
set_option linter.all false
set_option maxRecDepth 100000

theorem tAgg25_LbG : AggT Tryz.prog 25 4 = true := by kernel_rfl
theorem tAgg28_LbG : AggT Tryz.prog 28 2 = true := by kernel_rfl
theorem tEl81_LbG : ElT Tryz.prog 81 3 1 8 (.int .i64 0) := ⟨Tryz.underlying81, by kernel_rfl, rfl, by decide⟩
theorem tFl28_0_LbG : FldT Tryz.prog 28 0 0 = true := by kernel_rfl
theorem tFl28_1_LbG : FldT Tryz.prog 28 1 1 = true := by kernel_rfl
theorem tFl80_0_LbG : FldT Tryz.prog 80 0 0 = true := by kernel_rfl
theorem tFl80_2_LbG : FldT Tryz.prog 80 2 2 = true := by kernel_rfl
theorem tFl80_3_LbG : FldT Tryz.prog 80 3 3 = true := by kernel_rfl
theorem tMp74_LbG : MpT Tryz.prog 74 9 3 .string (.int .i64 0) := ⟨Tryz.underlying74, Tryz.underlying9, .inl rfl, by show ZeroT _ _ _; unfold ZeroT; kernel_rfl⟩
theorem tNa26_LbG : NoAgg Tryz.prog 26 = true := by kernel_rfl
theorem tNa36_LbG : NoAgg Tryz.prog 36 = true := by kernel_rfl
theorem tNa3_LbG : NoAgg Tryz.prog 3 = true := by kernel_rfl
theorem tNa4_LbG : NoAgg Tryz.prog 4 = true := by kernel_rfl
theorem tNa78_LbG : NoAgg Tryz.prog 78 = true := by kernel_rfl
theorem tNa9_LbG : NoAgg Tryz.prog 9 = true := by kernel_rfl
theorem tSl26_LbG : SlT Tryz.prog 26 36 1 = true := by kernel_rfl
theorem tSl36_LbG : SlT Tryz.prog 36 9 1 = true := by kernel_rfl
theorem tSl78_LbG : SlT Tryz.prog 78 4 1 = true := by kernel_rfl
theorem tSl81_LbG : SlT Tryz.prog 81 3 1 = true := by kernel_rfl
theorem tSz3_LbG : (Tryz.prog.info? 3).map (·.size) = some 1 := by kernel_rfl

def anyB (n : Nat) (p : Nat → Bool) : Bool := (List.range n).any p
theorem anyB_snoc (n : Nat) (p : Nat → Bool) : anyB (n + 1) p = (anyB n p || p n) := by unfold anyB; rw [List.range_succ, List.any_append]; simp
def atF (c : Cut) (l : List ByteArray) (i : Nat) : Int := partOf c.parts (l[i]?.getD ByteArray.empty)
def okA (n : Nat) (E R : Nat → Nat → Bool) (S F : Nat → Bool) (kind : Int) (at' : Nat → Int) (a : Nat) : Bool := !(decide (kind = 4) && decide (at' a ≠ 0) && (S a || F a)) && allB n fun b => decide (at' a = at' b) || fitsB n E R S F kind at' a b
def okP (n : Nat) (S F : Nat → Bool) (at' : Nat → Int) (k : Nat) : Bool := anyB n (fun i => decide (at' i = k) && S i) && anyB n (fun i => decide (at' i = k) && F i)
/-- What cut.Valid asks, the graph and the parts being in form. -/
def validB (l : List ByteArray) (n : Nat) (E : Nat → Nat → Bool) (S F : Nat → Bool) (c : Cut) : Bool :=
  decide (c.parts.flatten.length = n) && allB n (fun i => decide (0 ≤ atF c l i)) && allB n (okA n E (reachB n E) S F c.kind (atF c l)) && (!decide (c.kind = 3) || allB c.parts.length (okP n S F (atF c l)))
theorem validB_len {l : List ByteArray} {n : Nat} {E : Nat → Nat → Bool} {S F : Nat → Bool} {c : Cut} (h : c.parts.flatten.length ≠ n) : validB l n E S F c = false := by unfold validB; rw [decide_eq_false h]; simp
theorem validB_at {l : List ByteArray} {n : Nat} {E : Nat → Nat → Bool} {S F : Nat → Bool} {c : Cut} {i : Nat} (hi : i < n) (h : atF c l i < 0) : validB l n E S F c = false := by
  unfold validB; rw [allB_stop (p := fun i => decide (0 ≤ atF c l i)) hi (decide_eq_false (by omega))]; simp
theorem validB_a {l : List ByteArray} {n : Nat} {E : Nat → Nat → Bool} {S F : Nat → Bool} {c : Cut} {i : Nat} (hi : i < n) (h : okA n E (reachB n E) S F c.kind (atF c l) i = false) : validB l n E S F c = false := by
  unfold validB; rw [allB_stop hi h]; simp
theorem validB_p {l : List ByteArray} {n : Nat} {E : Nat → Nat → Bool} {S F : Nat → Bool} {c : Cut} {k : Nat} (h3 : c.kind = 3) (hi : k < c.parts.length) (h : okP n S F (atF c l) k = false) : validB l n E S F c = false := by
  unfold validB; rw [allB_stop hi h, decide_eq_true h3]; simp
theorem okA_1 {n : Nat} {E R : Nat → Nat → Bool} {S F : Nat → Bool} {kind : Int} {at' : Nat → Int} {a : Nat} (h1 : kind = 4) (h2 : at' a ≠ 0) (h3 : S a = true ∨ F a = true) : okA n E R S F kind at' a = false := by
  unfold okA; rw [decide_eq_true h1, decide_eq_true h2]; rcases h3 with h3 | h3 <;> rw [h3] <;> simp
theorem okA_2 {n : Nat} {E R : Nat → Nat → Bool} {S F : Nat → Bool} {kind : Int} {at' : Nat → Int} {a b : Nat} (hb : b < n) (h1 : at' a ≠ at' b) (h2 : fitsB n E R S F kind at' a b = false) : okA n E R S F kind at' a = false := by
  unfold okA; rw [allB_stop hb (by rw [decide_eq_false h1, h2]; rfl)]; simp
theorem okA_3 {n : Nat} {E R : Nat → Nat → Bool} {S F : Nat → Bool} {kind : Int} {at' : Nat → Int} {a : Nat} (h1 : ¬ (kind = 4 ∧ at' a ≠ 0 ∧ (S a = true ∨ F a = true))) (h2 : ∀ b, b < n → (decide (at' a = at' b) || fitsB n E R S F kind at' a b) = true) : okA n E R S F kind at' a = true := by
  unfold okA; rw [allB_end h2, Bool.and_true, Bool.not_eq_true']
  rw [← Bool.not_eq_true]
  intro h
  simp only [Bool.and_eq_true, decide_eq_true_eq, Bool.or_eq_true] at h
  exact h1 ⟨h.1.1, h.1.2, h.2⟩
theorem at_get {c : Cut} {l : List ByteArray} {k : Nat} {s : ByteArray} (h : l[k]? = some s) : atF c l k = partOf c.parts s := by unfold atF; rw [h]; rfl
theorem look_some {ps : List (List ByteArray)} {s : ByteArray} (h : (mget (skv (entries 0 ps)) (.string s)).isSome = true) : (mget (skv (entries 0 ps)) (.string s)).getD (.int .i64 0) = .int .i64 (partOf ps s) ∧ 0 ≤ partOf ps s := by
  rw [mget_skv, aget_parts] at h ⊢
  have h2 := partMap_isSome' ps s
  rw [partMap_of]
  rw [Option.isSome_map] at h
  rw [h] at h2
  cases hp : partMap ps s with
  | none => rw [hp] at h; cases h
  | some x =>
    refine ⟨rfl, ?_⟩
    have := of_decide_eq_true h2.symm
    rw [partMap_of, hp] at this
    exact this
theorem look_none {ps : List (List ByteArray)} {s : ByteArray} (h : (mget (skv (entries 0 ps)) (.string s)).isSome = false) : partOf ps s < 0 := by
  rw [mget_skv, aget_parts, Option.isSome_map, partMap_isSome'] at h
  have := of_decide_eq_false h; omega
theorem in_step {n k : Nat} {f : Nat → Int} {x : Int} (hx : x = f k) : (vec n fun i => pInt (if i < k then f i else 0)).set (k * 1) (pInt x) = vec n fun i => pInt (if i < k + 1 then f i else 0) := by
  subst hx
  rw [Nat.mul_one, vec_set]
  refine vec_congr fun i hi => ?_
  by_cases e : i = k
  · subst e; rw [if_pos rfl, if_pos (by omega)]
  · rw [if_neg e]
    by_cases h : i < k
    · rw [if_pos h, if_pos (by omega)]
    · rw [if_neg h, if_neg (by omega)]
theorem share_ints (e n : Nat) (f : Nat → Int) : share (.own e 1 n (vec n fun i => pInt (f i))) = pIntsF n f := by
  rw [share, shares_eq, vec_map]; rfl
theorem cValid_no (g : Dfg) (c : Cut) (hb : AF Tryz.prog 43 [pDfg g] (· = .tup [.val (.pointer none), pInt 1])) (hs : ∀ p ∈ c.parts, ∀ s ∈ p, s.size ≤ 140737488355328) : AF Tryz.prog 10 [pDfg g, pCut c] (· = pBool false) := by
  refine AF.of_body 202 Tryz.func10 rfl Tryz.ntmps10 (Nat.le_of_ble_eq_true rfl) ?_
  intro w0 M0 vs hl hv
  obtain ⟨v0, v1, rfl⟩ := len2 hl
  clear hl hv
  refine nav ?_
  (refine aC_region ?_
    <;> refine s_boxa 2 4 fun h2 => ?_
    <;> refine s_boxa 3 2 fun h3 => ?_
    <;> refine xL 4 q_assign ?_
    <;> refine aL_end (nav ?_) <;> try dsimp only)
  (refine aC_region ?_
    <;> (refine yL 22 (q_ldao 2 tAgg25_LbG) fun v22 hv22 => ?_; cases hv22)
    <;> (refine cT 23 23 201 (cA Tryz.call43 (hb)) fun v23 v201 hv23 hv201 ho23 ho201 => ?_; cases hv23; cases hv201; dsimp only [qq, addH, isSh, cond_true, cond_false])
    <;> refine xL 21 q_move ?_
    <;> refine xL 24 q_extract ?_
    <;> refine xL 25 q_extract ?_
    <;> refine xL 5 q_assign ?_
    <;> refine xL 6 q_assign ?_
    <;> refine aL_end (nav ?_) <;> try dsimp only)
  (refine aC_region ?_
    <;> (refine yL 27 (q_ldao 3 tAgg28_LbG) fun v27 hv27 => ?_; cases hv27)
    <;> (refine aL_ct (R := fun p => ∃ q, p = .tup [q, pBool (formedB c)] ∧ cellOk q = true) 28 28 202 rfl rfl (Nat.le_of_ble_eq_true rfl) rfl rfl rfl (callA rfl (Tryz.call44) rfl ((cparts_e c hs).mono fun p ⟨q, e1, _, e3⟩ => ⟨q, e1, by rcases e3 with rfl | ⟨es, rfl⟩ <;> rfl⟩)) ?_; rintro p' ⟨q, rfl, hq⟩; refine ⟨_, _, rfl, hq, rfl, ?_⟩; intro h28 v202 _ hv202 ho28 _; cases hv202)
    <;> refine xL 26 q_move ?_
    <;> refine xL 29 q_extract ?_
    <;> refine xL 30 q_extract ?_
    <;> refine xL 7 q_assign ?_
    <;> refine xL 8 q_assign ?_
    <;> refine aL_end (nav ?_) <;> try dsimp only)
  (refine aC_draw (fun i => ([] : List Nat).elem i) [] (by kernel_rfl) ?_
    <;> refine xE 0 31 rfl q_move ?_
    <;> refine xE 1 32 rfl q_neq ?_
    <;> refine xE 2 33 rfl q_move ?_
    <;> refine kD 3 34 rfl ?_
    <;> refine kD 4 35 rfl ?_
    <;> refine xE 5 36 rfl q_pick ?_
    <;> refine xE 6 37 rfl q_move ?_
    <;> refine kD 7 38 rfl ?_
    <;> refine kD 8 39 rfl ?_
    <;> refine kD 9 40 rfl ?_
    <;> refine kD 10 41 rfl ?_
    <;> refine kD 11 42 rfl ?_
    <;> refine kD 12 43 rfl ?_
    <;> refine kD 13 44 rfl ?_
    <;> refine kD 14 45 rfl ?_
    <;> refine xE 15 46 rfl q_pick ?_
    <;> refine aD_end (by kernel_rfl) (nav ?_)
    <;> try dsimp only) <;> (try (exfalso; omega)) <;> (
    refine cCt ?_
    refine nav ?_
    (refine aC_region ?_
      <;> refine xL 4 q_assign ?_
      <;> refine aL_end (nav ?_) <;> try dsimp only)
    exact ret_shr Tryz.results10 rfl rfl)
theorem cValid_unformed (g : Dfg) (l : List ByteArray) (n : Nat) (E : Nat → Nat → Bool) (S F : Nat → Bool) (c : Cut) (hb : AF Tryz.prog 43 [pDfg g] (· = .tup [relP l n E S F, pInt 0])) (hF : formedB c = false) (hs : ∀ p ∈ c.parts, ∀ s ∈ p, s.size ≤ 140737488355328) : AF Tryz.prog 10 [pDfg g, pCut c] (· = pBool false) := by
  refine AF.of_body 202 Tryz.func10 rfl Tryz.ntmps10 (Nat.le_of_ble_eq_true rfl) ?_
  intro w0 M0 vs hl hv
  obtain ⟨v0, v1, rfl⟩ := len2 hl
  clear hl hv
  refine nav ?_
  (refine aC_region ?_
    <;> refine s_boxa 2 4 fun h2 => ?_
    <;> refine s_boxa 3 2 fun h3 => ?_
    <;> refine xL 4 q_assign ?_
    <;> refine aL_end (nav ?_) <;> try dsimp only)
  (refine aC_region ?_
    <;> (refine yL 22 (q_ldao 2 tAgg25_LbG) fun v22 hv22 => ?_; cases hv22)
    <;> (refine cT 23 23 201 (cA Tryz.call43 (hb)) fun v23 v201 hv23 hv201 ho23 ho201 => ?_; cases hv23; cases hv201; dsimp only [qq, addH, isSh, cond_true, cond_false])
    <;> refine xL 21 q_move ?_
    <;> refine xL 24 q_extract ?_
    <;> refine xL 25 q_extract ?_
    <;> refine xL 5 q_assign ?_
    <;> refine xL 6 q_assign ?_
    <;> refine aL_end (nav ?_) <;> try dsimp only)
  (refine aC_region ?_
    <;> (refine yL 27 (q_ldao 3 tAgg28_LbG) fun v27 hv27 => ?_; cases hv27)
    <;> (refine aL_ct (R := fun p => ∃ q, p = .tup [q, pBool false] ∧ cellOk q = true) 28 28 202 rfl rfl (Nat.le_of_ble_eq_true rfl) rfl rfl rfl (callA rfl (Tryz.call44) rfl ((cparts_e c hs).mono fun p ⟨q, e1, _, e3⟩ => ⟨q, by rw [e1, hF], by rcases e3 with rfl | ⟨es, rfl⟩ <;> rfl⟩)) ?_; rintro p' ⟨q, rfl, hq⟩; refine ⟨_, _, rfl, hq, rfl, ?_⟩; intro h28 v202 _ hv202 ho28 _; cases hv202)
    <;> refine xL 26 q_move ?_
    <;> refine xL 29 q_extract ?_
    <;> refine xL 30 q_extract ?_
    <;> refine xL 7 q_assign ?_
    <;> refine xL 8 q_assign ?_
    <;> refine aL_end (nav ?_) <;> try dsimp only)
  (refine aC_draw (fun i => ([] : List Nat).elem i) [] (by kernel_rfl) ?_
    <;> refine xE 0 31 rfl q_move ?_
    <;> refine xE 1 32 rfl q_neq ?_
    <;> refine xE 2 33 rfl q_move ?_
    <;> refine xD 3 34 rfl q_move ?_
    <;> refine xD 4 35 rfl q_not ?_
    <;> refine xE 5 36 rfl q_pick ?_
    <;> refine xE 6 37 rfl q_move ?_
    <;> refine kD 7 38 rfl ?_
    <;> refine kD 8 39 rfl ?_
    <;> refine kD 9 40 rfl ?_
    <;> refine kD 10 41 rfl ?_
    <;> refine kD 11 42 rfl ?_
    <;> refine kD 12 43 rfl ?_
    <;> refine kD 13 44 rfl ?_
    <;> refine kD 14 45 rfl ?_
    <;> refine xE 15 46 rfl q_pick ?_
    <;> refine aD_end (by kernel_rfl) (nav ?_)
    <;> try dsimp only) <;> (try (exfalso; omega)) <;> (
    refine cCt ?_
    refine nav ?_
    (refine aC_region ?_
      <;> refine xL 4 q_assign ?_
      <;> refine aL_end (nav ?_) <;> try dsimp only)
    exact ret_shr Tryz.results10 rfl rfl)
set_option maxHeartbeats 2000000 in
theorem cValid_good (g : Dfg) (l : List ByteArray) (n : Nat) (E : Nat → Nat → Bool) (S F : Nat → Bool) (c : Cut) (hb : AF Tryz.prog 43 [pDfg g] (· = .tup [relP l n E S F, pInt 0])) (hl : l.length = n) (hn : n ≤ 1000) (hF : formedB c = true) (hs : ∀ p ∈ c.parts, ∀ s ∈ p, s.size ≤ 140737488355328) (hc : c.parts.length ≤ 1000000) : AF Tryz.prog 10 [pDfg g, pCut c] (· = pBool (validB l n E S F c)) := by
  have hmap : (skv (entries 0 c.parts)).length = c.parts.flatten.length := by unfold skv; rw [List.length_map, entries_len]
  refine AF.of_body 202 Tryz.func10 rfl Tryz.ntmps10 (Nat.le_of_ble_eq_true rfl) ?_
  intro w0 M0 vs hl hv
  obtain ⟨v0, v1, rfl⟩ := len2 hl
  clear hl hv
  refine nav ?_
  (refine aC_region ?_
    <;> refine s_boxa 2 4 fun h2 => ?_
    <;> refine s_boxa 3 2 fun h3 => ?_
    <;> refine xL 4 q_assign ?_
    <;> refine aL_end (nav ?_) <;> try dsimp only)
  (refine aC_region ?_
    <;> (refine yL 22 (q_ldao 2 tAgg25_LbG) fun v22 hv22 => ?_; cases hv22)
    <;> (refine cT 23 23 201 (cA Tryz.call43 (hb)) fun v23 v201 hv23 hv201 ho23 ho201 => ?_; cases hv23; cases hv201; dsimp only [qq, addH, isSh, cond_true, cond_false])
    <;> refine xL 21 q_move ?_
    <;> refine xL 24 q_extract ?_
    <;> refine xL 25 q_extract ?_
    <;> refine xL 5 q_assign ?_
    <;> refine xL 6 q_assign ?_
    <;> refine aL_end (nav ?_) <;> try dsimp only)
  (refine aC_region ?_
    <;> (refine yL 27 (q_ldao 3 tAgg28_LbG) fun v27 hv27 => ?_; cases hv27)
    <;> (refine aL_ct (R := (· = .tup [.omap (skv (entries 0 c.parts)), pBool true])) 28 28 202 rfl rfl (Nat.le_of_ble_eq_true rfl) rfl rfl rfl (callA rfl (Tryz.call44) rfl ((cparts_e c hs).mono fun p ⟨q, e1, e2, _⟩ => by rw [e1, e2 hF, hF])) ?_; rintro p' rfl; refine ⟨_, _, rfl, rfl, rfl, ?_⟩; intro h28 v202 _ hv202 ho28 _; cases hv202)
    <;> refine xL 26 q_move ?_
    <;> refine xL 29 q_extract ?_
    <;> refine xL 30 q_extract ?_
    <;> refine xL 7 q_assign ?_
    <;> refine xL 8 q_assign ?_
    <;> refine aL_end (nav ?_) <;> try dsimp only)
  dsimp only [relP]
  (refine aC_draw (fun i => ([] : List Nat).elem i) [28] (by kernel_rfl) ?_
    <;> refine xE 0 31 rfl q_move ?_
    <;> refine xE 1 32 rfl q_neq ?_
    <;> refine xE 2 33 rfl q_move ?_
    <;> refine xD 3 34 rfl q_move ?_
    <;> refine xD 4 35 rfl q_not ?_
    <;> refine xE 5 36 rfl q_pick ?_
    <;> refine xE 6 37 rfl q_move ?_
    <;> refine xD 7 38 rfl q_move ?_
    <;> refine xD 8 39 rfl (q_mleno 28 Tryz.underlying74) ?_
    <;> refine xD 9 40 rfl q_move ?_
    <;> refine xD 10 41 rfl q_nilp ?_
    <;> refine xD 11 42 rfl (q_fld tFl80_0_LbG) ?_
    <;> (refine yD 12 43 rfl (q_ld tNa36_LbG) fun v43 hv43 => ?_; cases hv43)
    <;> refine xD 13 44 rfl (q_len tSl36_LbG) ?_
    <;> refine xD 14 45 rfl q_neq ?_
    <;> refine xE 15 46 rfl q_pick ?_
    <;> refine aD_end (by kernel_rfl) (nav ?_)
    <;> try dsimp only) <;> (try (exfalso; omega)) <;> (
    first | refine cCd (fun hb46 => ?_) (fun hb46 => ?_) | refine cC (fun hb46 => ?_) (fun hb46 => ?_)
    · first
      | exact Bool.noConfusion hb46
      | (
          refine nav ?_
          (refine aC_region ?_
            <;> refine xL 4 q_assign ?_
            <;> refine aL_end (nav ?_) <;> try dsimp only)
          refine ret_shr (Tryz.results10) rfl ?_
          rw [validB_len (by omega)])
    · first
      | exact Bool.noConfusion hb46
      | (
          refine nav ?_
          (refine aC_region ?_
            <;> refine xL 47 q_move ?_
            <;> refine xL 48 q_nilp ?_
            <;> refine xL 49 (q_fld tFl80_0_LbG) ?_
            <;> (refine yL 50 (q_ld tNa36_LbG) fun v50 hv50 => ?_; cases hv50)
            <;> refine xL 51 (q_len tSl36_LbG) ?_
            <;> refine s_make 52 tEl81_LbG fun h52 ho52 => ?_
            <;> refine xL 9 q_assign ?_
            <;> refine aL_end (nav ?_) <;> try dsimp only)
          (refine aC_region ?_
            <;> refine xL 53 q_move ?_
            <;> refine xL 54 q_nilp ?_
            <;> refine xL 55 (q_fld tFl80_0_LbG) ?_
            <;> (refine yL 56 (q_ld tNa36_LbG) fun v56 hv56 => ?_; cases hv56)
            <;> refine xL 57 (q_len tSl36_LbG) ?_
            <;> refine xL 58 q_move ?_
            <;> refine aL_end (nav ?_) <;> try dsimp only)
          rw [hl]
          rw [show List.replicate n (PV.val (.int .i64 0)) = vec n (fun i => pInt (if i < 0 then atF c l i else 0)) by rw [vec_const]; exact vec_congr fun i _ => by rw [if_neg (by omega)]]
          refine aC_loop (ι := { k : Nat // k ≤ n ∧ ∀ j, j < k → decide (0 ≤ atF c l j) = true }) (fun k => ⟨[(2, _, _), (3, _, _), (5, _, _), (7, _, _), (9, _, _), (56, _, _), (57, _, _), (58, .int .i64 k.1, pInt k.1)], [(2, _, _), (3, _, _), (28, _, _), (52, h52, .own 3 1 n (vec n fun i => pInt (if i < k.1 then atF c l i else 0)))]⟩) (fun k => n - k.1) ⟨0, by omega, by omega⟩ (fun a w H => H.weaken ⟨rfl, rfl, rfl, rfl, rfl, rfl, rfl, rfl, trivial⟩ ⟨rfl, rfl, rfl, rfl, trivial⟩) ?_
          rintro ⟨k, hk, hp⟩
          dsimp only
          refine nav ?_
          (refine aC_region ?_
            <;> refine xL 59 q_lss ?_
            <;> refine aL_end (nav ?_) <;> try dsimp only)
          first | refine cCd (fun hb59 => ?_) (fun hb59 => ?_) | refine cC (fun hb59 => ?_) (fun hb59 => ?_)
          · first
            | exact Bool.noConfusion hb59
            | (
                have hlt : k < n := by omega
                obtain ⟨s, hsk⟩ := get_some (show k < l.length by omega)
                have e1 := map_at (f := pStr) hsk
                have hat := at_get (c := c) hsk
                have e5 := vec_len n (fun i => pInt (if i < k then atF c l i else 0))
                refine nav ?_
                (refine aC_region ?_
                  <;> refine xL 60 q_move ?_
                  <;> refine xL 61 (q_idxN tSl36_LbG) ?_
                  <;> (refine yL 62 (q_ld tNa9_LbG) fun v62 hv62 => ?_; cases hv62)
                  <;> refine xL 10 q_assign ?_
                  <;> refine xL 11 q_assign ?_
                  <;> refine aL_end (nav ?_) <;> try dsimp only)
                (refine aC_region ?_
                  <;> refine xL 64 q_move ?_
                  <;> refine xL 65 q_move ?_
                  <;> refine xL 66 (q_looko2 28 tMp74_LbG) ?_
                  <;> refine xL 63 q_move ?_
                  <;> refine xL 67 q_extract ?_
                  <;> refine xL 68 q_extract ?_
                  <;> refine xL 12 q_assign ?_
                  <;> refine xL 13 q_assign ?_
                  <;> refine aL_end (nav ?_) <;> try dsimp only)
                (refine aC_region ?_
                  <;> refine xL 69 q_move ?_
                  <;> refine xL 70 q_not ?_
                  <;> refine aL_end (nav ?_) <;> try dsimp only)
                first | refine cCd (fun hb70 => ?_) (fun hb70 => ?_) | refine cC (fun hb70 => ?_) (fun hb70 => ?_)
                · first
                  | exact Bool.noConfusion hb70
                  | (
                      refine nav ?_
                      (refine aC_region ?_
                        <;> refine xL 4 q_assign ?_
                        <;> refine aL_end (nav ?_) <;> try dsimp only)
                      refine ret_shr (Tryz.results10) rfl ?_
                      rw [validB_at hlt (by rw [hat]; exact look_none (by simpa using hb70))])
                · first
                  | exact Bool.noConfusion hb70
                  | (
                      have hlk := look_some (ps := c.parts) (s := s) (by simpa using hb70)
                      rw [hlk.1]
                      refine nav ?_
                      (refine aC_region ?_
                        <;> refine xL 71 q_move ?_
                        <;> refine xL 72 q_move ?_
                        <;> refine xL 73 q_move ?_
                        <;> refine xL 74 (q_idxoN 52 tSl81_LbG) ?_
                        <;> refine s_st 52 tNa3_LbG tSz3_LbG ?_
                        <;> refine aL_end (nav ?_) <;> try dsimp only)
                      (refine aC_region ?_
                        <;> refine xL 75 q_add ?_
                        <;> refine xL 58 q_move ?_
                        <;> refine aL_end (nav ?_) <;> try dsimp only)
                      rw [in_step hat.symm]
                      refine aN_again (
                        ⟨k + 1, by omega, fun j hj => by
                          by_cases e : j = k
                          · subst e; rw [hat]; exact decide_eq_true hlk.2
                          · exact hp j (by omega)⟩
                        ) (by dsimp only; omega) ⟨rfl, rfl, rfl, rfl, rfl, rfl, rfl, rfl, trivial⟩ ⟨rfl, rfl, rfl, rfl, trivial⟩))
          · first
            | exact Bool.noConfusion hb59
            | (
                refine nav ?_
                rw [show (vec n fun i => pInt (if i < k then atF c l i else 0)) = vec n fun i => pInt (atF c l i) from vec_congr fun i hi => by rw [if_pos (by omega)]]
                refine aC_ent (En.freeze (l := 52) (t := 9) rfl rfl) fun _ => ?_
                rw [share_ints]
                have hat0 : allB n (fun i => decide (0 ≤ atF c l i)) = true := allB_end fun j hj => hp j (by omega)
                clear hp
                dsimp only [pIntsF]
                (refine aC_region ?_
                  <;> refine xL 76 q_move ?_
                  <;> (refine cS 77 (cA Tryz.call45 (cReach_e l n E (pBools n S) (pBools n F) hl hn)) fun v77 hv77 => ?_; cases hv77)
                  <;> refine xL 14 q_assign ?_
                  <;> refine aL_end (nav ?_) <;> try dsimp only)
                (refine aC_region ?_
                  <;> refine xL 78 q_move ?_
                  <;> refine xL 79 q_nilp ?_
                  <;> refine xL 80 (q_fld tFl80_0_LbG) ?_
                  <;> (refine yL 81 (q_ld tNa36_LbG) fun v81 hv81 => ?_; cases hv81)
                  <;> refine xL 82 (q_len tSl36_LbG) ?_
                  <;> refine xL 83 q_move ?_
                  <;> refine aL_end (nav ?_) <;> try dsimp only)
                refine aC_loop (ι := { k : Nat // k ≤ n ∧ ∀ j, j < k → okA n E (reachB n E) S F c.kind (atF c l) j = true }) (fun k => ⟨[(2, _, _), (3, _, _), (5, _, _), (9, _, _), (14, _, _), (82, _, _), (83, .int .i64 k.1, pInt k.1)], [(2, _, _), (3, _, _)]⟩) (fun k => n - k.1) ⟨0, by omega, by omega⟩ (fun a w H => H.weaken ⟨rfl, rfl, rfl, rfl, rfl, rfl, rfl, trivial⟩ ⟨rfl, rfl, trivial⟩) ?_
                rintro ⟨a, hka, hpa⟩
                dsimp only
                refine nav ?_
                (refine aC_region ?_
                  <;> refine xL 84 q_lss ?_
                  <;> refine aL_end (nav ?_) <;> try dsimp only)
                first | refine cCd (fun hb84 => ?_) (fun hb84 => ?_) | refine cC (fun hb84 => ?_) (fun hb84 => ?_)
                · first
                  | exact Bool.noConfusion hb84
                  | (
                      have halt : a < n := by omega
                      have e1 := vec_at1 (fun i => pInt (atF c l i)) halt
                      have e2 := vec_at1 (fun i => pBool (S i)) halt
                      have e3 := vec_at1 (fun i => pBool (F i)) halt
                      refine nav ?_
                      (refine aC_region ?_
                        <;> refine xL 85 q_move ?_
                        <;> refine xL 15 q_assign ?_
                        <;> refine aL_end (nav ?_) <;> try dsimp only)
                      (refine aC_region ?_
                        <;> refine xL 86 (q_fldo 3 tFl28_0_LbG) ?_
                        <;> (refine yL 87 (q_ldo 3 tNa3_LbG) fun v87 hv87 => ?_; cases hv87)
                        <;> refine xL 88 q_eql ?_
                        <;> refine xL 89 q_move ?_
                        <;> (refine bLd 89 (fun hb89 => ?_) (fun hb89 => ?_) <;> (first | refine kL 90 ?_ | refine xL 90 q_move ?_))
                        <;> (first | refine kL 91 ?_ | refine xL 91 q_move ?_)
                        <;> (first | refine kL 92 ?_ | refine xL 92 (q_idxN tSl81_LbG) ?_)
                        <;> (first | refine kL 93 ?_ | (refine yL 93 (q_ld tNa3_LbG) fun v93 hv93 => ?_; cases hv93))
                        <;> (first | refine kL 94 ?_ | refine xL 94 q_neq ?_)
                        <;> refine xL 95 q_pick ?_
                        <;> refine xL 96 q_move ?_
                        <;> (first | refine kL 97 ?_ | (refine bLd 96 (fun hb96 => ?_) (fun hb96 => ?_) <;> (first | refine kL 97 ?_ | refine xL 97 q_move ?_)))
                        <;> (first | refine kL 98 ?_ | refine xL 98 q_nilp ?_)
                        <;> (first | refine kL 99 ?_ | refine xL 99 (q_fld tFl80_2_LbG) ?_)
                        <;> (first | refine kL 100 ?_ | (refine yL 100 (q_ld tNa78_LbG) fun v100 hv100 => ?_; cases hv100))
                        <;> (first | refine kL 101 ?_ | refine xL 101 q_move ?_)
                        <;> (first | refine kL 102 ?_ | refine xL 102 (q_idxN tSl78_LbG) ?_)
                        <;> (first | refine kL 103 ?_ | (refine yL 103 (q_ld tNa4_LbG) fun v103 hv103 => ?_; cases hv103))
                        <;> (first | refine kL 104 ?_ | refine xL 104 q_move ?_)
                        <;> (first | refine kL 105 ?_ | (refine bL 104 (fun hb104 => ?_) (fun hb104 => ?_) <;> (first | refine kL 105 ?_ | refine xL 105 q_move ?_)))
                        <;> (first | refine kL 106 ?_ | refine xL 106 q_nilp ?_)
                        <;> (first | refine kL 107 ?_ | refine xL 107 (q_fld tFl80_3_LbG) ?_)
                        <;> (first | refine kL 108 ?_ | (refine yL 108 (q_ld tNa78_LbG) fun v108 hv108 => ?_; cases hv108))
                        <;> (first | refine kL 109 ?_ | refine xL 109 q_move ?_)
                        <;> (first | refine kL 110 ?_ | refine xL 110 (q_idxN tSl78_LbG) ?_)
                        <;> (first | refine kL 111 ?_ | (refine yL 111 (q_ld tNa4_LbG) fun v111 hv111 => ?_; cases hv111))
                        <;> (first | refine kL 112 ?_ | refine xL 112 q_pick ?_)
                        <;> refine xL 113 q_pick ?_
                        <;> refine aL_end (nav ?_) <;> try dsimp only) <;> (
                        first | refine cCd (fun hb113 => ?_) (fun hb113 => ?_) | refine cC (fun hb113 => ?_) (fun hb113 => ?_)
                        · first
                          | exact Bool.noConfusion hb113
                          | (
                              refine nav ?_
                              (refine aC_region ?_
                                <;> refine xL 4 q_assign ?_
                                <;> refine aL_end (nav ?_) <;> try dsimp only)
                              refine ret_shr (Tryz.results10) rfl ?_
                              rw [validB_a halt (okA_1 (by omega) (by omega) (by first | exact .inl hb104 | exact .inr hb113))])
                        · first
                          | exact Bool.noConfusion hb113
                          | (
                              refine nav ?_
                              (refine aC_region ?_
                                <;> refine xL 114 q_move ?_
                                <;> refine xL 115 q_nilp ?_
                                <;> refine xL 116 (q_fld tFl80_0_LbG) ?_
                                <;> (refine yL 117 (q_ld tNa36_LbG) fun v117 hv117 => ?_; cases hv117)
                                <;> refine xL 118 (q_len tSl36_LbG) ?_
                                <;> refine xL 119 q_move ?_
                                <;> refine aL_end (nav ?_) <;> try dsimp only)
                              have hA1 : ¬ (c.kind = 4 ∧ atF c l a ≠ 0 ∧ (S a = true ∨ F a = true)) := by
                                rintro ⟨g1, g2, g3⟩
                                first
                                  | omega
                                  | (rcases g3 with g3 | g3
                                     · rw [hb104] at g3; cases g3
                                     · rw [hb113] at g3; cases g3)
                              refine aC_loop (ι := { k : Nat // k ≤ n ∧ ∀ b, b < k → (decide (atF c l a = atF c l b) || fitsB n E (reachB n E) S F c.kind (atF c l) a b) = true }) (fun k => ⟨[(2, _, _), (3, _, _), (5, _, _), (9, _, _), (14, _, _), (82, _, _), (83, _, _), (15, _, _), (118, _, _), (119, .int .i64 k.1, pInt k.1)], [(2, _, _), (3, _, _)]⟩) (fun k => n - k.1) ⟨0, by omega, by omega⟩ (fun a w H => H.weaken ⟨rfl, rfl, rfl, rfl, rfl, rfl, rfl, rfl, rfl, rfl, trivial⟩ ⟨rfl, rfl, trivial⟩) ?_
                              rintro ⟨b, hkb, hpb⟩
                              dsimp only
                              refine nav ?_
                              (refine aC_region ?_
                                <;> refine xL 120 q_lss ?_
                                <;> refine aL_end (nav ?_) <;> try dsimp only)
                              first | refine cCd (fun hb120 => ?_) (fun hb120 => ?_) | refine cC (fun hb120 => ?_) (fun hb120 => ?_)
                              · first
                                | exact Bool.noConfusion hb120
                                | (
                                    have hblt : b < n := by omega
                                    have e4 := vec_at1 (fun i => pInt (atF c l i)) hblt
                                    refine nav ?_
                                    (refine aC_region ?_
                                      <;> refine xL 121 q_move ?_
                                      <;> refine xL 16 q_assign ?_
                                      <;> refine aL_end (nav ?_) <;> try dsimp only)
                                    (refine aC_draw (fun i => ([] : List Nat).elem i) [3] (by kernel_rfl) ?_
                                      <;> refine xD 0 122 rfl q_move ?_
                                      <;> refine xD 1 123 rfl q_move ?_
                                      <;> refine xD 2 124 rfl (q_idxN tSl81_LbG) ?_
                                      <;> (refine yD 3 125 rfl (q_ld tNa3_LbG) fun v125 hv125 => ?_; cases hv125)
                                      <;> refine xD 4 126 rfl q_move ?_
                                      <;> refine xE 5 127 rfl q_move ?_
                                      <;> refine xE 6 128 rfl (q_idxN tSl81_LbG) ?_
                                      <;> (refine yE 7 129 rfl (q_ld tNa3_LbG) fun v129 hv129 => ?_; cases hv129)
                                      <;> refine xE 8 130 rfl q_neq ?_
                                      <;> refine xE 9 131 rfl q_move ?_
                                      <;> (refine bDd 131 (fun hb131 => ?_) (fun hb131 => ?_) <;> (first | refine kD 10 132 rfl ?_ | refine xD 10 132 rfl q_move ?_))
                                      <;> (first | refine kD 11 133 rfl ?_ | refine xD 11 133 rfl q_move ?_)
                                      <;> (first | refine kD 12 134 rfl ?_ | refine xD 12 134 rfl (q_fldo 3 tFl28_0_LbG) ?_)
                                      <;> (first | refine kD 13 135 rfl ?_ | (refine yD 13 135 rfl (q_ldo 3 tNa3_LbG) fun v135 hv135 => ?_; cases hv135))
                                      <;> (first | refine kD 14 136 rfl ?_ | refine xD 14 136 rfl q_move ?_)
                                      <;> (first | refine kD 15 137 rfl ?_ | refine xD 15 137 rfl q_move ?_)
                                      <;> (first | refine kD 16 138 rfl ?_ | refine xD 16 138 rfl q_move ?_)
                                      <;> (refine aD_one 17 (by kernel_rfl) ?_)
                                      <;> (first | (refine aW_call (d := 139) rfl (cA Tryz.call46 (cFits_e l n E (reachB n E) S F c.kind (atF c l) a b hl hn halt hblt)) fun v139 hv139 => ?_; cases hv139) | (refine aW_run rfl fun w9 M9 N9 DQ back => ?_; refine kL 139 ?_; refine aL_end (back _ (nrm ?_))))
                                      <;> (first | refine kD 18 140 rfl ?_ | refine xD 18 140 rfl q_not ?_)
                                      <;> refine xE 19 141 rfl q_pick ?_
                                      <;> refine aD_end (by kernel_rfl) (nav ?_)
                                      <;> try dsimp only) <;> (
                                      first | refine cCd (fun hb141 => ?_) (fun hb141 => ?_) | refine cC (fun hb141 => ?_) (fun hb141 => ?_)
                                      · first
                                        | exact Bool.noConfusion hb141
                                        | (
                                            refine nav ?_
                                            (refine aC_region ?_
                                              <;> refine xL 4 q_assign ?_
                                              <;> refine aL_end (nav ?_) <;> try dsimp only)
                                            refine ret_shr (Tryz.results10) rfl ?_
                                            rw [validB_a halt (okA_2 hblt hb131 (by simpa using hb141))])
                                      · first
                                        | exact Bool.noConfusion hb141
                                        | (
                                            refine nav ?_
                                            (refine aC_region ?_
                                              <;> refine xL 142 q_add ?_
                                              <;> refine xL 119 q_move ?_
                                              <;> refine aL_end (nav ?_) <;> try dsimp only)
                                            refine aN_again (
                                              ⟨b + 1, by omega, fun j hj => by
                                                by_cases e : j = b
                                                · subst e
                                                  first
                                                    | (rw [decide_eq_false hb131, show fitsB n E (reachB n E) S F c.kind (atF c l) a j = true by simpa using hb141]; rfl)
                                                    | (rw [decide_eq_true (show atF c l a = atF c l j by omega)]; rfl)
                                                · exact hpb j (by omega)⟩
                                              ) (by dsimp only; omega) ⟨rfl, rfl, rfl, rfl, rfl, rfl, rfl, rfl, rfl, rfl, trivial⟩ ⟨rfl, rfl, trivial⟩)))
                              · first
                                | exact Bool.noConfusion hb120
                                | (
                                    refine nav ?_
                                    (refine aC_region ?_
                                      <;> refine xL 143 q_add ?_
                                      <;> refine xL 83 q_move ?_
                                      <;> refine aL_end (nav ?_) <;> try dsimp only)
                                    refine aN_again (
                                      ⟨a + 1, by omega, fun j hj => by
                                        by_cases e : j = a
                                        · subst e; exact okA_3 hA1 fun b' hb' => hpb b' (by omega)
                                        · exact hpa j (by omega)⟩
                                      ) (by dsimp only; omega) ⟨rfl, rfl, rfl, rfl, rfl, rfl, rfl, trivial⟩ ⟨rfl, rfl, trivial⟩))))
                · first
                  | exact Bool.noConfusion hb84
                  | (
                      refine nav ?_
                      (refine aC_region ?_
                        <;> refine xL 144 (q_fldo 3 tFl28_0_LbG) ?_
                        <;> (refine yL 145 (q_ldo 3 tNa3_LbG) fun v145 hv145 => ?_; cases hv145)
                        <;> refine xL 146 q_eql ?_
                        <;> refine aL_end (nav ?_) <;> try dsimp only)
                      first | refine cCd (fun hb146 => ?_) (fun hb146 => ?_) | refine cC (fun hb146 => ?_) (fun hb146 => ?_)
                      · first
                        | exact Bool.noConfusion hb146
                        | (
                            refine nav ?_
                            (refine aC_region ?_
                              <;> refine xL 147 (q_fldo 3 tFl28_1_LbG) ?_
                              <;> (refine yL 148 (q_ldo 3 tNa26_LbG) fun v148 hv148 => ?_; cases hv148)
                              <;> refine xL 149 (q_len tSl26_LbG) ?_
                              <;> refine xL 150 q_move ?_
                              <;> refine aL_end (nav ?_) <;> try dsimp only)
                            refine aC_loop (ι := { k : Nat // k ≤ c.parts.length ∧ ∀ j, j < k → okP n S F (atF c l) j = true }) (fun k => ⟨[(2, _, _), (3, _, _), (5, _, _), (9, _, _), (149, _, _), (150, .int .i64 k.1, pInt k.1)], [(2, _, _), (3, _, _)]⟩) (fun k => c.parts.length - k.1) ⟨0, by omega, by omega⟩ (fun a w H => H.weaken ⟨rfl, rfl, rfl, rfl, rfl, rfl, trivial⟩ ⟨rfl, rfl, trivial⟩) ?_
                            rintro ⟨q, hkq, hpq⟩
                            dsimp only
                            refine nav ?_
                            (refine aC_region ?_
                              <;> refine xL 151 q_lss ?_
                              <;> refine aL_end (nav ?_) <;> try dsimp only)
                            first | refine cCd (fun hb151 => ?_) (fun hb151 => ?_) | refine cC (fun hb151 => ?_) (fun hb151 => ?_)
                            · first
                              | exact Bool.noConfusion hb151
                              | (
                                  refine nav ?_
                                  (refine aC_region ?_
                                    <;> refine xL 152 q_move ?_
                                    <;> refine xL 17 q_assign ?_
                                    <;> refine aL_end (nav ?_) <;> try dsimp only)
                                  (refine aC_region ?_
                                    <;> refine xL 18 q_assign ?_
                                    <;> refine xL 19 q_assign ?_
                                    <;> refine aL_end (nav ?_) <;> try dsimp only)
                                  (refine aC_region ?_
                                    <;> refine xL 153 q_move ?_
                                    <;> refine xL 154 (q_len tSl81_LbG) ?_
                                    <;> refine xL 155 q_move ?_
                                    <;> refine aL_end (nav ?_) <;> try dsimp only)
                                  refine aC_loop (ι := { x : Nat × Bool × Bool // x.1 ≤ n ∧ x.2.1 = anyB x.1 (fun i => decide (atF c l i = q) && S i) ∧ x.2.2 = anyB x.1 (fun i => decide (atF c l i = q) && F i) }) (fun k => ⟨[(2, _, _), (3, _, _), (5, _, _), (9, _, _), (149, _, _), (150, _, _), (17, _, _), (154, _, _), (155, .int .i64 k.1.1, pInt k.1.1), (18, .bool k.1.2.1, pBool k.1.2.1), (19, .bool k.1.2.2, pBool k.1.2.2)], [(2, _, _), (3, _, _)]⟩) (fun k => n - k.1.1) ⟨(0, false, false), by omega, rfl, rfl⟩ (fun a w H => H.weaken ⟨rfl, rfl, rfl, rfl, rfl, rfl, rfl, rfl, rfl, rfl, rfl, trivial⟩ ⟨rfl, rfl, trivial⟩) ?_
                                  rintro ⟨⟨i, bs, bf⟩, hki, hS, hFn⟩
                                  dsimp only
                                  dsimp only at hki hS hFn
                                  refine nav ?_
                                  (refine aC_region ?_
                                    <;> refine xL 156 q_lss ?_
                                    <;> refine aL_end (nav ?_) <;> try dsimp only)
                                  first | refine cCd (fun hb156 => ?_) (fun hb156 => ?_) | refine cC (fun hb156 => ?_) (fun hb156 => ?_)
                                  · first
                                    | exact Bool.noConfusion hb156
                                    | (
                                        have hilt : i < n := by omega
                                        have e1 := vec_at1 (fun i => pInt (atF c l i)) hilt
                                        have e2 := vec_at1 (fun i => pBool (S i)) hilt
                                        have e3 := vec_at1 (fun i => pBool (F i)) hilt
                                        refine nav ?_
                                        (refine aC_region ?_
                                          <;> refine xL 157 q_move ?_
                                          <;> refine xL 20 q_assign ?_
                                          <;> refine aL_end (nav ?_) <;> try dsimp only)
                                        (refine aC_region ?_
                                          <;> refine xL 158 q_move ?_
                                          <;> refine xL 159 q_move ?_
                                          <;> (refine bL 159 (fun hb159 => ?_) (fun hb159 => ?_) <;> (first | refine kL 160 ?_ | refine xL 160 q_move ?_))
                                          <;> (first | refine kL 161 ?_ | refine xL 161 q_move ?_)
                                          <;> (first | refine kL 162 ?_ | refine xL 162 (q_idxN tSl81_LbG) ?_)
                                          <;> (first | refine kL 163 ?_ | (refine yL 163 (q_ld tNa3_LbG) fun v163 hv163 => ?_; cases hv163))
                                          <;> (first | refine kL 164 ?_ | refine xL 164 q_move ?_)
                                          <;> (first | refine kL 165 ?_ | refine xL 165 q_eql ?_)
                                          <;> (first | refine kL 166 ?_ | refine xL 166 q_move ?_)
                                          <;> (first | refine kL 167 ?_ | (refine bLd 166 (fun hb166 => ?_) (fun hb166 => ?_) <;> (first | refine kL 167 ?_ | refine xL 167 q_move ?_)))
                                          <;> (first | refine kL 168 ?_ | refine xL 168 q_nilp ?_)
                                          <;> (first | refine kL 169 ?_ | refine xL 169 (q_fld tFl80_2_LbG) ?_)
                                          <;> (first | refine kL 170 ?_ | (refine yL 170 (q_ld tNa78_LbG) fun v170 hv170 => ?_; cases hv170))
                                          <;> (first | refine kL 171 ?_ | refine xL 171 q_move ?_)
                                          <;> (first | refine kL 172 ?_ | refine xL 172 (q_idxN tSl78_LbG) ?_)
                                          <;> (first | refine kL 173 ?_ | (refine yL 173 (q_ld tNa4_LbG) fun v173 hv173 => ?_; cases hv173))
                                          <;> (first | refine kL 174 ?_ | refine xL 174 q_pick ?_)
                                          <;> refine xL 175 q_pick ?_
                                          <;> refine xL 18 q_assign ?_
                                          <;> refine aL_end (nav ?_) <;> try dsimp only) <;> (
                                          (refine aC_region ?_
                                            <;> refine xL 176 q_move ?_
                                            <;> refine xL 177 q_move ?_
                                            <;> (refine bL 177 (fun hb177 => ?_) (fun hb177 => ?_) <;> (first | refine kL 178 ?_ | refine xL 178 q_move ?_))
                                            <;> (first | refine kL 179 ?_ | refine xL 179 q_move ?_)
                                            <;> (first | refine kL 180 ?_ | refine xL 180 (q_idxN tSl81_LbG) ?_)
                                            <;> (first | refine kL 181 ?_ | (refine yL 181 (q_ld tNa3_LbG) fun v181 hv181 => ?_; cases hv181))
                                            <;> (first | refine kL 182 ?_ | refine xL 182 q_move ?_)
                                            <;> (first | refine kL 183 ?_ | refine xL 183 q_eql ?_)
                                            <;> (first | refine kL 184 ?_ | refine xL 184 q_move ?_)
                                            <;> (first | refine kL 185 ?_ | (refine bLd 184 (fun hb184 => ?_) (fun hb184 => ?_) <;> (first | refine kL 185 ?_ | refine xL 185 q_move ?_)))
                                            <;> (first | refine kL 186 ?_ | refine xL 186 q_nilp ?_)
                                            <;> (first | refine kL 187 ?_ | refine xL 187 (q_fld tFl80_3_LbG) ?_)
                                            <;> (first | refine kL 188 ?_ | (refine yL 188 (q_ld tNa78_LbG) fun v188 hv188 => ?_; cases hv188))
                                            <;> (first | refine kL 189 ?_ | refine xL 189 q_move ?_)
                                            <;> (first | refine kL 190 ?_ | refine xL 190 (q_idxN tSl78_LbG) ?_)
                                            <;> (first | refine kL 191 ?_ | (refine yL 191 (q_ld tNa4_LbG) fun v191 hv191 => ?_; cases hv191))
                                            <;> (first | refine kL 192 ?_ | refine xL 192 q_pick ?_)
                                            <;> refine xL 193 q_pick ?_
                                            <;> refine xL 19 q_assign ?_
                                            <;> refine aL_end (nav ?_) <;> try dsimp only) <;> (
                                            (refine aC_region ?_
                                              <;> refine xL 194 q_add ?_
                                              <;> refine xL 155 q_move ?_
                                              <;> refine aL_end (nav ?_) <;> try dsimp only)
                                            refine aN_again (
                                              ⟨(i + 1, _, _), by show i + 1 ≤ n; omega, by
                                                show _ = anyB (i + 1) _
                                                first
                                                  | (rw [anyB_snoc, ← hS, hb159]; rfl)
                                                  | (rw [anyB_snoc, ← hS, hb159, decide_eq_true hb166]; simp; done)
                                                  | (rw [anyB_snoc, ← hS, hb159, decide_eq_false hb166]; rfl), by
                                                show _ = anyB (i + 1) _
                                                first
                                                  | (rw [anyB_snoc, ← hFn, hb177]; rfl)
                                                  | (rw [anyB_snoc, ← hFn, hb177, decide_eq_true hb184]; simp; done)
                                                  | (rw [anyB_snoc, ← hFn, hb177, decide_eq_false hb184]; rfl)⟩
                                              ) (by show n - (i + 1) < n - i; omega) ⟨rfl, rfl, rfl, rfl, rfl, rfl, rfl, rfl, rfl, rfl, rfl, trivial⟩ ⟨rfl, rfl, trivial⟩)))
                                  · first
                                    | exact Bool.noConfusion hb156
                                    | (
                                        refine nav ?_
                                        (refine aC_region ?_
                                          <;> refine xL 195 q_move ?_
                                          <;> refine xL 196 q_not ?_
                                          <;> refine xL 197 q_move ?_
                                          <;> (refine bL 197 (fun hb197 => ?_) (fun hb197 => ?_) <;> (first | refine kL 198 ?_ | refine xL 198 q_move ?_))
                                          <;> (first | refine kL 199 ?_ | refine xL 199 q_not ?_)
                                          <;> refine xL 200 q_pick ?_
                                          <;> refine aL_end (nav ?_) <;> try dsimp only) <;> (
                                          first | refine cCd (fun hb200 => ?_) (fun hb200 => ?_) | refine cC (fun hb200 => ?_) (fun hb200 => ?_)
                                          · first
                                            | exact Bool.noConfusion hb200
                                            | (
                                                refine nav ?_
                                                (refine aC_region ?_
                                                  <;> refine xL 4 q_assign ?_
                                                  <;> refine aL_end (nav ?_) <;> try dsimp only)
                                                refine ret_shr (Tryz.results10) rfl ?_
                                                rw [validB_p hb146 (by omega) (show okP n S F (atF c l) q = false by
                                                  unfold okP
                                                  rw [show i = n by omega] at hS hFn
                                                  first
                                                    | (rw [← hS, show bs = false by simpa using hb197]; rfl)
                                                    | (rw [← hFn, show bf = false by simpa using hb200]; simp))])
                                          · first
                                            | exact Bool.noConfusion hb200
                                            | (
                                                refine nav ?_
                                                (refine aC_region ?_
                                                  <;> refine xL 201 q_add ?_
                                                  <;> refine xL 150 q_move ?_
                                                  <;> refine aL_end (nav ?_) <;> try dsimp only)
                                                refine aN_again (
                                                  ⟨q + 1, by omega, fun j hj => by
                                                    by_cases e : j = q
                                                    · subst e
                                                      unfold okP
                                                      rw [show i = n by omega] at hS hFn
                                                      rw [← hS, ← hFn, show bs = true by simpa using hb197, show bf = true by simpa using hb200]; rfl
                                                    · exact hpq j (by omega)⟩
                                                  ) (by dsimp only; omega) ⟨rfl, rfl, rfl, rfl, rfl, rfl, trivial⟩ ⟨rfl, rfl, trivial⟩))))
                            · first
                              | exact Bool.noConfusion hb151
                              | (
                                  refine nav ?_
                                  (refine aC_region ?_
                                    <;> refine xL 4 q_assign ?_
                                    <;> refine aL_end (nav ?_) <;> try dsimp only)
                                  refine ret_shr (Tryz.results10) rfl ?_
                                  have hA : allB n (okA n E (reachB n E) S F c.kind (atF c l)) = true := allB_end fun j hj => hpa j (by omega)
                                  have hlen : c.parts.flatten.length = n := by omega
                                  unfold validB
                                  rw [hat0, hA, decide_eq_true hlen]
                                  first
                                    | (rw [decide_eq_false hb146]; rfl)
                                    | (rw [allB_end fun j hj => hpq j (by omega)]; simp)))
                      · first
                        | exact Bool.noConfusion hb146
                        | (
                            refine nav ?_
                            (refine aC_region ?_
                              <;> refine xL 4 q_assign ?_
                              <;> refine aL_end (nav ?_) <;> try dsimp only)
                            refine ret_shr (Tryz.results10) rfl ?_
                            have hA : allB n (okA n E (reachB n E) S F c.kind (atF c l)) = true := allB_end fun j hj => hpa j (by omega)
                            have hlen : c.parts.flatten.length = n := by omega
                            unfold validB
                            rw [hat0, hA, decide_eq_true hlen]
                            first
                              | (rw [decide_eq_false hb146]; rfl)
                              | (rw [allB_end fun j hj => hpq j (by omega)]; simp))))))
end Go.Proofs.YtoanjgpdepaciaaGreat
