/-
  Walks: the relation of a graph (package cut): squares, of, at, reach.
  Walks: reach, loops, fits, begin (package cut).
  Walks: cut.Valid.
-/
import Derived.Test.YtoanjgpdepaciaaGreatLa
import Derived.Test.YtoanjgpdepaciaaGreatLp
import Derived.Test.YtoanjgpdepaciaaGreatEa
namespace Go.Proofs.YtoanjgpdepaciaaGreat
open Go.RowKit Go.Cb Go.En
set_option linter.all false
set_option maxRecDepth 100000

theorem tAgg62_LbE : AggT Tryz.prog 62 2 = true := by kernel_rfl
theorem tAgg68_LbE : AggT Tryz.prog 68 3 = true := by kernel_rfl
theorem tEl36_LbE : ElT Tryz.prog 36 9 1 16 (.string ByteArray.empty) := ⟨Tryz.underlying36, by kernel_rfl, rfl, by decide⟩
theorem tEl77_LbE : ElT Tryz.prog 77 78 1 24 (.slice none 0 0) := ⟨Tryz.underlying77, by kernel_rfl, rfl, by decide⟩
theorem tEl78_LbE : ElT Tryz.prog 78 4 1 1 (.bool false) := ⟨Tryz.underlying78, by kernel_rfl, rfl, by decide⟩
theorem tFl25_0_LbE : FldT Tryz.prog 25 0 0 = true := by kernel_rfl
theorem tFl25_1_LbE : FldT Tryz.prog 25 1 1 = true := by kernel_rfl
theorem tFl25_2_LbE : FldT Tryz.prog 25 2 2 = true := by kernel_rfl
theorem tFl25_3_LbE : FldT Tryz.prog 25 3 3 = true := by kernel_rfl
theorem tFl62_0_LbE : FldT Tryz.prog 62 0 0 = true := by kernel_rfl
theorem tFl68_0_LbE : FldT Tryz.prog 68 0 0 = true := by kernel_rfl
theorem tFl68_1_LbE : FldT Tryz.prog 68 1 1 = true := by kernel_rfl
theorem tFl80_0_LbE : FldT Tryz.prog 80 0 0 = true := by kernel_rfl
theorem tFl80_1_LbE : FldT Tryz.prog 80 1 1 = true := by kernel_rfl
theorem tFl80_2_LbE : FldT Tryz.prog 80 2 2 = true := by kernel_rfl
theorem tFl80_3_LbE : FldT Tryz.prog 80 3 3 = true := by kernel_rfl
theorem tNa22_LbE : NoAgg Tryz.prog 22 = true := by kernel_rfl
theorem tNa23_LbE : NoAgg Tryz.prog 23 = true := by kernel_rfl
theorem tNa36_LbE : NoAgg Tryz.prog 36 = true := by kernel_rfl
theorem tNa4_LbE : NoAgg Tryz.prog 4 = true := by kernel_rfl
theorem tNa77_LbE : NoAgg Tryz.prog 77 = true := by kernel_rfl
theorem tNa78_LbE : NoAgg Tryz.prog 78 = true := by kernel_rfl
theorem tNa9_LbE : NoAgg Tryz.prog 9 = true := by kernel_rfl
theorem tSl22_LbE : SlT Tryz.prog 22 62 2 = true := by kernel_rfl
theorem tSl23_LbE : SlT Tryz.prog 23 68 3 = true := by kernel_rfl
theorem tSl77_LbE : SlT Tryz.prog 77 78 1 = true := by kernel_rfl
theorem tSl78_LbE : SlT Tryz.prog 78 4 1 = true := by kernel_rfl
theorem tSt80_LbE : stInfo Tryz.prog 80 = some ((.agg #[(.slice none 0 0), (.slice none 0 0), (.slice none 0 0), (.slice none 0 0)]), ([0, 1, 2, 3] : List Nat).map fun o => (o, 1)) := by kernel_rfl
theorem tSz36_LbE : (Tryz.prog.info? 36).map (·.size) = some 1 := by kernel_rfl
theorem tSz4_LbE : (Tryz.prog.info? 4).map (·.size) = some 1 := by kernel_rfl
theorem tSz78_LbE : (Tryz.prog.info? 78).map (·.size) = some 1 := by kernel_rfl
theorem tZr62_LbE : ZeroT Tryz.prog 62 (.agg #[(.string ByteArray.empty), (.int .i64 0)]) := by unfold ZeroT; kernel_rfl
theorem tZr68_LbE : ZeroT Tryz.prog 68 (.agg #[(.string ByteArray.empty), (.string ByteArray.empty), (.int .i64 0)]) := by unfold ZeroT; kernel_rfl

theorem vec_fill {α : Type} {n k : Nat} (p z q : α) : ((vec n fun i => if i < k then p else z).set k q).set k p = vec n fun i => if i < k + 1 then p else z := by
  rw [vec_set, vec_set]
  refine vec_congr fun i hi => ?_
  by_cases e : i = k
  · subst e; rw [if_pos rfl, if_pos (by omega)]
  · rw [if_neg e, if_neg e]
    by_cases h : i < k
    · rw [if_pos h, if_pos (by omega)]
    · rw [if_neg h, if_neg (by omega)]
theorem cSquare_e (n : Nat) (hn : n ≤ 1000000) : AF Tryz.prog 104 [pInt n] (· = oMat 78 4 n (fun _ _ => false)) := by
  refine AF.of_body 19 Tryz.func104 rfl Tryz.ntmps104 (Nat.le_of_ble_eq_true rfl) ?_
  intro w0 M0 vs hl hv
  obtain ⟨v0, rfl⟩ := len1 hl
  obtain rfl := hv 0 _ _ rfl rfl
  clear hl hv
  refine nav ?_
  (refine aC_region ?_
    <;> refine xL 2 q_assign ?_
    <;> refine aL_end (nav ?_) <;> try dsimp only)
  (refine aC_region ?_
    <;> refine xL 5 q_move ?_
    <;> refine s_make 6 tEl77_LbE fun h6 ho6 => ?_
    <;> refine xL 3 q_assign ?_
    <;> refine aL_end (nav ?_) <;> try dsimp only)
  (refine aC_region ?_
    <;> refine xL 7 q_move ?_
    <;> refine xL 8 (q_leno 6 tSl77_LbE) ?_
    <;> refine xL 9 q_move ?_
    <;> refine aL_end (nav ?_) <;> try dsimp only)
  rw [show List.replicate n (PV.val (.slice none 0 0)) = vec n (fun i => if i < 0 then oBools 4 n (fun _ => false) else .val (.slice none 0 0)) by rw [vec_const]; exact vec_congr fun i _ => by rw [if_neg (by omega)]]
  refine aC_loop (ι := { k : Nat // k ≤ n }) (fun k => ⟨[(0, _, _), (3, _, _), (8, _, _), (9, .int .i64 k.1, pInt k.1)], [(6, h6, .own 78 1 n (vec n fun i => if i < k.1 then oBools 4 n (fun _ => false) else .val (.slice none 0 0)))]⟩) (fun k => n - k.1) ⟨0, by omega⟩ (fun a w H => H.weaken ⟨rfl, rfl, rfl, rfl, trivial⟩ ⟨rfl, trivial⟩) ?_
  rintro ⟨k, hk⟩
  dsimp only
  refine nav ?_
  (refine aC_region ?_
    <;> refine xL 10 q_lss ?_
    <;> refine aL_end (nav ?_) <;> try dsimp only)
  first | refine cCd (fun hb10 => ?_) (fun hb10 => ?_) | refine cC (fun hb10 => ?_) (fun hb10 => ?_)
  · first
    | exact Bool.noConfusion hb10
    | (
     have hlt : k < n := by omega
     have hl0 := vec_len n (fun i => if i < k then oBools 4 n (fun _ => false) else PV.val (.slice none 0 0))
     refine nav ?_
     (refine aC_region ?_
       <;> refine xL 11 q_move ?_
       <;> refine xL 4 q_assign ?_
       <;> refine aL_end (nav ?_) <;> try dsimp only)
     (refine aC_region ?_
       <;> refine xL 12 q_move ?_
       <;> refine xL 13 q_move ?_
       <;> refine xL 14 q_move ?_
       <;> refine s_make 15 tEl78_LbE fun h15 ho15 => ?_
       <;> refine xL 16 (q_idxoN 6 tSl77_LbE) ?_
       <;> refine s_stI 6 k tNa78_LbE tSz78_LbE ?_
       <;> refine aL_end (nav ?_) <;> try dsimp only)
     (refine aC_region ?_
       <;> refine xL 17 q_add ?_
       <;> refine xL 9 q_move ?_
       <;> refine aL_end (nav ?_) <;> try dsimp only)
     refine aN_ent (fold (l := 6) (l' := 15) (j := k) rfl (List.getElem?_set_self (by rw [vec_len]; omega)) rfl rfl) fun _ => ?_
     rw [show List.replicate n (PV.val (.bool false)) = vec n (fun _ => pBool false) from vec_const _ _, vec_fill]
     refine aN_again (
       ⟨k + 1, by omega⟩
       ) (by dsimp only; omega) ⟨rfl, rfl, rfl, rfl, trivial⟩ ⟨rfl, trivial⟩)
  · first
    | exact Bool.noConfusion hb10
    | (
     refine nav ?_
     (refine aC_region ?_
       <;> refine xL 18 q_move ?_
       <;> refine xL 2 q_assign ?_
       <;> refine aL_end (nav ?_) <;> try dsimp only)
     refine ret_own 6 (Tryz.results104) rfl rfl ?_
     obtain rfl : k = n := by omega
     show PV.own _ _ _ _ = PV.own _ _ _ _
     congr 1
     exact vec_congr fun i hi => by rw [if_pos hi])
def ixN (l : List ByteArray) (s : ByteArray) : Nat := (idx (fun x => strEq x s) l).toNat
theorem ixN_of {l : List ByteArray} {s : ByteArray} (h : hasStr l s = true) : idx (fun x => strEq x s) l = (ixN l s : Int) ∧ ixN l s < l.length := by
  have h1 := idx_bd (fun x => strEq x s) l
  have h2 : 0 ≤ idx (fun x => strEq x s) l := by
    have := idx_any (fun x => strEq x s) l
    rw [show l.any (fun x => strEq x s) = true from h] at this
    exact of_decide_eq_true this
  unfold ixN
  omega
theorem cAt_e (l : List ByteArray) (rest : List PV) (s : ByteArray) (h : hasStr l s = true) : AF Tryz.prog 132 [.sptr 0 (pStrs l :: rest), pStr s] (· = pInt (ixN l s : Nat)) := by
  refine AF.of_body 11 Tryz.func132 rfl Tryz.ntmps132 (Nat.le_of_ble_eq_true rfl) ?_
  intro w0 M0 vs hl hv
  obtain ⟨v0, v1, rfl⟩ := len2 hl
  obtain rfl := hv 1 _ _ rfl rfl
  clear hl hv
  refine nav ?_
  (refine aC_region ?_
    <;> refine xL 4 q_assign ?_
    <;> refine aL_end (nav ?_) <;> try dsimp only)
  (refine aC_region ?_
    <;> refine xL 5 q_move ?_
    <;> refine xL 6 q_nilp ?_
    <;> refine xL 7 (q_fld tFl80_0_LbE) ?_
    <;> (refine yL 8 (q_ld tNa36_LbE) fun v8 hv8 => ?_; cases hv8)
    <;> refine xL 9 q_move ?_
    <;> (refine cS 10 (cA Tryz.call59 (sIndexStr_e l s)) fun v10 hv10 => ?_; cases hv10)
    <;> refine xL 4 q_assign ?_
    <;> refine aL_end (nav ?_) <;> try dsimp only)
  refine ret_shr (Tryz.results132) rfl ?_
  rw [(ixN_of h).1]
def edgeF (acts : List ByteArray) (l : List Flw) (i j : Nat) : Bool := l.any fun f => ixN acts f.src == i && ixN acts f.dst == j
def markF (acts : List ByteArray) (l : List Cnt) (i : Nat) : Bool := l.any fun c => ixN acts c.name == i
theorem edgeF_snoc {acts : List ByteArray} {l : List Flw} {k : Nat} {f : Flw} (h : l[k]? = some f) (i j : Nat) : edgeF acts (l.take (k + 1)) i j = (edgeF acts (l.take k) i j || (ixN acts f.src == i && ixN acts f.dst == j)) := by
  unfold edgeF; rw [take_snoc h, List.any_append]; simp
theorem markF_snoc {acts : List ByteArray} {l : List Cnt} {k : Nat} {c : Cnt} (h : l[k]? = some c) (i : Nat) : markF acts (l.take (k + 1)) i = (markF acts (l.take k) i || (ixN acts c.name == i)) := by
  unfold markF; rw [take_snoc h, List.any_append]; simp
theorem edge_step {acts : List ByteArray} {l : List Flw} {k : Nat} {f : Flw} (h : l[k]? = some f) (i j : Nat) : edgeF acts (l.take (k + 1)) i j = if i = ixN acts f.src then (if j = ixN acts f.dst then true else edgeF acts (l.take k) (ixN acts f.src) j) else edgeF acts (l.take k) i j := by
  rw [edgeF_snoc h]
  generalize ixN acts f.src = a
  generalize ixN acts f.dst = b
  by_cases h1 : i = a
  · subst h1
    rw [if_pos rfl]
    by_cases h2 : j = b
    · subst h2; simp
    · rw [if_neg h2, show (b == j) = false from beq_eq_false_iff_ne.2 (Ne.symm h2)]; simp
  · rw [if_neg h1, show (a == i) = false from beq_eq_false_iff_ne.2 (Ne.symm h1)]; simp
theorem mark_step {acts : List ByteArray} {l : List Cnt} {k : Nat} {c : Cnt} (h : l[k]? = some c) (i : Nat) : markF acts (l.take (k + 1)) i = if i = ixN acts c.name then true else markF acts (l.take k) i := by
  rw [markF_snoc h]
  generalize ixN acts c.name = a
  by_cases h1 : i = a
  · subst h1; simp
  · rw [if_neg h1, show (a == i) = false from beq_eq_false_iff_ne.2 (Ne.symm h1)]; simp
def cRel (g : Dfg) : List PV := [pStrs (cnames g.acts), pMat g.acts.length (edgeF (cnames g.acts) g.follows), pBools g.acts.length (markF (cnames g.acts) g.starts), pBools g.acts.length (markF (cnames g.acts) g.ends)]
def pRel (g : Dfg) : PV := .sptr 0 (cRel g)
theorem dfg_parts {g : Dfg} (h : dfgOk g = true) : (cnames g.acts).length ≤ 40 ∧ (∀ c ∈ g.starts, hasStr (cnames g.acts) c.name = true) ∧ (∀ c ∈ g.ends, hasStr (cnames g.acts) c.name = true) ∧ (∀ f ∈ g.follows, hasStr (cnames g.acts) f.src = true ∧ hasStr (cnames g.acts) f.dst = true) := by
  unfold dfgOk alphaB ascB at h
  simp only [Bool.and_eq_true, List.all_eq_true, decide_eq_true_eq] at h
  obtain ⟨⟨⟨⟨⟨⟨⟨h1, h2⟩, h3⟩, h4⟩, h5⟩, h6⟩, h7⟩, h8⟩ := h
  refine ⟨h1.1.1, fun c hc => h2.2 _ (List.mem_map.2 ⟨c, hc, rfl⟩), fun c hc => h3.2 _ (List.mem_map.2 ⟨c, hc, rfl⟩), fun f hf => ?_⟩
  have := h7 f hf
  unfold flwOk at this
  simp only [Bool.and_eq_true] at this
  exact ⟨this.1.2, this.2⟩
theorem mat_step {e e' n a b : Nat} {f f' : Nat → Nat → Bool} (hf : ∀ i j, i < n → j < n → f' i j = if i = a then (if j = b then true else f a j) else f i j) : (vec n fun i => oBools e' n (f i)).set a (.own e' 1 n ((vec n fun j => pBool (f a j)).set (b * 1) (pBool true))) = vec n fun i => oBools e' n (f' i) := by
  rw [Nat.mul_one, vec_set, vec_set]
  refine vec_congr fun i hi => ?_
  by_cases h : i = a
  · subst h
    rw [if_pos rfl]
    show PV.own _ _ _ _ = PV.own _ _ _ _
    congr 1
    refine vec_congr fun j hj => ?_
    rw [hf i j hi hj, if_pos rfl]
    split <;> rfl
  · rw [if_neg h]
    show PV.own _ _ _ _ = PV.own _ _ _ _
    congr 1
    refine vec_congr fun j hj => ?_
    rw [hf i j hi hj, if_neg h]
theorem bools_step {n a : Nat} {f f' : Nat → Bool} (hf : ∀ i, i < n → f' i = if i = a then true else f i) : (vec n fun i => pBool (f i)).set (a * 1) (pBool true) = vec n fun i => pBool (f' i) := by
  rw [Nat.mul_one, vec_set]
  refine vec_congr fun i hi => ?_
  rw [hf i hi]; split <;> rfl
theorem reads_rel {sL hP : List (Nat × Ent)} {l e k e' n : Nat} {h : Value} {acts : List ByteArray} {rest : List PV} (hl : lk hP l = some (h, .own e k 1 (.own e' 1 n (acts.map pStr) :: rest))) (hn : n = acts.length) : Reads (⟨sL, hP⟩ : St) (padd (sbase h) 0) (.sptr 0 (pStrs acts :: shares rest)) := by
  have := reads_ptr (sL := sL) (j := 0) hl Nat.one_pos
  rw [shares, share_strs, hn] at this
  exact this
theorem fam_row {n i : Nat} {e : Nat} (f : Nat → Nat → Bool) (h : i < n) : (vec n fun i => oBools e n (f i))[i]? = some (oBools e n (f i)) := vec_get _ h
theorem hs_at {Hs : List Value} {i : Nat} {v : Value} (h : Hs[i]? = some v) : (Hs.map PV.val)[i * 1]? = some (.val v) := by rw [Nat.mul_one, List.getElem?_map, h]; rfl
set_option maxHeartbeats 1000000 in
theorem cOf_e (g : Dfg) (hg : dfgOk g = true) (hfl : g.follows.length ≤ 140737488355328) (hsl : g.starts.length ≤ 140737488355328) (hel : g.ends.length ≤ 140737488355328) : AF Tryz.prog 102 [pDfg g] (· = pRel g) := by
  obtain ⟨hn40, hst, hen, hfo⟩ := dfg_parts hg
  have hna : (cnames g.acts).length = g.acts.length := by simp [cnames]
  refine AF.of_body 101 Tryz.func102 rfl Tryz.ntmps102 (Nat.le_of_ble_eq_true rfl) ?_
  intro w0 M0 vs hl hv
  obtain ⟨v0, rfl⟩ := len1 hl
  clear hl hv
  refine nav ?_
  (refine aC_region ?_
    <;> refine s_boxa 1 4 fun h1 => ?_
    <;> refine xL 2 q_assign ?_
    <;> refine aL_end (nav ?_) <;> try dsimp only)
  (refine aC_region ?_
    <;> refine xL 13 (q_fldo 1 tFl25_0_LbE) ?_
    <;> (refine yL 14 (q_ldo 1 tNa22_LbE) fun v14 hv14 => ?_; cases hv14)
    <;> refine xL 15 (q_len tSl22_LbE) ?_
    <;> refine xL 3 q_assign ?_
    <;> refine aL_end (nav ?_) <;> try dsimp only)
  refine aC_mid (fun x : { x : Value × Value × Value × Value × Value // x.2.2.2.2.oneCell' = true } => ⟨[(1, padd (sbase h1) 0, .val (padd (sbase h1) 0)), (4, padd (sbase x.1.1) 0, .val (padd (sbase x.1.1) 0))], [(1, h1, .own 25 4 1 [pCnts g.acts, pCnts g.starts, pCnts g.ends, pFlws g.follows]), (23, x.1.1, .own 80 4 1 [.val (.slice none 0 0), .val x.1.2.1, .val x.1.2.2.1, .val x.1.2.2.2.1]), (17, x.1.2.1, oMat 78 4 g.acts.length (fun _ _ => false)), (19, x.1.2.2.1, .own 4 1 g.acts.length (List.replicate g.acts.length (.val (.bool false)))), (21, x.1.2.2.2.1, .own 4 1 g.acts.length (List.replicate g.acts.length (.val (.bool false))))]⟩) ?_ ?_
  · (refine aC_draw (fun i => ([] : List Nat).elem i) [] (by kernel_rfl) ?_
      <;> refine xD 0 16 rfl q_move ?_
      <;> refine xD 2 18 rfl q_move ?_
      <;> refine xD 4 20 rfl q_move ?_
      <;> (refine aD_three 1 3 5 (by kernel_rfl) ?_ ?_ ?_; rotate_right; (focus ((refine aW_run rfl fun w9 M9 N9 DQ back => ?_) <;> refine s_make 21 tEl78_LbE fun h21 ho21 => ?_ <;> refine aL_end (back _ (nrm ?_)) <;> (refine aD_two 1 3 (by kernel_rfl) ?_ ?_; rotate_right; (focus ((refine aW_run rfl fun w9 M9 N9 DQ back => ?_) <;> refine s_make 19 tEl78_LbE fun h19 ho19 => ?_ <;> refine aL_end (back _ (nrm ?_)) <;> (refine aD_one 1 (by kernel_rfl) ?_) <;> (refine aW_run rfl fun w9 M9 N9 DQ back => ?_) <;> refine cO 17 (cA Tryz.call104 (cSquare_e g.acts.length (by omega))) fun v17 ho17 => ?_ <;> refine aL_end (back _ (nrm ?_)) <;> refine xE 6 22 rfl (q_build tSt80_LbE) ?_ <;> (refine aD_one 7 (by kernel_rfl) ?_) <;> (refine aW_run rfl fun w9 M9 N9 DQ back => ?_) <;> refine s_boxa 23 4 fun h23 => ?_ <;> refine aL_end (back _ (nrm ?_)) <;> refine xE 8 4 rfl q_assign ?_ <;> refine aD_end (by kernel_rfl) (nav ?_))); rotate_right; (focus ((refine aW_run rfl fun w9 M9 N9 DQ back => ?_) <;> refine cO 17 (cA Tryz.call104 (cSquare_e g.acts.length (by omega))) fun v17 ho17 => ?_ <;> refine aL_end (back _ (nrm ?_)) <;> (refine aD_one 3 (by kernel_rfl) ?_) <;> (refine aW_run rfl fun w9 M9 N9 DQ back => ?_) <;> refine s_make 19 tEl78_LbE fun h19 ho19 => ?_ <;> refine aL_end (back _ (nrm ?_)) <;> refine xE 6 22 rfl (q_build tSt80_LbE) ?_ <;> (refine aD_one 7 (by kernel_rfl) ?_) <;> (refine aW_run rfl fun w9 M9 N9 DQ back => ?_) <;> refine s_boxa 23 4 fun h23 => ?_ <;> refine aL_end (back _ (nrm ?_)) <;> refine xE 8 4 rfl q_assign ?_ <;> refine aD_end (by kernel_rfl) (nav ?_)))))); rotate_right; (focus ((refine aW_run rfl fun w9 M9 N9 DQ back => ?_) <;> refine s_make 19 tEl78_LbE fun h19 ho19 => ?_ <;> refine aL_end (back _ (nrm ?_)) <;> (refine aD_two 1 5 (by kernel_rfl) ?_ ?_; rotate_right; (focus ((refine aW_run rfl fun w9 M9 N9 DQ back => ?_) <;> refine s_make 21 tEl78_LbE fun h21 ho21 => ?_ <;> refine aL_end (back _ (nrm ?_)) <;> (refine aD_one 1 (by kernel_rfl) ?_) <;> (refine aW_run rfl fun w9 M9 N9 DQ back => ?_) <;> refine cO 17 (cA Tryz.call104 (cSquare_e g.acts.length (by omega))) fun v17 ho17 => ?_ <;> refine aL_end (back _ (nrm ?_)) <;> refine xE 6 22 rfl (q_build tSt80_LbE) ?_ <;> (refine aD_one 7 (by kernel_rfl) ?_) <;> (refine aW_run rfl fun w9 M9 N9 DQ back => ?_) <;> refine s_boxa 23 4 fun h23 => ?_ <;> refine aL_end (back _ (nrm ?_)) <;> refine xE 8 4 rfl q_assign ?_ <;> refine aD_end (by kernel_rfl) (nav ?_))); rotate_right; (focus ((refine aW_run rfl fun w9 M9 N9 DQ back => ?_) <;> refine cO 17 (cA Tryz.call104 (cSquare_e g.acts.length (by omega))) fun v17 ho17 => ?_ <;> refine aL_end (back _ (nrm ?_)) <;> (refine aD_one 5 (by kernel_rfl) ?_) <;> (refine aW_run rfl fun w9 M9 N9 DQ back => ?_) <;> refine s_make 21 tEl78_LbE fun h21 ho21 => ?_ <;> refine aL_end (back _ (nrm ?_)) <;> refine xE 6 22 rfl (q_build tSt80_LbE) ?_ <;> (refine aD_one 7 (by kernel_rfl) ?_) <;> (refine aW_run rfl fun w9 M9 N9 DQ back => ?_) <;> refine s_boxa 23 4 fun h23 => ?_ <;> refine aL_end (back _ (nrm ?_)) <;> refine xE 8 4 rfl q_assign ?_ <;> refine aD_end (by kernel_rfl) (nav ?_)))))); rotate_right; (focus ((refine aW_run rfl fun w9 M9 N9 DQ back => ?_) <;> refine cO 17 (cA Tryz.call104 (cSquare_e g.acts.length (by omega))) fun v17 ho17 => ?_ <;> refine aL_end (back _ (nrm ?_)) <;> (refine aD_two 3 5 (by kernel_rfl) ?_ ?_; rotate_right; (focus ((refine aW_run rfl fun w9 M9 N9 DQ back => ?_) <;> refine s_make 21 tEl78_LbE fun h21 ho21 => ?_ <;> refine aL_end (back _ (nrm ?_)) <;> (refine aD_one 3 (by kernel_rfl) ?_) <;> (refine aW_run rfl fun w9 M9 N9 DQ back => ?_) <;> refine s_make 19 tEl78_LbE fun h19 ho19 => ?_ <;> refine aL_end (back _ (nrm ?_)) <;> refine xE 6 22 rfl (q_build tSt80_LbE) ?_ <;> (refine aD_one 7 (by kernel_rfl) ?_) <;> (refine aW_run rfl fun w9 M9 N9 DQ back => ?_) <;> refine s_boxa 23 4 fun h23 => ?_ <;> refine aL_end (back _ (nrm ?_)) <;> refine xE 8 4 rfl q_assign ?_ <;> refine aD_end (by kernel_rfl) (nav ?_))); rotate_right; (focus ((refine aW_run rfl fun w9 M9 N9 DQ back => ?_) <;> refine s_make 19 tEl78_LbE fun h19 ho19 => ?_ <;> refine aL_end (back _ (nrm ?_)) <;> (refine aD_one 5 (by kernel_rfl) ?_) <;> (refine aW_run rfl fun w9 M9 N9 DQ back => ?_) <;> refine s_make 21 tEl78_LbE fun h21 ho21 => ?_ <;> refine aL_end (back _ (nrm ?_)) <;> refine xE 6 22 rfl (q_build tSt80_LbE) ?_ <;> (refine aD_one 7 (by kernel_rfl) ?_) <;> (refine aW_run rfl fun w9 M9 N9 DQ back => ?_) <;> refine s_boxa 23 4 fun h23 => ?_ <;> refine aL_end (back _ (nrm ?_)) <;> refine xE 8 4 rfl q_assign ?_ <;> refine aD_end (by kernel_rfl) (nav ?_)))))))
      <;> try dsimp only) <;> (
     exact aN_join ⟨(h23, v17, h19, h21, .bool true), rfl⟩ ⟨rfl, rfl, trivial⟩ ⟨rfl, rfl, rfl, rfl, rfl, trivial⟩)
  · rintro ⟨⟨h23, h17, h19, h21, _⟩, _⟩
    dsimp only
    refine nav ?_
    (refine aC_region ?_
      <;> refine xL 24 (q_fldo 1 tFl25_0_LbE) ?_
      <;> (refine yL 25 (q_ldo 1 tNa22_LbE) fun v25 hv25 => ?_; cases hv25)
      <;> refine xL 26 (q_len tSl22_LbE) ?_
      <;> refine xL 27 q_move ?_
      <;> refine aL_end (nav ?_) <;> try dsimp only)
    refine aC_ent (nilOwn 200 9 1 rfl) fun _ => ?_
    refine aC_loop (ι := { x : Nat × Value // x.1 ≤ g.acts.length }) (fun k => ⟨[(1, _, _), (4, _, _), (25, _, _), (26, _, _), (27, .int .i64 k.1.1, pInt k.1.1)], [(1, _, _), (17, _, _), (19, _, _), (21, _, _), (23, h23, .own 80 4 1 [.val k.1.2, .val h17, .val h19, .val h21]), (200, k.1.2, .own 9 1 k.1.1 ((cnames (g.acts.take k.1.1)).map pStr))]⟩) (fun k => g.acts.length - k.1.1) ⟨(0, .slice none 0 0), by omega⟩ (fun a w H => H.weaken ⟨rfl, rfl, rfl, rfl, rfl, trivial⟩ ⟨rfl, rfl, rfl, rfl, rfl, rfl, trivial⟩) ?_
    rintro ⟨⟨k, h3⟩, hk⟩
    dsimp only
    dsimp only at hk
    refine nav ?_
    (refine aC_region ?_
      <;> refine xL 28 q_lss ?_
      <;> refine aL_end (nav ?_) <;> try dsimp only)
    first | refine cCd (fun hb28 => ?_) (fun hb28 => ?_) | refine cC (fun hb28 => ?_) (fun hb28 => ?_)
    · first
      | exact Bool.noConfusion hb28
      | (
       obtain ⟨x, hx⟩ := get_some (show k < g.acts.length by omega)
       have e1 := flat_drop cCnt_len g.acts k x hx
       have e2 := flat_fit cCnt_len hx
       have e3 : ((cnames (g.acts.take k)).map pStr).length = k := by simp [cnames]; omega
       refine nav ?_
       (refine aC_region ?_
         <;> refine xL 29 (q_idxN tSl22_LbE) ?_
         <;> (refine yL 30 (q_lda tAgg62_LbE) fun v30 hv30 => ?_; cases hv30)
         <;> refine s_alloc [(.string ByteArray.empty), (.int .i64 0)] 2 6 tZr62_LbE fun h6 => ?_
         <;> refine s_sta 6 tAgg62_LbE ?_
         <;> refine aL_end (nav ?_) <;> try dsimp only)
       (refine aC_draw (fun i => ([11] : List Nat).elem i) [23, 6] (by kernel_rfl) ?_
         <;> refine xD 0 31 rfl q_move ?_
         <;> refine xD 1 32 rfl q_move ?_
         <;> refine xD 2 33 rfl (q_nilo 23) ?_
         <;> refine xD 3 34 rfl (q_fldo 23 tFl80_0_LbE) ?_
         <;> (refine yD 4 35 rfl (q_ldo 23 tNa36_LbE) fun v35 hv35 => ?_; cases hv35)
         <;> refine xE 5 36 rfl (q_fldo 6 tFl62_0_LbE) ?_
         <;> (refine yE 6 37 rfl (q_ldo 6 tNa9_LbE) fun v37 hv37 => ?_; cases hv37)
         <;> (refine aD_one 7 (by kernel_rfl) ?_)
         <;> (refine aW_run rfl fun w9 M9 N9 DQ back => ?_)
         <;> refine s_lit1 (kk := 1) 38 tEl36_LbE fun h38 ho38 => ?_
         <;> refine aL_end (back _ (nrm ?_))
         <;> (refine aD_one 8 (by kernel_rfl) ?_)
         <;> (refine aW_run rfl fun w9 M9 N9 DQ back => ?_)
         <;> refine s_app 200 38 39 tEl36_LbE fun h39 ho39 => ?_
         <;> refine aL_end (back _ (nrm ?_))
         <;> refine xE 9 40 rfl (q_nilo 23) ?_
         <;> refine xE 10 41 rfl (q_fldo 23 tFl80_0_LbE) ?_
         <;> (refine aD_one 11 (by kernel_rfl) ?_)
         <;> (refine aW_last rfl rfl (by kernel_rfl) fun DQ back => ?_)
         <;> refine s_st 23 tNa36_LbE tSz36_LbE ?_
         <;> refine aL_end (back _ (nav ?_))
         <;> try dsimp only)
       (refine aC_region ?_
         <;> refine xL 42 q_add ?_
         <;> refine xL 27 q_move ?_
         <;> refine aL_end (nav ?_) <;> try dsimp only)
       refine aN_ent (relabel (l := 39) 200 rfl rfl) fun _ => ?_
       rw [show (cnames (g.acts.take k)).map pStr ++ [pStr x.name] = (cnames (g.acts.take (k + 1))).map pStr by rw [cnames_take hx, List.map_append]; rfl]
       refine aN_again (
         ⟨(k + 1, h39), by show k + 1 ≤ g.acts.length; omega⟩
         ) (by dsimp only; omega) ⟨rfl, rfl, rfl, rfl, rfl, trivial⟩ ⟨rfl, rfl, rfl, rfl, rfl, rfl, trivial⟩)
    · first
      | exact Bool.noConfusion hb28
      | (
       refine nav ?_
       (refine aC_region ?_
         <;> refine xL 43 (q_fldo 1 tFl25_3_LbE) ?_
         <;> (refine yL 44 (q_ldo 1 tNa23_LbE) fun v44 hv44 => ?_; cases hv44)
         <;> refine xL 45 (q_len tSl23_LbE) ?_
         <;> refine xL 46 q_move ?_
         <;> refine aL_end (nav ?_) <;> try dsimp only)
       obtain rfl : k = g.acts.length := by omega
       rw [List.take_length]
       refine aC_ent (fold (l := 23) (l' := 200) (j := 0) rfl rfl rfl rfl) fun _ => ?_
       refine aC_ent (spread (l := 17) 201 rfl rfl) fun Hs => ?_
       obtain ⟨Hs, hHs⟩ := Hs
       rw [vec_len] at hHs
       dsimp only
       refine aC_loop (ι := { k : Nat // k ≤ g.follows.length }) (fun k => ⟨[(1, _, _), (4, _, _), (44, _, _), (45, _, _), (46, .int .i64 k.1, pInt k.1)], [(1, _, _), (23, _, _), (17, _, _), (19, _, _), (21, _, _), (201, .agg Hs.toArray, .agg (vec g.acts.length fun i => oBools 4 g.acts.length (edgeF (cnames g.acts) (g.follows.take k.1) i)))]⟩) (fun k => g.follows.length - k.1) ⟨0, by omega⟩ (fun a w H => H.weaken ⟨rfl, rfl, rfl, rfl, rfl, trivial⟩ ⟨rfl, rfl, rfl, rfl, rfl, rfl, trivial⟩) ?_
       rintro ⟨k, hk⟩
       dsimp only
       refine nav ?_
       (refine aC_region ?_
         <;> refine xL 47 q_lss ?_
         <;> refine aL_end (nav ?_) <;> try dsimp only)
       first | refine cCd (fun hb47 => ?_) (fun hb47 => ?_) | refine cC (fun hb47 => ?_) (fun hb47 => ?_)
       · first
         | exact Bool.noConfusion hb47
         | (
          obtain ⟨x, hx⟩ := get_some (show k < g.follows.length by omega)
          have e1 := flat_drop cFlw_len g.follows k x hx
          have e2 := flat_fit cFlw_len hx
          have hxa := (hfo x (List.mem_of_getElem? hx)).1
          have hxb := (hfo x (List.mem_of_getElem? hx)).2
          have ha := (ixN_of hxa).2
          have hb := (ixN_of hxb).2
          rw [hna] at ha hb
          obtain ⟨ra, hra⟩ := get_some (show ixN (cnames g.acts) x.src < Hs.length by omega)
          have e3 := hs_at hra
          have e4 := fam_row (e := 4) (edgeF (cnames g.acts) (g.follows.take k)) ha
          have e5 := vec_len g.acts.length (fun j => pBool (edgeF (cnames g.acts) (g.follows.take k) (ixN (cnames g.acts) x.src) j))
          refine nav ?_
          (refine aC_region ?_
            <;> refine xL 48 (q_idxN tSl23_LbE) ?_
            <;> (refine yL 49 (q_lda tAgg68_LbE) fun v49 hv49 => ?_; cases hv49)
            <;> refine s_alloc [(.string ByteArray.empty), (.string ByteArray.empty), (.int .i64 0)] 3 8 tZr68_LbE fun h8 => ?_
            <;> refine s_sta 8 tAgg68_LbE ?_
            <;> refine aL_end (nav ?_) <;> try dsimp only)
          (refine aC_draw (fun i => ([15] : List Nat).elem i) [23, 8, 17, 201] (by kernel_rfl) ?_
            <;> refine xD 0 50 rfl q_move ?_
            <;> refine xD 1 51 rfl (q_nilo 23) ?_
            <;> refine xD 2 52 rfl (q_fldo 23 tFl80_1_LbE) ?_
            <;> (refine yD 3 53 rfl (q_ldo 23 tNa77_LbE) fun v53 hv53 => ?_; cases hv53)
            <;> refine xD 4 54 rfl q_move ?_
            <;> refine xD 5 55 rfl (q_fldo 8 tFl68_0_LbE) ?_
            <;> (refine yD 6 56 rfl (q_ldo 8 tNa9_LbE) fun v56 hv56 => ?_; cases hv56)
            <;> refine xD 10 60 rfl q_move ?_
            <;> refine xD 11 61 rfl (q_fldo 8 tFl68_1_LbE) ?_
            <;> (refine yD 12 62 rfl (q_ldo 8 tNa9_LbE) fun v62 hv62 => ?_; cases hv62)
            <;> (refine aD_one 7 (by kernel_rfl) ?_)
            <;> (refine aW_call (d := 57) rfl (cB rfl Tryz.call132 (cAt_e (cnames g.acts) _ x.src hxa) ⟨⟨_, _, rfl, reads_rel (l := 23) rfl hna.symm⟩, ⟨_, _, rfl, reads_slot (x := .tmp 56) rfl⟩, trivial⟩) fun v57 hv57 => ?_; cases hv57)
            <;> refine xD 8 58 rfl (q_idxoN 17 tSl77_LbE) ?_
            <;> (refine yD 9 59 rfl (q_ldo 17 tNa78_LbE) fun v59 hv59 => ?_; cases hv59)
            <;> (refine aD_one 13 (by kernel_rfl) ?_)
            <;> (refine aW_call (d := 63) rfl (cB rfl Tryz.call132 (cAt_e (cnames g.acts) _ x.dst hxb) ⟨⟨_, _, rfl, reads_rel (l := 23) rfl hna.symm⟩, ⟨_, _, rfl, reads_slot (x := .tmp 62) rfl⟩, trivial⟩) fun v63 hv63 => ?_; cases hv63)
            <;> refine xE 14 64 rfl (q_idxf 201 tSl78_LbE) ?_
            <;> (refine aD_one 15 (by kernel_rfl) ?_)
            <;> (refine aW_last rfl rfl (by kernel_rfl) fun DQ back => ?_)
            <;> refine s_stf 201 tNa4_LbE tSz4_LbE ?_
            <;> refine aL_end (back _ (nav ?_))
            <;> try dsimp only)
          (refine aC_region ?_
            <;> refine xL 65 q_add ?_
            <;> refine xL 46 q_move ?_
            <;> refine aL_end (nav ?_) <;> try dsimp only)
          rw [mat_step (e := 0) (f' := edgeF (cnames g.acts) (g.follows.take (k + 1))) fun i j _ _ => edge_step hx i j]
          refine aN_again (
            ⟨k + 1, by omega⟩
            ) (by dsimp only; omega) ⟨rfl, rfl, rfl, rfl, rfl, trivial⟩ ⟨rfl, rfl, rfl, rfl, rfl, rfl, trivial⟩)
       · first
         | exact Bool.noConfusion hb47
         | (
          refine nav ?_
          (refine aC_region ?_
            <;> refine xL 66 (q_fldo 1 tFl25_1_LbE) ?_
            <;> (refine yL 67 (q_ldo 1 tNa22_LbE) fun v67 hv67 => ?_; cases hv67)
            <;> refine xL 68 (q_len tSl22_LbE) ?_
            <;> refine xL 69 q_move ?_
            <;> refine aL_end (nav ?_) <;> try dsimp only)
          obtain rfl : k = g.follows.length := by omega
          rw [List.take_length, show List.replicate g.acts.length (PV.val (.bool false)) = vec g.acts.length (fun i => pBool (markF (cnames g.acts) [] i)) from vec_const _ _]
          refine aC_loop (ι := { k : Nat // k ≤ g.starts.length }) (fun k => ⟨[(1, _, _), (4, _, _), (67, _, _), (68, _, _), (69, .int .i64 k.1, pInt k.1)], [(1, _, _), (23, _, _), (17, _, _), (201, _, _), (21, _, _), (19, h19, oBools 4 g.acts.length (markF (cnames g.acts) (g.starts.take k.1)))]⟩) (fun k => g.starts.length - k.1) ⟨0, by omega⟩ (fun a w H => H.weaken ⟨rfl, rfl, rfl, rfl, rfl, trivial⟩ ⟨rfl, rfl, rfl, rfl, rfl, rfl, trivial⟩) ?_
          rintro ⟨k, hk⟩
          dsimp only
          refine nav ?_
          (refine aC_region ?_
            <;> refine xL 70 q_lss ?_
            <;> refine aL_end (nav ?_) <;> try dsimp only)
          first | refine cCd (fun hb70 => ?_) (fun hb70 => ?_) | refine cC (fun hb70 => ?_) (fun hb70 => ?_)
          · first
            | exact Bool.noConfusion hb70
            | (
             obtain ⟨x, hx⟩ := get_some (show k < g.starts.length by omega)
             have e1 := flat_drop cCnt_len g.starts k x hx
             have e2 := flat_fit cCnt_len hx
             have hxa := hst x (List.mem_of_getElem? hx)
             have ha := (ixN_of hxa).2
             rw [hna] at ha
             have e5 := vec_len g.acts.length (fun j => pBool (markF (cnames g.acts) (g.starts.take k) j))
             refine nav ?_
             (refine aC_region ?_
               <;> refine xL 71 (q_idxN tSl22_LbE) ?_
               <;> (refine yL 72 (q_lda tAgg62_LbE) fun v72 hv72 => ?_; cases hv72)
               <;> refine s_alloc [(.string ByteArray.empty), (.int .i64 0)] 2 10 tZr62_LbE fun h10 => ?_
               <;> refine s_sta 10 tAgg62_LbE ?_
               <;> refine aL_end (nav ?_) <;> try dsimp only)
             (refine aC_draw (fun i => ([9] : List Nat).elem i) [23, 10, 19] (by kernel_rfl) ?_
               <;> refine xD 0 73 rfl q_move ?_
               <;> refine xD 1 74 rfl (q_nilo 23) ?_
               <;> refine xD 2 75 rfl (q_fldo 23 tFl80_2_LbE) ?_
               <;> (refine yD 3 76 rfl (q_ldo 23 tNa78_LbE) fun v76 hv76 => ?_; cases hv76)
               <;> refine xD 4 77 rfl q_move ?_
               <;> refine xE 5 78 rfl (q_fldo 10 tFl62_0_LbE) ?_
               <;> (refine yE 6 79 rfl (q_ldo 10 tNa9_LbE) fun v79 hv79 => ?_; cases hv79)
               <;> (refine aD_one 7 (by kernel_rfl) ?_)
               <;> (refine aW_call (d := 80) rfl (cB rfl Tryz.call132 (cAt_e (cnames g.acts) _ x.name hxa) ⟨⟨_, _, rfl, reads_rel (l := 23) rfl hna.symm⟩, ⟨_, _, rfl, reads_slot (x := .tmp 79) rfl⟩, trivial⟩) fun v80 hv80 => ?_; cases hv80)
               <;> refine xE 8 81 rfl (q_idxoN 19 tSl78_LbE) ?_
               <;> (refine aD_one 9 (by kernel_rfl) ?_)
               <;> (refine aW_last rfl rfl (by kernel_rfl) fun DQ back => ?_)
               <;> refine s_st 19 tNa4_LbE tSz4_LbE ?_
               <;> refine aL_end (back _ (nav ?_))
               <;> try dsimp only)
             (refine aC_region ?_
               <;> refine xL 82 q_add ?_
               <;> refine xL 69 q_move ?_
               <;> refine aL_end (nav ?_) <;> try dsimp only)
             rw [bools_step (f' := markF (cnames g.acts) (g.starts.take (k + 1))) fun i _ => mark_step hx i]
             refine aN_again (
               ⟨k + 1, by omega⟩
               ) (by dsimp only; omega) ⟨rfl, rfl, rfl, rfl, rfl, trivial⟩ ⟨rfl, rfl, rfl, rfl, rfl, rfl, trivial⟩)
          · first
            | exact Bool.noConfusion hb70
            | (
             refine nav ?_
             (refine aC_region ?_
               <;> refine xL 83 (q_fldo 1 tFl25_2_LbE) ?_
               <;> (refine yL 84 (q_ldo 1 tNa22_LbE) fun v84 hv84 => ?_; cases hv84)
               <;> refine xL 85 (q_len tSl22_LbE) ?_
               <;> refine xL 86 q_move ?_
               <;> refine aL_end (nav ?_) <;> try dsimp only)
             obtain rfl : k = g.starts.length := by omega
             rw [List.take_length]
             refine aC_loop (ι := { k : Nat // k ≤ g.ends.length }) (fun k => ⟨[(1, _, _), (4, _, _), (84, _, _), (85, _, _), (86, .int .i64 k.1, pInt k.1)], [(1, _, _), (23, _, _), (17, _, _), (201, _, _), (19, _, _), (21, h21, oBools 4 g.acts.length (markF (cnames g.acts) (g.ends.take k.1)))]⟩) (fun k => g.ends.length - k.1) ⟨0, by omega⟩ (fun a w H => H.weaken ⟨rfl, rfl, rfl, rfl, rfl, trivial⟩ ⟨rfl, rfl, rfl, rfl, rfl, rfl, trivial⟩) ?_
             rintro ⟨k, hk⟩
             dsimp only
             refine nav ?_
             (refine aC_region ?_
               <;> refine xL 87 q_lss ?_
               <;> refine aL_end (nav ?_) <;> try dsimp only)
             first | refine cCd (fun hb87 => ?_) (fun hb87 => ?_) | refine cC (fun hb87 => ?_) (fun hb87 => ?_)
             · first
               | exact Bool.noConfusion hb87
               | (
                obtain ⟨x, hx⟩ := get_some (show k < g.ends.length by omega)
                have e1 := flat_drop cCnt_len g.ends k x hx
                have e2 := flat_fit cCnt_len hx
                have hxa := hen x (List.mem_of_getElem? hx)
                have ha := (ixN_of hxa).2
                rw [hna] at ha
                have e5 := vec_len g.acts.length (fun j => pBool (markF (cnames g.acts) (g.ends.take k) j))
                refine nav ?_
                (refine aC_region ?_
                  <;> refine xL 88 (q_idxN tSl22_LbE) ?_
                  <;> (refine yL 89 (q_lda tAgg62_LbE) fun v89 hv89 => ?_; cases hv89)
                  <;> refine s_alloc [(.string ByteArray.empty), (.int .i64 0)] 2 12 tZr62_LbE fun h12 => ?_
                  <;> refine s_sta 12 tAgg62_LbE ?_
                  <;> refine aL_end (nav ?_) <;> try dsimp only)
                (refine aC_draw (fun i => ([9] : List Nat).elem i) [23, 12, 21] (by kernel_rfl) ?_
                  <;> refine xD 0 90 rfl q_move ?_
                  <;> refine xD 1 91 rfl (q_nilo 23) ?_
                  <;> refine xD 2 92 rfl (q_fldo 23 tFl80_3_LbE) ?_
                  <;> (refine yD 3 93 rfl (q_ldo 23 tNa78_LbE) fun v93 hv93 => ?_; cases hv93)
                  <;> refine xD 4 94 rfl q_move ?_
                  <;> refine xE 5 95 rfl (q_fldo 12 tFl62_0_LbE) ?_
                  <;> (refine yE 6 96 rfl (q_ldo 12 tNa9_LbE) fun v96 hv96 => ?_; cases hv96)
                  <;> (refine aD_one 7 (by kernel_rfl) ?_)
                  <;> (refine aW_call (d := 97) rfl (cB rfl Tryz.call132 (cAt_e (cnames g.acts) _ x.name hxa) ⟨⟨_, _, rfl, reads_rel (l := 23) rfl hna.symm⟩, ⟨_, _, rfl, reads_slot (x := .tmp 96) rfl⟩, trivial⟩) fun v97 hv97 => ?_; cases hv97)
                  <;> refine xE 8 98 rfl (q_idxoN 21 tSl78_LbE) ?_
                  <;> (refine aD_one 9 (by kernel_rfl) ?_)
                  <;> (refine aW_last rfl rfl (by kernel_rfl) fun DQ back => ?_)
                  <;> refine s_st 21 tNa4_LbE tSz4_LbE ?_
                  <;> refine aL_end (back _ (nav ?_))
                  <;> try dsimp only)
                (refine aC_region ?_
                  <;> refine xL 99 q_add ?_
                  <;> refine xL 86 q_move ?_
                  <;> refine aL_end (nav ?_) <;> try dsimp only)
                rw [bools_step (f' := markF (cnames g.acts) (g.ends.take (k + 1))) fun i _ => mark_step hx i]
                refine aN_again (
                  ⟨k + 1, by omega⟩
                  ) (by dsimp only; omega) ⟨rfl, rfl, rfl, rfl, rfl, trivial⟩ ⟨rfl, rfl, rfl, rfl, rfl, rfl, trivial⟩)
             · first
               | exact Bool.noConfusion hb87
               | (
                refine nav ?_
                (refine aC_region ?_
                  <;> refine xL 100 q_move ?_
                  <;> refine xL 2 q_assign ?_
                  <;> refine aL_end (nav ?_) <;> try dsimp only)
                obtain rfl : k = g.ends.length := by omega
                rw [List.take_length]
                refine aR_ent (gather (l := 17) (l' := 201) rfl rfl rfl rfl) fun _ => ?_
                refine aR_ent (fold (l := 23) (l' := 17) (j := 1) rfl rfl rfl rfl) fun _ => ?_
                refine aR_ent (fold (l := 23) (l' := 19) (j := 2) rfl rfl rfl rfl) fun _ => ?_
                refine aR_ent (fold (l := 23) (l' := 21) (j := 3) rfl rfl rfl rfl) fun _ => ?_
                refine aR_ent (freezeP (l := 23) (t := 2) (j := 0) rfl Nat.one_pos rfl) fun _ => ?_
                refine ret_shr (Tryz.results102) rfl ?_
                show PV.sptr 0 (shares [_, oMat 78 4 _ _, oBools _ _ _, oBools _ _ _]) = pRel g
                rw [shares, shares, shares, shares, shares, share_mat, share_bools, share_bools, share_strs]
                unfold pRel cRel pStrs
                rw [hna]))))
end Go.Proofs.YtoanjgpdepaciaaGreat

namespace Go.Proofs.YtoanjgpdepaciaaGreat
open Go.RowKit Go.Cb Go.En
set_option linter.all false
set_option maxRecDepth 100000

theorem tAgg25_LbF : AggT Tryz.prog 25 4 = true := by kernel_rfl
theorem tFl80_0_LbF : FldT Tryz.prog 80 0 0 = true := by kernel_rfl
theorem tFl80_1_LbF : FldT Tryz.prog 80 1 1 = true := by kernel_rfl
theorem tFl80_2_LbF : FldT Tryz.prog 80 2 2 = true := by kernel_rfl
theorem tFl80_3_LbF : FldT Tryz.prog 80 3 3 = true := by kernel_rfl
theorem tNa36_LbF : NoAgg Tryz.prog 36 = true := by kernel_rfl
theorem tNa4_LbF : NoAgg Tryz.prog 4 = true := by kernel_rfl
theorem tNa77_LbF : NoAgg Tryz.prog 77 = true := by kernel_rfl
theorem tNa78_LbF : NoAgg Tryz.prog 78 = true := by kernel_rfl
theorem tSl36_LbF : SlT Tryz.prog 36 9 1 = true := by kernel_rfl
theorem tSl77_LbF : SlT Tryz.prog 77 78 1 = true := by kernel_rfl
theorem tSl78_LbF : SlT Tryz.prog 78 4 1 = true := by kernel_rfl
theorem tSz4_LbF : (Tryz.prog.info? 4).map (·.size) = some 1 := by kernel_rfl

def warAt (E : Nat → Nat → Bool) (k i j a b : Nat) : Bool := if a < i ∨ (a = i ∧ b < j) then war E (k + 1) a b else war E k a b
theorem warAt_col (E : Nat → Nat → Bool) (k i j a : Nat) : warAt E k i j a k = war E k a k := by
  unfold warAt
  split
  · rw [war_col]
  · rfl
theorem warAt_row (E : Nat → Nat → Bool) (k i j b : Nat) : warAt E k i j k b = war E k k b := by
  unfold warAt
  split
  · rw [war_row]
  · rfl
theorem warAt_self (E : Nat → Nat → Bool) (k i j : Nat) : warAt E k i j i j = war E k i j := by unfold warAt; rw [if_neg (by omega)]
theorem warAt_step {e n k i j : Nat} {E : Nat → Nat → Bool} {x : Bool} (hx : x = war E (k + 1) i j) : (vec n fun a => oBools e n (warAt E k i j a)).set i (.own e 1 n ((vec n fun b => pBool (warAt E k i j i b)).set (j * 1) (pBool x))) = vec n fun a => oBools e n (warAt E k i (j + 1) a) := by
  subst hx
  rw [Nat.mul_one, vec_set, vec_set]
  refine vec_congr fun a ha => ?_
  by_cases h : a = i
  · subst h
    rw [if_pos rfl]
    show PV.own _ _ _ _ = PV.own _ _ _ _
    congr 1
    refine vec_congr fun b hb => ?_
    by_cases h2 : b = j
    · subst h2; rw [if_pos rfl]; unfold warAt; rw [if_pos (by omega)]
    · rw [if_neg h2]; unfold warAt
      by_cases h3 : b < j
      · rw [if_pos (by omega), if_pos (by omega)]
      · rw [if_neg (by omega), if_neg (by omega)]
  · rw [if_neg h]
    show PV.own _ _ _ _ = PV.own _ _ _ _
    congr 1
    refine vec_congr fun b hb => ?_
    unfold warAt
    by_cases h3 : a < i
    · rw [if_pos (by omega), if_pos (by omega)]
    · rw [if_neg (by omega), if_neg (by omega)]
theorem war_c1 {E : Nat → Nat → Bool} {k i j : Nat} (h : war E k i j = true) : true = war E (k + 1) i j := by simp [war, h]
theorem war_c2 {E : Nat → Nat → Bool} {k i j : Nat} (h : war E k i j = false) (h2 : war E k i k = true) : war E k k j = war E (k + 1) i j := by simp [war, h, h2]
theorem war_c3 {E : Nat → Nat → Bool} {k i j : Nat} (h : war E k i j = false) (h2 : war E k i k = false) : false = war E (k + 1) i j := by simp [war, h, h2]
theorem warAt_next {n k i : Nat} {E : Nat → Nat → Bool} (e : Nat) : (vec n fun a => oBools e n (warAt E k i n a)) = vec n fun a => oBools e n (warAt E k (i + 1) 0 a) := by
  refine vec_congr fun a ha => ?_
  show PV.own _ _ _ _ = PV.own _ _ _ _
  congr 1
  refine vec_congr fun b hb => ?_
  unfold warAt
  by_cases h : a ≤ i
  · rw [if_pos (by omega), if_pos (by omega)]
  · rw [if_neg (by omega), if_neg (by omega)]
theorem warAt_end {n k : Nat} {E : Nat → Nat → Bool} (e : Nat) : (vec n fun a => oBools e n (warAt E k n 0 a)) = vec n fun a => oBools e n (war E (k + 1) a) := by
  refine vec_congr fun a ha => ?_
  show PV.own _ _ _ _ = PV.own _ _ _ _
  congr 1
  refine vec_congr fun b hb => ?_
  unfold warAt
  rw [if_pos (by omega)]
theorem warAt_start {n k : Nat} {E : Nat → Nat → Bool} (e : Nat) : (vec n fun a => oBools e n (war E k a)) = vec n fun a => oBools e n (warAt E k 0 0 a) := by
  refine vec_congr fun a ha => ?_
  show PV.own _ _ _ _ = PV.own _ _ _ _
  congr 1
  refine vec_congr fun b hb => ?_
  unfold warAt
  rw [if_neg (by omega)]
theorem vec_at1 {α : Type} {n i : Nat} (f : Nat → α) (h : i < n) : (vec n f)[i * 1]? = some (f i) := by rw [Nat.mul_one]; exact vec_get f h
theorem vec_all {α : Type} {n : Nat} {f : Nat → α} {p : α → Bool} (h : ∀ i, p (f i) = true) : (vec n f).all p = true := by
  unfold vec; rw [List.all_map, List.all_eq_true]; exact fun i _ => h i
theorem copy_step {e n k : Nat} {E : Nat → Nat → Bool} (v : Value) : (((vec n fun i => oBools e n (fun j => if i < k then E i j else false)).set k (.val v)).set k (.own e 1 n (vec n fun j => pBool (E k j)))) = vec n fun i => oBools e n (fun j => if i < k + 1 then E i j else false) := by
  rw [List.set_set, vec_set]
  refine vec_congr fun a ha => ?_
  by_cases h : a = k
  · subst h
    rw [if_pos rfl]
    show PV.own _ _ _ _ = PV.own _ _ _ _
    congr 1
    exact vec_congr fun b hb => by dsimp only; rw [if_pos (by omega)]
  · rw [if_neg h]
    show PV.own _ _ _ _ = PV.own _ _ _ _
    congr 1
    refine vec_congr fun b hb => ?_
    dsimp only
    by_cases h3 : a < k
    · rw [if_pos h3, if_pos (by omega)]
    · rw [if_neg h3, if_neg (by omega)]
set_option maxHeartbeats 1000000 in
theorem cReach_e (l : List ByteArray) (n : Nat) (E : Nat → Nat → Bool) (s f : PV) (hl : l.length = n) (hn : n ≤ 1000) : AF Tryz.prog 45 [.sptr 0 [pStrs l, pMat n E, s, f]] (· = pMat n (reachB n E)) := by
  refine AF.of_body 82 Tryz.func45 rfl Tryz.ntmps45 (Nat.le_of_ble_eq_true rfl) ?_
  intro w0 M0 vs hl hv
  obtain ⟨v0, rfl⟩ := len1 hl
  clear hl hv
  refine nav ?_
  (refine aC_region ?_
    <;> refine xL 2 q_assign ?_
    <;> refine aL_end (nav ?_) <;> try dsimp only)
  (refine aC_region ?_
    <;> refine xL 8 q_move ?_
    <;> refine xL 9 q_nilp ?_
    <;> refine xL 10 (q_fld tFl80_0_LbF) ?_
    <;> (refine yL 11 (q_ld tNa36_LbF) fun v11 hv11 => ?_; cases hv11)
    <;> refine xL 12 (q_len tSl36_LbF) ?_
    <;> refine cO 13 (cA Tryz.call104 (cSquare_e l.length (by omega))) fun v13 ho13 => ?_
    <;> refine xL 3 q_assign ?_
    <;> refine aL_end (nav ?_) <;> try dsimp only)
  (refine aC_region ?_
    <;> refine xL 14 q_move ?_
    <;> refine xL 15 (q_leno 13 tSl77_LbF) ?_
    <;> refine xL 16 q_move ?_
    <;> refine aL_end (nav ?_) <;> try dsimp only)
  rw [hl]
  refine aC_ent (spread (l := 13) 200 rfl rfl) fun Hs => ?_
  obtain ⟨Hs, hHs⟩ := Hs
  rw [vec_len] at hHs
  dsimp only
  rw [show (vec n fun i => oBools 4 n (fun _ => false)) = vec n (fun i => oBools 4 n (fun j => if i < 0 then E i j else false)) from vec_congr fun i _ => by congr 1]
  refine aC_loop (ι := { k : Nat // k ≤ n }) (fun k => ⟨[(0, _, _), (3, _, _), (15, _, _), (16, .int .i64 k.1, pInt k.1)], [(13, _, _), (200, .agg Hs.toArray, .agg (vec n fun i => oBools 4 n (fun j => if i < k.1 then E i j else false)))]⟩) (fun k => n - k.1) ⟨0, by omega⟩ (fun a w H => H.weaken ⟨rfl, rfl, rfl, rfl, trivial⟩ ⟨rfl, rfl, trivial⟩) ?_
  rintro ⟨k, hk⟩
  dsimp only
  refine nav ?_
  (refine aC_region ?_
    <;> refine xL 17 q_lss ?_
    <;> refine aL_end (nav ?_) <;> try dsimp only)
  first | refine cCd (fun hb17 => ?_) (fun hb17 => ?_) | refine cC (fun hb17 => ?_) (fun hb17 => ?_)
  · first
    | exact Bool.noConfusion hb17
    | (
     have hlt : k < n := by omega
     obtain ⟨rk, hrk⟩ := get_some (show k < Hs.length by omega)
     have e1 := hs_at hrk
     have e2 := vec_at1 (fun i => pBools n (E i)) hlt
     refine aC_ent (famPick (l := 200) (i := k) 201 rfl hrk (vec_get _ hlt) rfl) fun _ => ?_
     refine nav ?_
     (refine aC_region ?_
       <;> refine xL 18 q_move ?_
       <;> refine xL 4 q_assign ?_
       <;> refine aL_end (nav ?_) <;> try dsimp only)
     (refine aC_draw (fun i => ([] : List Nat).elem i) [13] (by kernel_rfl) ?_
       <;> refine xD 0 19 rfl q_move ?_
       <;> refine xD 1 20 rfl q_move ?_
       <;> refine xD 2 21 rfl (q_idxoN 13 tSl77_LbF) ?_
       <;> (refine yD 3 22 rfl (q_ldo 13 tNa78_LbF) fun v22 hv22 => ?_; cases hv22)
       <;> refine xD 4 23 rfl q_move ?_
       <;> refine xD 5 24 rfl q_nilp ?_
       <;> refine xD 6 25 rfl (q_fld tFl80_1_LbF) ?_
       <;> (refine yD 7 26 rfl (q_ld tNa77_LbF) fun v26 hv26 => ?_; cases hv26)
       <;> refine xE 8 27 rfl q_move ?_
       <;> refine xE 9 28 rfl (q_idxN tSl77_LbF) ?_
       <;> (refine yE 10 29 rfl (q_ld tNa78_LbF) fun v29 hv29 => ?_; cases hv29)
       <;> (refine aD_one 11 (by kernel_rfl) ?_)
       <;> (refine aW_run rfl fun w9 M9 N9 DQ back => ?_)
       <;> refine s_copy 201 30 tSl78_LbF ?_ (vec_len _ _) (vec_all fun _ => rfl)
       <;> refine aL_end (back _ (nrm ?_))
       <;> refine aD_end (by kernel_rfl) (nav ?_)
       <;> try dsimp only)
     (refine aC_region ?_
       <;> refine xL 31 q_add ?_
       <;> refine xL 16 q_move ?_
       <;> refine aL_end (nav ?_) <;> try dsimp only)
     refine aN_ent (famBack (l := 200) (l' := 201) (i := k) rfl hrk (List.getElem?_set_self (by rw [vec_len]; omega)) rfl rfl) fun _ => ?_
     rw [copy_step]
     refine aN_again (
       ⟨k + 1, by omega⟩
       ) (by dsimp only; omega) ⟨rfl, rfl, rfl, rfl, trivial⟩ ⟨rfl, rfl, trivial⟩)
  · first
    | exact Bool.noConfusion hb17
    | (
     refine nav ?_
     (refine aC_region ?_
       <;> refine xL 32 q_move ?_
       <;> refine xL 33 (q_leno 13 tSl77_LbF) ?_
       <;> refine xL 34 q_move ?_
       <;> refine aL_end (nav ?_) <;> try dsimp only)
     rw [show (vec n fun i => oBools 4 n (fun j => if i < k then E i j else false)) = vec n (fun i => oBools 4 n (war E 0 i)) from vec_congr fun i hi => by
       show PV.own _ _ _ _ = PV.own _ _ _ _
       congr 1
       exact vec_congr fun j _ => by dsimp only; rw [if_pos (show i < k by omega)]; rfl]
     refine aC_loop (ι := { m : Nat // m ≤ n }) (fun k => ⟨[(0, _, _), (3, _, _), (33, _, _), (34, .int .i64 k.1, pInt k.1)], [(13, _, _), (200, .agg Hs.toArray, .agg (vec n fun i => oBools 4 n (war E k.1 i)))]⟩) (fun k => n - k.1) ⟨0, by omega⟩ (fun a w H => H.weaken ⟨rfl, rfl, rfl, rfl, trivial⟩ ⟨rfl, rfl, trivial⟩) ?_
     rintro ⟨m, hm⟩
     dsimp only
     refine nav ?_
     (refine aC_region ?_
       <;> refine xL 35 q_lss ?_
       <;> refine aL_end (nav ?_) <;> try dsimp only)
     first | refine cCd (fun hb35 => ?_) (fun hb35 => ?_) | refine cC (fun hb35 => ?_) (fun hb35 => ?_)
     · first
       | exact Bool.noConfusion hb35
       | (
        refine nav ?_
        (refine aC_region ?_
          <;> refine xL 36 q_move ?_
          <;> refine xL 5 q_assign ?_
          <;> refine aL_end (nav ?_) <;> try dsimp only)
        (refine aC_region ?_
          <;> refine xL 37 q_move ?_
          <;> refine xL 38 (q_leno 13 tSl77_LbF) ?_
          <;> refine xL 39 q_move ?_
          <;> refine aL_end (nav ?_) <;> try dsimp only)
        rw [warAt_start]
        refine aC_loop (ι := { i : Nat // i ≤ n }) (fun k => ⟨[(0, _, _), (3, _, _), (33, _, _), (34, _, _), (5, _, _), (38, _, _), (39, .int .i64 k.1, pInt k.1)], [(13, _, _), (200, .agg Hs.toArray, .agg (vec n fun a => oBools 4 n (warAt E m k.1 0 a)))]⟩) (fun k => n - k.1) ⟨0, by omega⟩ (fun a w H => H.weaken ⟨rfl, rfl, rfl, rfl, rfl, rfl, rfl, trivial⟩ ⟨rfl, rfl, trivial⟩) ?_
        rintro ⟨i, hi⟩
        dsimp only
        refine nav ?_
        (refine aC_region ?_
          <;> refine xL 40 q_lss ?_
          <;> refine aL_end (nav ?_) <;> try dsimp only)
        first | refine cCd (fun hb40 => ?_) (fun hb40 => ?_) | refine cC (fun hb40 => ?_) (fun hb40 => ?_)
        · first
          | exact Bool.noConfusion hb40
          | (
           refine nav ?_
           (refine aC_region ?_
             <;> refine xL 41 q_move ?_
             <;> refine xL 6 q_assign ?_
             <;> refine aL_end (nav ?_) <;> try dsimp only)
           (refine aC_region ?_
             <;> refine xL 42 q_move ?_
             <;> refine xL 43 (q_leno 13 tSl77_LbF) ?_
             <;> refine xL 44 q_move ?_
             <;> refine aL_end (nav ?_) <;> try dsimp only)
           refine aC_loop (ι := { j : Nat // j ≤ n }) (fun k => ⟨[(0, _, _), (3, _, _), (33, _, _), (34, _, _), (5, _, _), (38, _, _), (39, _, _), (6, _, _), (43, _, _), (44, .int .i64 k.1, pInt k.1)], [(13, _, _), (200, .agg Hs.toArray, .agg (vec n fun a => oBools 4 n (warAt E m i k.1 a)))]⟩) (fun k => n - k.1) ⟨0, by omega⟩ (fun a w H => H.weaken ⟨rfl, rfl, rfl, rfl, rfl, rfl, rfl, rfl, rfl, rfl, trivial⟩ ⟨rfl, rfl, trivial⟩) ?_
           rintro ⟨j, hj⟩
           dsimp only
           refine nav ?_
           (refine aC_region ?_
             <;> refine xL 45 q_lss ?_
             <;> refine aL_end (nav ?_) <;> try dsimp only)
           first | refine cCd (fun hb45 => ?_) (fun hb45 => ?_) | refine cC (fun hb45 => ?_) (fun hb45 => ?_)
           · first
             | exact Bool.noConfusion hb45
             | (
              have hmn : m < n := by omega
              have hin : i < n := by omega
              have hjn : j < n := by omega
              obtain ⟨ri, hri⟩ := get_some (show i < Hs.length by omega)
              obtain ⟨rm, hrm⟩ := get_some (show m < Hs.length by omega)
              have e1 := hs_at hri
              have e2 := hs_at hrm
              have e3 := fam_row (e := 4) (warAt E m i j) hin
              have e4 := fam_row (e := 4) (warAt E m i j) hmn
              have e5 : (vec n fun b => pBool (warAt E m i j i b))[j * 1]? = some (pBool (war E m i j)) := by rw [vec_at1 _ hjn, warAt_self]
              have e6 : (vec n fun b => pBool (warAt E m i j i b))[m * 1]? = some (pBool (war E m i m)) := by rw [vec_at1 _ hmn, warAt_col]
              have e7 : (vec n fun b => pBool (warAt E m i j m b))[j * 1]? = some (pBool (war E m m j)) := by rw [vec_at1 _ hjn, warAt_row]
              have e8 := vec_len n (fun b => pBool (warAt E m i j i b))
              refine nav ?_
              (refine aC_region ?_
                <;> refine xL 46 q_move ?_
                <;> refine xL 7 q_assign ?_
                <;> refine aL_end (nav ?_) <;> try dsimp only)
              (refine aC_draw (fun i => ([31] : List Nat).elem i) [13, 200] (by kernel_rfl) ?_
                <;> refine xD 0 47 rfl q_move ?_
                <;> refine xD 1 48 rfl q_move ?_
                <;> refine xD 2 49 rfl (q_idxoN 13 tSl77_LbF) ?_
                <;> (refine yD 3 50 rfl (q_ldo 13 tNa78_LbF) fun v50 hv50 => ?_; cases hv50)
                <;> refine xD 4 51 rfl q_move ?_
                <;> refine xD 5 52 rfl q_move ?_
                <;> refine xD 6 53 rfl q_move ?_
                <;> refine xD 7 54 rfl (q_idxoN 13 tSl77_LbF) ?_
                <;> (refine yD 8 55 rfl (q_ldo 13 tNa78_LbF) fun v55 hv55 => ?_; cases hv55)
                <;> refine xE 9 56 rfl q_move ?_
                <;> refine xE 10 57 rfl (q_idxf 200 tSl78_LbF) ?_
                <;> (refine yE 11 58 rfl (q_ldf 200 tNa4_LbF) fun v58 hv58 => ?_; cases hv58)
                <;> refine xE 12 59 rfl q_move ?_
                <;> (refine bD 59 (fun hb59 => ?_) (fun hb59 => ?_) <;> (first | refine kD 13 60 rfl ?_ | refine xD 13 60 rfl q_move ?_))
                <;> (first | refine kD 14 61 rfl ?_ | refine xD 14 61 rfl q_move ?_)
                <;> (first | refine kD 15 62 rfl ?_ | refine xD 15 62 rfl (q_idxoN 13 tSl77_LbF) ?_)
                <;> (first | refine kD 16 63 rfl ?_ | (refine yD 16 63 rfl (q_ldo 13 tNa78_LbF) fun v63 hv63 => ?_; cases hv63))
                <;> (first | refine kD 17 64 rfl ?_ | refine xD 17 64 rfl q_move ?_)
                <;> (first | refine kD 18 65 rfl ?_ | refine xD 18 65 rfl (q_idxf 200 tSl78_LbF) ?_)
                <;> (first | refine kD 19 66 rfl ?_ | (refine yD 19 66 rfl (q_ldf 200 tNa4_LbF) fun v66 hv66 => ?_; cases hv66))
                <;> (first | refine kD 20 67 rfl ?_ | refine xD 20 67 rfl q_move ?_)
                <;> (first | refine kD 21 68 rfl ?_ | (refine bD 67 (fun hb67 => ?_) (fun hb67 => ?_) <;> (first | refine kD 21 68 rfl ?_ | refine xD 21 68 rfl q_move ?_)))
                <;> (first | refine kD 22 69 rfl ?_ | refine xD 22 69 rfl q_move ?_)
                <;> (first | refine kD 23 70 rfl ?_ | refine xD 23 70 rfl (q_idxoN 13 tSl77_LbF) ?_)
                <;> (first | refine kD 24 71 rfl ?_ | (refine yD 24 71 rfl (q_ldo 13 tNa78_LbF) fun v71 hv71 => ?_; cases hv71))
                <;> (first | refine kD 25 72 rfl ?_ | refine xD 25 72 rfl q_move ?_)
                <;> (first | refine kD 26 73 rfl ?_ | refine xD 26 73 rfl (q_idxf 200 tSl78_LbF) ?_)
                <;> (first | refine kD 27 74 rfl ?_ | (refine yD 27 74 rfl (q_ldf 200 tNa4_LbF) fun v74 hv74 => ?_; cases hv74))
                <;> (first | refine kD 28 75 rfl ?_ | refine xD 28 75 rfl q_pick ?_)
                <;> refine xE 29 76 rfl q_pick ?_
                <;> refine xE 30 77 rfl (q_idxf 200 tSl78_LbF) ?_
                <;> (refine aD_one 31 (by kernel_rfl) ?_)
                <;> (refine aW_last rfl rfl (by kernel_rfl) fun DQ back => ?_)
                <;> refine s_stf 200 tNa4_LbF tSz4_LbF ?_
                <;> refine aL_end (back _ (nav ?_))
                <;> try dsimp only) <;> (
               (refine aC_region ?_
                 <;> refine xL 78 q_add ?_
                 <;> refine xL 44 q_move ?_
                 <;> refine aL_end (nav ?_) <;> try dsimp only)
               rw [warAt_step (by first | exact war_c1 hb59 | exact war_c2 hb59 hb67 | exact war_c3 hb59 hb67)]
               refine aN_again (
                 ⟨j + 1, by omega⟩
                 ) (by dsimp only; omega) ⟨rfl, rfl, rfl, rfl, rfl, rfl, rfl, rfl, rfl, rfl, trivial⟩ ⟨rfl, rfl, trivial⟩))
           · first
             | exact Bool.noConfusion hb45
             | (
              refine nav ?_
              (refine aC_region ?_
                <;> refine xL 79 q_add ?_
                <;> refine xL 39 q_move ?_
                <;> refine aL_end (nav ?_) <;> try dsimp only)
              rw [show j = n by omega, warAt_next]
              refine aN_again (
                ⟨i + 1, by omega⟩
                ) (by dsimp only; omega) ⟨rfl, rfl, rfl, rfl, rfl, rfl, rfl, trivial⟩ ⟨rfl, rfl, trivial⟩))
        · first
          | exact Bool.noConfusion hb40
          | (
           refine nav ?_
           (refine aC_region ?_
             <;> refine xL 80 q_add ?_
             <;> refine xL 34 q_move ?_
             <;> refine aL_end (nav ?_) <;> try dsimp only)
           rw [show i = n by omega, warAt_end]
           refine aN_again (
             ⟨m + 1, by omega⟩
             ) (by dsimp only; omega) ⟨rfl, rfl, rfl, rfl, trivial⟩ ⟨rfl, rfl, trivial⟩))
     · first
       | exact Bool.noConfusion hb35
       | (
        refine nav ?_
        (refine aC_region ?_
          <;> refine xL 81 q_move ?_
          <;> refine xL 2 q_assign ?_
          <;> refine aL_end (nav ?_) <;> try dsimp only)
        rw [show m = n by omega]
        refine aR_ent (gather (l := 13) (l' := 200) rfl rfl rfl rfl) fun _ => ?_
        refine aR_ent (En.freeze (l := 13) (t := 2) rfl rfl) fun _ => ?_
        refine ret_shr (Tryz.results45) rfl ?_
        exact share_mat _ _ n (war E n)))
def allB (n : Nat) (p : Nat → Bool) : Bool := (List.range n).all p
theorem allB_stop {n k : Nat} {p : Nat → Bool} (hk : k < n) (h : p k = false) : allB n p = false := List.all_eq_false.2 ⟨k, List.mem_range.2 hk, by rw [h]; simp⟩
theorem allB_end {n : Nat} {p : Nat → Bool} (h : ∀ j, j < n → p j = true) : allB n p = true := List.all_eq_true.2 fun j hj => h j (List.mem_range.1 hj)
def endsB (n : Nat) (E : Nat → Nat → Bool) (F : Nat → Bool) (a b : Nat) : Bool := !E a b || (F a && allB n fun x => !F x || E x b)
def begsB (n : Nat) (E : Nat → Nat → Bool) (S : Nat → Bool) (a b : Nat) : Bool := !E b a || (S a && allB n fun x => !S x || E b x)
def loopsB (n : Nat) (E : Nat → Nat → Bool) (S F : Nat → Bool) (a b : Nat) : Bool := endsB n E F a b && begsB n E S a b
def relP (l : List ByteArray) (n : Nat) (E : Nat → Nat → Bool) (S F : Nat → Bool) : PV := .sptr 0 [pStrs l, pMat n E, pBools n S, pBools n F]
set_option maxHeartbeats 1000000 in
theorem cLoops_e (l : List ByteArray) (n : Nat) (E : Nat → Nat → Bool) (S F : Nat → Bool) (a b : Nat) (hl : l.length = n) (hn : n ≤ 1000) (ha : a < n) (hb : b < n) : AF Tryz.prog 74 [relP l n E S F, pInt a, pInt b] (· = pBool (loopsB n E S F a b)) := by
  have ea := vec_at1 (fun i => pBools n (E i)) ha
  have eb := vec_at1 (fun i => pBools n (E i)) hb
  have eab := vec_at1 (fun j => pBool (E a j)) hb
  have eba := vec_at1 (fun j => pBool (E b j)) ha
  have fa := vec_at1 (fun j => pBool (F j)) ha
  have sa := vec_at1 (fun j => pBool (S j)) ha
  refine AF.of_body 103 Tryz.func74 rfl Tryz.ntmps74 (Nat.le_of_ble_eq_true rfl) ?_
  intro w0 M0 vs hl hv
  obtain ⟨v0, v1, v2, rfl⟩ := len3 hl
  obtain rfl := hv 1 _ _ rfl rfl
  obtain rfl := hv 2 _ _ rfl rfl
  clear hl hv
  dsimp only [relP]
  refine nav ?_
  (refine aC_region ?_
    <;> refine xL 6 q_assign ?_
    <;> refine aL_end (nav ?_) <;> try dsimp only)
  (refine aC_region ?_
    <;> refine xL 9 q_move ?_
    <;> refine xL 10 q_nilp ?_
    <;> refine xL 11 (q_fld tFl80_1_LbF) ?_
    <;> (refine yL 12 (q_ld tNa77_LbF) fun v12 hv12 => ?_; cases hv12)
    <;> refine xL 13 q_move ?_
    <;> refine xL 14 (q_idxN tSl77_LbF) ?_
    <;> (refine yL 15 (q_ld tNa78_LbF) fun v15 hv15 => ?_; cases hv15)
    <;> refine xL 16 q_move ?_
    <;> refine xL 17 (q_idxN tSl78_LbF) ?_
    <;> (refine yL 18 (q_ld tNa4_LbF) fun v18 hv18 => ?_; cases hv18)
    <;> refine aL_end (nav ?_) <;> try dsimp only)
  refine aC_mid (fun x : { x : Unit // endsB n E F a b = true } => ⟨[(0, v0, relP l n E S F), (1, .int .i64 a, pInt a), (2, .int .i64 b, pInt b)], []⟩) ?_ ?_
  · first | refine cCd (fun hb18 => ?_) (fun hb18 => ?_) | refine cC (fun hb18 => ?_) (fun hb18 => ?_)
    · first
      | exact Bool.noConfusion hb18
      | (
       refine nav ?_
       (refine aC_region ?_
         <;> refine xL 19 q_move ?_
         <;> refine xL 20 q_nilp ?_
         <;> refine xL 21 (q_fld tFl80_3_LbF) ?_
         <;> (refine yL 22 (q_ld tNa78_LbF) fun v22 hv22 => ?_; cases hv22)
         <;> refine xL 23 q_move ?_
         <;> refine xL 24 (q_idxN tSl78_LbF) ?_
         <;> (refine yL 25 (q_ld tNa4_LbF) fun v25 hv25 => ?_; cases hv25)
         <;> refine xL 26 q_not ?_
         <;> refine aL_end (nav ?_) <;> try dsimp only)
       first | refine cCd (fun hb26 => ?_) (fun hb26 => ?_) | refine cC (fun hb26 => ?_) (fun hb26 => ?_)
       · first
         | exact Bool.noConfusion hb26
         | (
          refine nav ?_
          (refine aC_region ?_
            <;> refine xL 6 q_assign ?_
            <;> refine aL_end (nav ?_) <;> try dsimp only)
          refine ret_shr (Tryz.results74) rfl ?_
          rw [show loopsB n E S F a b = false by unfold loopsB endsB; rw [hb18, show F a = false by simpa using hb26]; simp])
       · first
         | exact Bool.noConfusion hb26
         | (
          refine nav ?_
          (refine aC_region ?_
            <;> refine xL 27 q_move ?_
            <;> refine xL 28 q_nilp ?_
            <;> refine xL 29 (q_fld tFl80_0_LbF) ?_
            <;> (refine yL 30 (q_ld tNa36_LbF) fun v30 hv30 => ?_; cases hv30)
            <;> refine xL 31 (q_len tSl36_LbF) ?_
            <;> refine xL 32 q_move ?_
            <;> refine aL_end (nav ?_) <;> try dsimp only)
          refine aC_loop (ι := { k : Nat // k ≤ n ∧ ∀ j, j < k → (!F j || E j b) = true }) (fun k => ⟨[(0, _, _), (1, _, _), (2, _, _), (31, _, _), (32, .int .i64 k.1, pInt k.1)], []⟩) (fun k => n - k.1) ⟨0, by omega, by omega⟩ (fun a w H => H.weaken ⟨rfl, rfl, rfl, rfl, rfl, trivial⟩ trivial) ?_
          rintro ⟨k, hk, hp⟩
          dsimp only
          refine nav ?_
          (refine aC_region ?_
            <;> refine xL 33 q_lss ?_
            <;> refine aL_end (nav ?_) <;> try dsimp only)
          first | refine cCd (fun hb33 => ?_) (fun hb33 => ?_) | refine cC (fun hb33 => ?_) (fun hb33 => ?_)
          · first
            | exact Bool.noConfusion hb33
            | (
             have hlt : k < n := by omega
             have fk := vec_at1 (fun j => pBool (F j)) hlt
             have ek := vec_at1 (fun i => pBools n (E i)) hlt
             have ekb := vec_at1 (fun j => pBool (E k j)) hb
             refine nav ?_
             (refine aC_region ?_
               <;> refine xL 34 q_move ?_
               <;> refine xL 7 q_assign ?_
               <;> refine aL_end (nav ?_) <;> try dsimp only)
             (refine aC_region ?_
               <;> refine xL 35 q_move ?_
               <;> refine xL 36 q_nilp ?_
               <;> refine xL 37 (q_fld tFl80_3_LbF) ?_
               <;> (refine yL 38 (q_ld tNa78_LbF) fun v38 hv38 => ?_; cases hv38)
               <;> refine xL 39 q_move ?_
               <;> refine xL 40 (q_idxN tSl78_LbF) ?_
               <;> (refine yL 41 (q_ld tNa4_LbF) fun v41 hv41 => ?_; cases hv41)
               <;> refine xL 42 q_move ?_
               <;> (refine bL 42 (fun hb42 => ?_) (fun hb42 => ?_) <;> (first | refine kL 43 ?_ | refine xL 43 q_move ?_))
               <;> (first | refine kL 44 ?_ | refine xL 44 q_nilp ?_)
               <;> (first | refine kL 45 ?_ | refine xL 45 (q_fld tFl80_1_LbF) ?_)
               <;> (first | refine kL 46 ?_ | (refine yL 46 (q_ld tNa77_LbF) fun v46 hv46 => ?_; cases hv46))
               <;> (first | refine kL 47 ?_ | refine xL 47 q_move ?_)
               <;> (first | refine kL 48 ?_ | refine xL 48 (q_idxN tSl77_LbF) ?_)
               <;> (first | refine kL 49 ?_ | (refine yL 49 (q_ld tNa78_LbF) fun v49 hv49 => ?_; cases hv49))
               <;> (first | refine kL 50 ?_ | refine xL 50 q_move ?_)
               <;> (first | refine kL 51 ?_ | refine xL 51 (q_idxN tSl78_LbF) ?_)
               <;> (first | refine kL 52 ?_ | (refine yL 52 (q_ld tNa4_LbF) fun v52 hv52 => ?_; cases hv52))
               <;> (first | refine kL 53 ?_ | refine xL 53 q_not ?_)
               <;> refine xL 54 q_pick ?_
               <;> refine aL_end (nav ?_) <;> try dsimp only) <;> (
              first | refine cCd (fun hb54 => ?_) (fun hb54 => ?_) | refine cC (fun hb54 => ?_) (fun hb54 => ?_)
              · first
                | exact Bool.noConfusion hb54
                | (
                 refine nav ?_
                 (refine aC_region ?_
                   <;> refine xL 6 q_assign ?_
                   <;> refine aL_end (nav ?_) <;> try dsimp only)
                 refine ret_shr (Tryz.results74) rfl ?_
                 rw [show loopsB n E S F a b = false by unfold loopsB endsB; rw [hb18, allB_stop hlt (by rw [hb42, show E k b = false by simpa using hb54]; rfl)]; simp])
              · first
                | exact Bool.noConfusion hb54
                | (
                 refine nav ?_
                 (refine aC_region ?_
                   <;> refine xL 55 q_add ?_
                   <;> refine xL 32 q_move ?_
                   <;> refine aL_end (nav ?_) <;> try dsimp only)
                 refine aN_again (
                   ⟨k + 1, by omega, fun j hj => by
                     by_cases e : j = k
                     · subst e
                       first | (rw [hb42]; simpa using hb54) | (rw [hb42]; rfl)
                     · exact hp j (by omega)⟩
                   ) (by dsimp only; omega) ⟨rfl, rfl, rfl, rfl, rfl, trivial⟩ trivial)))
          · first
            | exact Bool.noConfusion hb33
            | (
             refine nav ?_
             refine aN_join ⟨(), ?_⟩ ⟨rfl, rfl, rfl, trivial⟩ trivial
             first
               | (unfold endsB; rw [hb18, show F a = true by simpa using hb26, allB_end fun j hj => hp j (by omega)]; rfl)
               | (unfold endsB; rw [hb18]; rfl))))
    · first
      | exact Bool.noConfusion hb18
      | (
       refine nav ?_
       refine aN_join ⟨(), ?_⟩ ⟨rfl, rfl, rfl, trivial⟩ trivial
       first
         | (unfold endsB; rw [hb18, show F a = true by simpa using hb26, allB_end fun j hj => hp j (by omega)]; rfl)
         | (unfold endsB; rw [hb18]; rfl))
  · rintro ⟨_, hends⟩
    dsimp only [relP]
    refine nav ?_
    (refine aC_region ?_
      <;> refine xL 56 q_move ?_
      <;> refine xL 57 q_nilp ?_
      <;> refine xL 58 (q_fld tFl80_1_LbF) ?_
      <;> (refine yL 59 (q_ld tNa77_LbF) fun v59 hv59 => ?_; cases hv59)
      <;> refine xL 60 q_move ?_
      <;> refine xL 61 (q_idxN tSl77_LbF) ?_
      <;> (refine yL 62 (q_ld tNa78_LbF) fun v62 hv62 => ?_; cases hv62)
      <;> refine xL 63 q_move ?_
      <;> refine xL 64 (q_idxN tSl78_LbF) ?_
      <;> (refine yL 65 (q_ld tNa4_LbF) fun v65 hv65 => ?_; cases hv65)
      <;> refine aL_end (nav ?_) <;> try dsimp only)
    first | refine cCd (fun hb65 => ?_) (fun hb65 => ?_) | refine cC (fun hb65 => ?_) (fun hb65 => ?_)
    · first
      | exact Bool.noConfusion hb65
      | (
       refine nav ?_
       (refine aC_region ?_
         <;> refine xL 66 q_move ?_
         <;> refine xL 67 q_nilp ?_
         <;> refine xL 68 (q_fld tFl80_2_LbF) ?_
         <;> (refine yL 69 (q_ld tNa78_LbF) fun v69 hv69 => ?_; cases hv69)
         <;> refine xL 70 q_move ?_
         <;> refine xL 71 (q_idxN tSl78_LbF) ?_
         <;> (refine yL 72 (q_ld tNa4_LbF) fun v72 hv72 => ?_; cases hv72)
         <;> refine xL 73 q_not ?_
         <;> refine aL_end (nav ?_) <;> try dsimp only)
       first | refine cCd (fun hb73 => ?_) (fun hb73 => ?_) | refine cC (fun hb73 => ?_) (fun hb73 => ?_)
       · first
         | exact Bool.noConfusion hb73
         | (
          refine nav ?_
          (refine aC_region ?_
            <;> refine xL 6 q_assign ?_
            <;> refine aL_end (nav ?_) <;> try dsimp only)
          refine ret_shr (Tryz.results74) rfl ?_
          rw [show loopsB n E S F a b = false by unfold loopsB begsB; rw [hb65, show S a = false by simpa using hb73]; simp])
       · first
         | exact Bool.noConfusion hb73
         | (
          refine nav ?_
          (refine aC_region ?_
            <;> refine xL 74 q_move ?_
            <;> refine xL 75 q_nilp ?_
            <;> refine xL 76 (q_fld tFl80_0_LbF) ?_
            <;> (refine yL 77 (q_ld tNa36_LbF) fun v77 hv77 => ?_; cases hv77)
            <;> refine xL 78 (q_len tSl36_LbF) ?_
            <;> refine xL 79 q_move ?_
            <;> refine aL_end (nav ?_) <;> try dsimp only)
          refine aC_loop (ι := { k : Nat // k ≤ n ∧ ∀ j, j < k → (!S j || E b j) = true }) (fun k => ⟨[(0, _, _), (1, _, _), (2, _, _), (78, _, _), (79, .int .i64 k.1, pInt k.1)], []⟩) (fun k => n - k.1) ⟨0, by omega, by omega⟩ (fun a w H => H.weaken ⟨rfl, rfl, rfl, rfl, rfl, trivial⟩ trivial) ?_
          rintro ⟨k, hk, hp⟩
          dsimp only
          refine nav ?_
          (refine aC_region ?_
            <;> refine xL 80 q_lss ?_
            <;> refine aL_end (nav ?_) <;> try dsimp only)
          first | refine cCd (fun hb80 => ?_) (fun hb80 => ?_) | refine cC (fun hb80 => ?_) (fun hb80 => ?_)
          · first
            | exact Bool.noConfusion hb80
            | (
             have hlt : k < n := by omega
             have fk := vec_at1 (fun j => pBool (S j)) hlt
             have ekb := vec_at1 (fun j => pBool (E b j)) hlt
             refine nav ?_
             (refine aC_region ?_
               <;> refine xL 81 q_move ?_
               <;> refine xL 8 q_assign ?_
               <;> refine aL_end (nav ?_) <;> try dsimp only)
             (refine aC_region ?_
               <;> refine xL 82 q_move ?_
               <;> refine xL 83 q_nilp ?_
               <;> refine xL 84 (q_fld tFl80_2_LbF) ?_
               <;> (refine yL 85 (q_ld tNa78_LbF) fun v85 hv85 => ?_; cases hv85)
               <;> refine xL 86 q_move ?_
               <;> refine xL 87 (q_idxN tSl78_LbF) ?_
               <;> (refine yL 88 (q_ld tNa4_LbF) fun v88 hv88 => ?_; cases hv88)
               <;> refine xL 89 q_move ?_
               <;> (refine bL 89 (fun hb89 => ?_) (fun hb89 => ?_) <;> (first | refine kL 90 ?_ | refine xL 90 q_move ?_))
               <;> (first | refine kL 91 ?_ | refine xL 91 q_nilp ?_)
               <;> (first | refine kL 92 ?_ | refine xL 92 (q_fld tFl80_1_LbF) ?_)
               <;> (first | refine kL 93 ?_ | (refine yL 93 (q_ld tNa77_LbF) fun v93 hv93 => ?_; cases hv93))
               <;> (first | refine kL 94 ?_ | refine xL 94 q_move ?_)
               <;> (first | refine kL 95 ?_ | refine xL 95 (q_idxN tSl77_LbF) ?_)
               <;> (first | refine kL 96 ?_ | (refine yL 96 (q_ld tNa78_LbF) fun v96 hv96 => ?_; cases hv96))
               <;> (first | refine kL 97 ?_ | refine xL 97 q_move ?_)
               <;> (first | refine kL 98 ?_ | refine xL 98 (q_idxN tSl78_LbF) ?_)
               <;> (first | refine kL 99 ?_ | (refine yL 99 (q_ld tNa4_LbF) fun v99 hv99 => ?_; cases hv99))
               <;> (first | refine kL 100 ?_ | refine xL 100 q_not ?_)
               <;> refine xL 101 q_pick ?_
               <;> refine aL_end (nav ?_) <;> try dsimp only) <;> (
              first | refine cCd (fun hb101 => ?_) (fun hb101 => ?_) | refine cC (fun hb101 => ?_) (fun hb101 => ?_)
              · first
                | exact Bool.noConfusion hb101
                | (
                 refine nav ?_
                 (refine aC_region ?_
                   <;> refine xL 6 q_assign ?_
                   <;> refine aL_end (nav ?_) <;> try dsimp only)
                 refine ret_shr (Tryz.results74) rfl ?_
                 rw [show loopsB n E S F a b = false by unfold loopsB begsB; rw [hb65, allB_stop hlt (by rw [hb89, show E b k = false by simpa using hb101]; rfl)]; simp])
              · first
                | exact Bool.noConfusion hb101
                | (
                 refine nav ?_
                 (refine aC_region ?_
                   <;> refine xL 102 q_add ?_
                   <;> refine xL 79 q_move ?_
                   <;> refine aL_end (nav ?_) <;> try dsimp only)
                 refine aN_again (
                   ⟨k + 1, by omega, fun j hj => by
                     by_cases e : j = k
                     · subst e
                       first | (rw [hb89]; simpa using hb101) | (rw [hb89]; rfl)
                     · exact hp j (by omega)⟩
                   ) (by dsimp only; omega) ⟨rfl, rfl, rfl, rfl, rfl, trivial⟩ trivial)))
          · first
            | exact Bool.noConfusion hb80
            | (
             refine nav ?_
             (refine aC_region ?_
               <;> refine xL 6 q_assign ?_
               <;> refine aL_end (nav ?_) <;> try dsimp only)
             refine ret_shr (Tryz.results74) rfl ?_
             first
               | rw [show loopsB n E S F a b = true by unfold loopsB begsB; rw [hends, hb65, show S a = true by simpa using hb73, allB_end fun j hj => hp j (by omega)]; rfl]
               | rw [show loopsB n E S F a b = true by unfold loopsB begsB; rw [hends, hb65]; rfl])))
    · first
      | exact Bool.noConfusion hb65
      | (
       refine nav ?_
       (refine aC_region ?_
         <;> refine xL 6 q_assign ?_
         <;> refine aL_end (nav ?_) <;> try dsimp only)
       refine ret_shr (Tryz.results74) rfl ?_
       first
         | rw [show loopsB n E S F a b = true by unfold loopsB begsB; rw [hends, hb65, show S a = true by simpa using hb73, allB_end fun j hj => hp j (by omega)]; rfl]
         | rw [show loopsB n E S F a b = true by unfold loopsB begsB; rw [hends, hb65]; rfl])
def RBegin (g : Dfg) (p : PV) : Prop := p = if dfgOk g then .tup [pRel g, pInt 0] else .tup [.val (.pointer none), pInt 1]
theorem cBegin_e (g : Dfg) (hf : fitD g) (ha : g.acts.length ≤ 1000000) (hs : g.starts.length ≤ 1000000) (he : g.ends.length ≤ 1000000) : AF Tryz.prog 43 [pDfg g] (RBegin g) := by
  refine AF.of_body 9 Tryz.func43 rfl Tryz.ntmps43 (Nat.le_of_ble_eq_true rfl) ?_
  intro w0 M0 vs hl hv
  obtain ⟨v0, rfl⟩ := len1 hl
  clear hl hv
  refine nav ?_
  (refine aC_region ?_
    <;> refine s_boxa 1 4 fun h1 => ?_
    <;> refine xL 2 q_assign ?_
    <;> refine xL 3 q_assign ?_
    <;> refine aL_end (nav ?_) <;> try dsimp only)
  (refine aC_region ?_
    <;> (refine yL 4 (q_ldao 1 tAgg25_LbF) fun v4 hv4 => ?_; cases hv4)
    <;> (refine cS 5 (cA Tryz.call101 (dValid_e g hf ha hs he)) fun v5 hv5 => ?_; cases hv5)
    <;> refine xL 6 q_not ?_
    <;> refine aL_end (nav ?_) <;> try dsimp only)
  first | refine cCd (fun hb6 => ?_) (fun hb6 => ?_) | refine cC (fun hb6 => ?_) (fun hb6 => ?_)
  · first
    | exact Bool.noConfusion hb6
    | (
     refine nav ?_
     (refine aC_region ?_
       <;> refine xL 2 q_assign ?_
       <;> refine xL 3 q_assign ?_
       <;> refine aL_end (nav ?_) <;> try dsimp only)
     refine ret_ss (Tryz.results43) rfl rfl ?_
     unfold RBegin; rw [show dfgOk g = false by simpa using hb6]; rfl)
  · first
    | exact Bool.noConfusion hb6
    | (
     refine nav ?_
     (refine aC_region ?_
       <;> (refine yL 7 (q_ldao 1 tAgg25_LbF) fun v7 hv7 => ?_; cases hv7)
       <;> (refine cS 8 (cA Tryz.call102 (cOf_e g (by simpa using hb6) hf.2.2.2.1 hf.2.1.1 hf.2.2.1.1)) fun v8 hv8 => ?_; cases hv8)
       <;> refine xL 2 q_assign ?_
       <;> refine xL 3 q_assign ?_
       <;> refine aL_end (nav ?_) <;> try dsimp only)
     refine ret_ss (Tryz.results43) rfl rfl ?_
     unfold RBegin; rw [show dfgOk g = true by simpa using hb6]; rfl)
end Go.Proofs.YtoanjgpdepaciaaGreat

namespace Go.Proofs.YtoanjgpdepaciaaGreat
open Go.RowKit Go.Cb Go.En
set_option linter.all false
set_option maxRecDepth 100000

end Go.Proofs.YtoanjgpdepaciaaGreat
