/-
  Walks: process trees: the normal form.
  Walks: the reader of trees: a tree is read, or the token is thrown that cannot stand.
  The engine: deferred calls that recover. No program in sight.
  Walks: reading a whole list of tokens: the panic is caught.
  Walks: a text is parsed.
  The engine, last part: arguments of whatever shape, as they came in, read as plain data; and the frame of a law's row. No program in sight.
  The engine: arguments whose types lead back to themselves, read as plain data, by the depth of the reading. No program in sight.
  Process trees: how the arguments of the laws read; the examples of the chapter (layer 19).
  Walks: process trees: the reference's normal forms.
  Walks: process trees: the reference's normal forms, second part.
  The law PtreeNormal: Normal returns the normal form of the reference, or its error, whatever the tree.
  Process trees: turned trees have the same normal form; a normal form is its own, and has the tree's activities. Plain Lean.
  The engine: a cell that holds the value of a slot that is read as shared is read so too. No program in sight.
  The engine: a row of strings is sorted by the library. No program in sight.
  Process trees: the activities as a sorted list; parts of valid trees; valid trees are not great. Plain Lean.
  Walks: process trees: the activities.
  Walks: process trees: the shape of a normal form; lists of strings compared.
  The law PtreeReduces: a normal form is one.
-/
import Derived.Recover
import Derived.WalkKit
import Derived.ProofKit
import Derived.OpenShut
import Derived.ShutString
import Derived.ChangeOld
import Derived.Below
import Derived.Carry
import Derived.Deep.Slices
import Derived.Sort.EncStr
import Derived.Test.YtbfilfhgcihhoaaGreatDoorPk04
import Derived.Test.YtbfilfhgcihhoaaGreatDoorPk01
import Derived.Test.YtbfilfhgcihhoaaGreatDoorPk03
import Derived.Test.YtbfilfhgcihhoaaGreatDoorPk02
import Derived.Test.YtbfilfhgcihhoaaGreatDoorMShelfU
namespace Go.Proofs.YtbfilfhgcihhoaaGreatDoor
open Go.RowKit Go.Cb Go.En
set_option linter.all false
set_option maxRecDepth 100000
theorem tAgg24_PtI : AggT Tryz.prog 24 3 = true := by kernel_rfl
theorem tEl22_PtI : ElT Tryz.prog 22 24 3 48 (.agg #[(.int .i64 0), (.string ByteArray.empty), (.slice none 0 0)]) := ⟨Tryz.underlying22, by kernel_rfl, rfl, by decide⟩
theorem tFl24_0_PtI : FldT Tryz.prog 24 0 0 = true := by kernel_rfl
theorem tFl24_1_PtI : FldT Tryz.prog 24 1 1 = true := by kernel_rfl
theorem tFl24_2_PtI : FldT Tryz.prog 24 2 2 = true := by kernel_rfl
theorem tNa22_PtI : NoAgg Tryz.prog 22 = true := by kernel_rfl
theorem tNa3_PtI : NoAgg Tryz.prog 3 = true := by kernel_rfl
theorem tNa9_PtI : NoAgg Tryz.prog 9 = true := by kernel_rfl
theorem tSl22_PtI : SlT Tryz.prog 22 24 3 = true := by kernel_rfl
theorem tSt24_PtI : stInfo Tryz.prog 24 = some ((.agg #[(.int .i64 0), (.string ByteArray.empty), (.slice none 0 0)]), ([0, 1, 2] : List Nat).map fun o => (o, 1)) := by kernel_rfl
theorem tZr24_PtI : ZeroT Tryz.prog 24 (.agg #[(.int .i64 0), (.string ByteArray.empty), (.slice none 0 0)]) := by unfold ZeroT; kernel_rfl
theorem two_trs (x y : Nd) : PV.sl 2 ([x, y].flatMap cN) = pTrs [x, y] := by
 unfold pTrs
 rw [cTrs_eq]; rfl
theorem rr_leaf (o : Int) (a : ByteArray) : Rr (.agg [pInt o, pStr a, .val (.slice none 0 0)]) (pTr (.mk o a [])) := Rr.agg rfl fun i x b ha hb => by
 match i with
 | 0 => cases ha; cases hb; exact Rr.rfl' _
 | 1 => cases ha; cases hb; exact Rr.rfl' _
 | 2 => cases ha; cases hb; exact Rr.nil
 | i + 3 => simp at ha
theorem norL_get {l : List Nd} {k : Nat} {x : Nd} (h : l[k]? = some x) : (norL l)[k]? = some (norT x) := by
 rw [norL_eq, List.getElem?_map, h]; rfl
theorem norL_len (l : List Nd) : (norL l).length = l.length := by rw [norL_eq, List.length_map]
theorem loop_two {t : Nd} (h : rightT t = true) (h6 : t.op = 6) : ∃ x y, t.l = [x, y] := by
 unfold rightT at h
 rw [h6] at h
 simp at h
 match t.l, h.1 with
 | [x, y], _ => exact ⟨x, y, rfl⟩
theorem szL_two {x y : Nd} : szL [x, y] = szT x + szT y := by simp only [szL]; omega
set_option maxHeartbeats 4000000 in
theorem tNormal_e : ∀ t : Nd, okT t = true → szT t ≤ 1000000 → AF Tryz.prog 42 [pTr t] (· = pTr (norT t)) := Nd.ind fun o a l ih hok hs => by
 have e0 : pTr (.mk o a l) = .agg [pInt o, pStr a, pTrs l] := rfl
 rw [e0]
 obtain ⟨hr, hp⟩ := okT_iff.1 hok
 have hf := fit_ok _ hok hs
 have hsz := szT_eq (.mk o a l)
 have hlz := len_szL l
 have hops := right_ops hr
 simp only [Nd.l, Nd.op] at hp hsz hops
 have hnl := norL_len l
 have hnz : szL (norL l) ≤ szL l := by
  have := sz_nor (.mk o a l)
  clear this e0 hr hf hsz hlz hnl
  clear ih hok hs
  induction l with
  | nil => exact Nat.le_refl _
  | cons x l ih2 =>
    have h3 := sz_nor x
    have h4 := ih2 (fun y hy => hp y (List.mem_cons_of_mem _ hy))
    rw [norL, szL, szL]; omega
 have hnf : ∀ y ∈ norL l, FitT y := fun y hy => by
  rw [norL_eq] at hy
  obtain ⟨x, hx, rfl⟩ := List.mem_map.1 hy
  have := szL_mem hx
  exact fit_nor (hp x hx) (by omega)
 refine AF.of_body 70 Tryz.func42 rfl Tryz.ntmps42 (Nat.le_of_ble_eq_true rfl) ?_
 intro w0 M0 vs hl hv
 obtain ⟨v0, rfl⟩ := len1 hl
 clear hl hv
 refine nav ?_
 (refine aC_region ?_ <;> refine s_boxa 1 3 fun h1 => ?_ <;> refine s_alloc [(.int .i64 0), (.string ByteArray.empty), (.slice none 0 0)] 3 2 tZr24_PtI fun h2 => ?_ <;> refine aL_end (nav ?_) <;> try dsimp only)
 (refine aC_region ?_ <;> refine xL 3 q_assign ?_ <;> refine aL_end (nav ?_) <;> try dsimp only)
 refine aC_ent (nilOwn 200 24 3 rfl) fun _ => ?_
 (refine aC_region ?_ <;> refine xL 8 (q_fldo 1 tFl24_2_PtI) ?_ <;> (refine yL 9 (q_ldo 1 tNa22_PtI) fun v9 hv9 => ?_; cases hv9) <;> refine xL 10 (q_len tSl22_PtI) ?_ <;> refine xL 11 q_move ?_ <;> refine aL_end (nav ?_) <;> try dsimp only)
 refine aC_loop (ι := { q : Nat × Value // q.1 ≤ l.length ∧ q.2.oneCell' = true }) (fun k => ⟨[(1, _, _), (2, _, _), (9, _, _), (10, _, _), (3, k.1.2, .val k.1.2), (11, .int .i64 k.1.1, pInt k.1.1)], [(1, _, _), (2, _, _), (200, k.1.2, .own 24 3 ((norL l).take k.1.1).length (cTrs ((norL l).take k.1.1)))]⟩) (fun k => l.length - k.1.1) ⟨(0, .slice none 0 0), Nat.zero_le _, rfl⟩ (fun a w H => H.weaken ⟨rfl, rfl, rfl, rfl, rfl, rfl, trivial⟩ ⟨rfl, rfl, rfl, trivial⟩) ?_
 rintro ⟨⟨k, hO⟩, hk, hOo⟩
 dsimp only
 dsimp only at hk hOo
 refine nav ?_
 (refine aC_region ?_ <;> refine xL 12 q_lss ?_ <;> refine aL_end (nav ?_) <;> try dsimp only)
 (first | refine cCd ?_ ?_ | refine cC ?_ ?_) <;> intro hb12
 · first
   | exact Bool.noConfusion hb12
   | (
    obtain ⟨x, hx⟩ := get_some (show k < l.length by omega)
    have e1 : ((cTrs l).drop (k * 3)).take 3 = [pInt x.op, pStr x.act, pTrs x.l] := tr_drop hx
    have e2 := tr_fit hx
    have hxm := List.mem_of_getElem? hx
    have hxs := szL_mem hxm
    have hsn := take_snoc (norL_get hx)
    have hsl : ((norL l).take (k + 1)).length = ((norL l).take k).length + 1 := by rw [hsn, List.length_append]; rfl
    have hsl2 : ((norL l).take k).length ≤ 1000000 := by rw [List.length_take]; omega
    refine nav ?_
    (refine aC_region ?_ <;> refine xL 13 (q_idxN tSl22_PtI) ?_ <;> (refine yL 14 (q_lda tAgg24_PtI) fun v14 hv14 => ?_; cases hv14) <;> refine s_alloc [(.int .i64 0), (.string ByteArray.empty), (.slice none 0 0)] 3 5 tZr24_PtI fun h5 => ?_ <;> refine s_sta 5 tAgg24_PtI ?_ <;> refine aL_end (nav ?_) <;> try dsimp only)
    (refine aC_region ?_ <;> refine xL 15 q_move ?_ <;> (refine yL 16 (q_ldao 5 tAgg24_PtI) fun v16 hv16 => ?_; cases hv16) <;> (refine cD 17 (cA Tryz.call42 (ih x hxm (hp x hxm) (by omega))) fun v17 hv17 => ?_; clear hv17) <;> refine s_lit1a 18 tEl22_PtI fun h18 ho18 => ?_ <;> (refine s_app 200 18 19 tEl22_PtI fun h19 ho19 => ?_; refine aL_ent (relabel (l := 19) 200 rfl rfl) fun _ => ?_; refine aL_ent (recast (l := 200) (p' := .own 24 3 ((norL l).take (k + 1)).length (cTrs ((norL l).take (k + 1)))) rfl (Eq.trans (congrArg (PV.own 24 3 _) (show _ = cTrs ((norL l).take k) ++ cN (norT x) from rfl)) (by rw [cTrs_snoc, ← hsn, hsl]))) fun _ => ?_) <;> refine xL 3 q_assign ?_ <;> refine aL_end (nav ?_) <;> try dsimp only)
    (refine aC_region ?_ <;> refine xL 20 q_add ?_ <;> refine xL 11 q_move ?_ <;> refine aL_end (nav ?_) <;> try dsimp only)
    refine aN_again (
     ⟨(k + 1, h19), lt_of_get hx, ho19⟩
     ) (by dsimp only; omega) ⟨rfl, rfl, rfl, rfl, rfl, rfl, trivial⟩ ⟨rfl, rfl, rfl, trivial⟩)
 · first
   | exact Bool.noConfusion hb12
   | (
    rw [List.take_of_length_le (show (norL l).length ≤ k by omega)]
    refine nav ?_
    (refine aC_region ?_ <;> refine xL 21 (q_fldo 1 tFl24_0_PtI) ?_ <;> (refine yL 22 (q_ldo 1 tNa3_PtI) fun v22 hv22 => ?_; cases hv22) <;> refine aL_end (nav ?_) <;> try dsimp only)
    (refine aC_region ?_ <;> refine xL 24 q_eql ?_ <;> refine xL 23 q_assign ?_ <;> refine aL_end (nav ?_) <;> try dsimp only)
    (first | refine cCd ?_ ?_ | refine cC ?_ ?_) <;> intro hb23
    · first
      | exact Bool.noConfusion hb23
      | (
       refine nav ?_
       (first | refine cCd ?_ ?_ | refine cC ?_ ?_) <;> intro hb23
       · first
         | exact Bool.noConfusion hb23
         | (
          refine nav ?_
          (refine aC_region ?_ <;> refine xL 26 (q_fldo 1 tFl24_0_PtI) ?_ <;> (refine yL 27 (q_ldo 1 tNa3_PtI) fun v27 hv27 => ?_; cases hv27) <;> refine xL 28 (q_fldo 1 tFl24_1_PtI) ?_ <;> (refine yL 29 (q_ldo 1 tNa9_PtI) fun v29 hv29 => ?_; cases hv29) <;> refine xL 30 (q_build tSt24_PtI) ?_ <;> (refine aL_ent (rslot (t := 30) (p' := pTr (.mk o a [])) rfl (rr_leaf o a)) fun _ => ?_; refine s_sta 2 tAgg24_PtI ?_) <;> refine aL_end (nav ?_) <;> try dsimp only)
          refine ret_cell (k := 3) 2 (by kernel_rfl) (Tryz.results42) rfl rfl (Nat.le_of_ble_eq_true rfl) (by decide) rfl ?_
          rw [norT, nodT, if_pos (by omega)]; rfl)
       · first
         | exact Bool.noConfusion hb23
         | (
          refine nav ?_
          (refine aC_region ?_ <;> refine xL 32 q_eql ?_ <;> refine xL 31 q_assign ?_ <;> refine aL_end (nav ?_) <;> try dsimp only)
          (first | refine cCd ?_ ?_ | refine cC ?_ ?_) <;> intro hb31
          · first
            | exact Bool.noConfusion hb31
            | (
             obtain ⟨f0, s0, hl2⟩ := loop_two hr (show o = 6 from by omega)
             obtain rfl : l = [f0, s0] := hl2
             have ho6 : o = 6 := by omega
             have hres : norT (.mk o a [f0, s0]) = lopE (lop2 (norT f0) (norT s0)) := by rw [norT, nodT, if_neg (by omega), if_pos ho6]; rfl
             have hF1 := nor_ok (hp f0 (by simp))
             have hS1 := nor_ok (hp s0 (by simp))
             have hFz := sz_nor f0
             have hSz := sz_nor s0
             have hfF := hnf (norT f0) (by simp [norL])
             have hfS := hnf (norT s0) (by simp [norL])
             rw [szL_two] at hsz
             have e3 : ((cTrs (norL [f0, s0])).drop (0 * 3)).take 3 = [pInt (norT f0).op, pStr (norT f0).act, pTrs (norT f0).l] := tr_drop (k := 0) rfl
             have e4 : 0 * 3 + 3 ≤ (cTrs (norL [f0, s0])).length := tr_fit (k := 0) (x := norT f0) rfl
             have e5 : ((cTrs (norL [f0, s0])).drop (1 * 3)).take 3 = [pInt (norT s0).op, pStr (norT s0).act, pTrs (norT s0).l] := tr_drop (k := 1) rfl
             have e6 : 1 * 3 + 3 ≤ (cTrs (norL [f0, s0])).length := tr_fit (k := 1) (x := norT s0) rfl
             refine nav ?_
             refine aC_mid (fun q : Value × Value × Value => ⟨[(2, padd (sbase q.1) 0, .val (padd (sbase q.1) 0)), (6, padd (sbase q.2.1) 0, .val (padd (sbase q.2.1) 0)), (7, padd (sbase q.2.2) 0, .val (padd (sbase q.2.2) 0))], [(2, q.1, .own 24 3 1 [.val (.int .i64 0), .val (.string ByteArray.empty), .val (.slice none 0 0)]), (6, q.2.1, .own 24 3 1 [pInt (norT f0).op, pStr (norT f0).act, pTrs (norT f0).l]), (7, q.2.2, .own 24 3 1 [pInt (norT s0).op, pStr (norT s0).act, pTrs (norT s0).l])]⟩) ?_ ?_
             · (refine aC_draw (fun i => ([] : List Nat).elem i) [200] (by kernel_rfl) ?_ <;> refine xD 0 33 rfl q_move ?_ <;> refine xD 1 34 rfl (q_idxoN 200 tSl22_PtI) ?_ <;> (refine yD 2 35 rfl (q_ldao 200 tAgg24_PtI) fun v35 hv35 => ?_; cases hv35) <;> refine xD 3 36 rfl q_move ?_ <;> refine xD 4 37 rfl (q_idxoN 200 tSl22_PtI) ?_ <;> (refine yD 5 38 rfl (q_ldao 200 tAgg24_PtI) fun v38 hv38 => ?_; cases hv38) <;> (refine aD_two 6 7 (by kernel_rfl) ?_ ?_; rotate_right; (focus ((refine aW_run rfl fun w9 M9 N9 DQ back => ?_) <;> refine s_alloc [(.int .i64 0), (.string ByteArray.empty), (.slice none 0 0)] 3 7 tZr24_PtI fun h7 => ?_ <;> refine aL_end (back _ (nrm ?_)) <;> (refine aD_one 6 (by kernel_rfl) ?_) <;> (refine aW_run rfl fun w9 M9 N9 DQ back => ?_) <;> refine s_alloc [(.int .i64 0), (.string ByteArray.empty), (.slice none 0 0)] 3 6 tZr24_PtI fun h6 => ?_ <;> refine aL_end (back _ (nrm ?_)) <;> (refine aD_one 8 (by kernel_rfl) ?_) <;> (refine aW_run rfl fun w9 M9 N9 DQ back => ?_) <;> refine s_sta 6 tAgg24_PtI ?_ <;> refine aL_end (back _ (nrm ?_)) <;> (refine aD_one 9 (by kernel_rfl) ?_) <;> (refine aW_run rfl fun w9 M9 N9 DQ back => ?_) <;> refine s_sta 7 tAgg24_PtI ?_ <;> refine aL_end (back _ (nrm ?_)))); rotate_right; (focus ((refine aW_run rfl fun w9 M9 N9 DQ back => ?_) <;> refine s_alloc [(.int .i64 0), (.string ByteArray.empty), (.slice none 0 0)] 3 6 tZr24_PtI fun h6 => ?_ <;> refine aL_end (back _ (nrm ?_)) <;> (refine aD_one 7 (by kernel_rfl) ?_) <;> (refine aW_run rfl fun w9 M9 N9 DQ back => ?_) <;> refine s_alloc [(.int .i64 0), (.string ByteArray.empty), (.slice none 0 0)] 3 7 tZr24_PtI fun h7 => ?_ <;> refine aL_end (back _ (nrm ?_)) <;> (refine aD_one 8 (by kernel_rfl) ?_) <;> (refine aW_run rfl fun w9 M9 N9 DQ back => ?_) <;> refine s_sta 6 tAgg24_PtI ?_ <;> refine aL_end (back _ (nrm ?_)) <;> (refine aD_one 9 (by kernel_rfl) ?_) <;> (refine aW_run rfl fun w9 M9 N9 DQ back => ?_) <;> refine s_sta 7 tAgg24_PtI ?_ <;> refine aL_end (back _ (nrm ?_))))) <;> refine aD_end (by kernel_rfl) (nav ?_) <;> try dsimp only) <;> (
                exact aN_join (_, _, _) ⟨rfl, rfl, rfl, trivial⟩ ⟨rfl, rfl, rfl, trivial⟩)
             · rintro ⟨h2, h6, h7⟩
               dsimp only
               clear e3 e4 e5 e6
               generalize norT f0 = F at hres hF1 hFz hfF ⊢
               generalize norT s0 = S at hres hS1 hSz hfS ⊢
               refine nav ?_
               (refine aC_region ?_ <;> refine xL 39 (q_fldo 6 tFl24_0_PtI) ?_ <;> (refine yL 40 (q_ldo 6 tNa3_PtI) fun v40 hv40 => ?_; cases hv40) <;> refine xL 41 q_eql ?_ <;> refine aL_end (nav ?_) <;> try dsimp only)
               refine aC_mid (fun _ : Unit => ⟨[(2, padd (sbase h2) 0, .val (padd (sbase h2) 0)), (6, padd (sbase h6) 0, .val (padd (sbase h6) 0)), (7, padd (sbase h7) 0, .val (padd (sbase h7) 0))], [(2, h2, .own 24 3 1 [.val (.int .i64 0), .val (.string ByteArray.empty), .val (.slice none 0 0)]), (6, h6, .own 24 3 1 (cN (lop2 F S).1)), (7, h7, .own 24 3 1 (cN (lop2 F S).2))]⟩) ?_ ?_
               · (first | refine cCd ?_ ?_ | refine cC ?_ ?_) <;> intro hb41
                 · first
                   | exact Bool.noConfusion hb41
                   | (
                    obtain ⟨A, B, hAB⟩ := loop_two (okT_iff.1 hF1).1 hb41
                    have hlop : lop2 F S = (A, joinT 4 [B, S]) := by unfold lop2; rw [if_pos hb41, hAB]
                    have hfA := hfF.p A (by rw [hAB]; simp)
                    have hfB := hfF.p B (by rw [hAB]; simp)
                    have hFe := szT_eq F
                    rw [hAB, szL_two] at hFe
                    rw [hAB]
                    have e3 : ((cTrs [A, B]).drop (0 * 3)).take 3 = [pInt A.op, pStr A.act, pTrs A.l] := tr_drop (k := 0) rfl
                    have e4 : 0 * 3 + 3 ≤ (cTrs [A, B]).length := tr_fit (k := 0) (x := A) rfl
                    have e5 : ((cTrs [A, B]).drop (1 * 3)).take 3 = [pInt B.op, pStr B.act, pTrs B.l] := tr_drop (k := 1) rfl
                    have e6 : 1 * 3 + 3 ≤ (cTrs [A, B]).length := tr_fit (k := 1) (x := B) rfl
                    have hj := tJoin_e 4 [B, S] (by decide) (by decide) (fun x hx => by simp only [List.mem_cons, List.not_mem_nil, or_false] at hx; rcases hx with h | h <;> rw [h] <;> assumption) (by rw [szL_two]; omega)
                    refine nav ?_
                    (refine aC_draw (fun i => ([11, 12] : List Nat).elem i) [6, 7] (by kernel_rfl) ?_ <;> refine xDT 0 42 rfl (q_fldo 6 tFl24_2_PtI) ?_ <;> (refine yDT 1 43 rfl (q_ldo 6 tNa22_PtI) fun v43 hv43 => ?_; cases hv43) <;> refine xDT 2 44 rfl (q_idxN tSl22_PtI) ?_ <;> (refine yDT 3 45 rfl (q_lda tAgg24_PtI) fun v45 hv45 => ?_; cases hv45) <;> refine xDT 4 46 rfl (q_fldo 6 tFl24_2_PtI) ?_ <;> (refine yDT 5 47 rfl (q_ldo 6 tNa22_PtI) fun v47 hv47 => ?_; cases hv47) <;> refine xDT 6 48 rfl (q_idxN tSl22_PtI) ?_ <;> (refine yDT 7 49 rfl (q_lda tAgg24_PtI) fun v49 hv49 => ?_; cases hv49) <;> (refine yE 8 50 rfl (q_ldao 7 tAgg24_PtI) fun v50 hv50 => ?_; cases hv50) <;> (refine aD_one 9 (by kernel_rfl) ?_) <;> (refine aW_run rfl fun w9 M9 N9 DQ back => ?_) <;> (refine s_lita (kk := 3) (xs := [_, _]) (cs := [[_, _, _], [_, _, _]]) 51 tEl22_PtI fun h51 ho51 => ?_; refine aL_ent (En.freeze (l := 51) (t := 51) rfl rfl) fun _ => ?_; refine aL_ent (reslot (t := 51) (p' := pTrs [B, S]) rfl (Eq.trans (show _ = PV.sl 2 ([B, S].flatMap cN) from rfl) (two_trs B S))) fun _ => ?_) <;> refine aL_end (back _ (nrm ?_)) <;> (refine aD_one 10 (by kernel_rfl) ?_) <;> (refine aW_call (d := 52) rfl (cA (Tryz.call66) hj) fun v52 hv52 => ?_; cases hv52) <;> (refine aD_one 11 (by kernel_rfl) ?_) <;> (refine aW_thenZ rfl rfl fun DQ back => ?_) <;> refine s_sta 6 tAgg24_PtI ?_ <;> refine aL_end (back _ ?_) <;> (refine aDZ_one 12 (by kernel_rfl) rfl rfl fun DQ back => ?_) <;> refine s_sta 7 tAgg24_PtI ?_ <;> refine aL_end (back _ ?_) <;> refine aDZ_end (by kernel_rfl) (nav ?_) <;> try dsimp only)
                    refine aN_ent (recast (l := 6) (p' := .own 24 3 1 (cN (lop2 F S).1)) rfl (by rw [hlop]; rfl)) fun _ => ?_
                    refine aN_ent (recast (l := 7) (p' := .own 24 3 1 (cN (lop2 F S).2)) rfl (by rw [hlop]; rfl)) fun _ => ?_
                    exact aN_join () ⟨rfl, rfl, rfl, trivial⟩ ⟨rfl, rfl, rfl, trivial⟩)
                 · first
                   | exact Bool.noConfusion hb41
                   | (
                    have hlop : lop2 F S = (F, S) := by unfold lop2; rw [if_neg hb41]
                    refine aC_ent (recast (l := 6) (p' := .own 24 3 1 (cN (lop2 F S).1)) rfl (by rw [hlop]; rfl)) fun _ => ?_
                    refine aC_ent (recast (l := 7) (p' := .own 24 3 1 (cN (lop2 F S).2)) rfl (by rw [hlop]; rfl)) fun _ => ?_
                    refine nav ?_
                    exact aN_join () ⟨rfl, rfl, rfl, trivial⟩ ⟨rfl, rfl, rfl, trivial⟩)
               · rintro _
                 unfold lopE at hres
                 generalize (lop2 F S).1 = X at hres ⊢
                 generalize (lop2 F S).2 = Y at hres ⊢
                 have ec : ∀ t : Nd, cN t = [pInt t.op, pStr t.act, pTrs t.l] := fun _ => rfl
                 rw [ec, ec]
                 refine nav ?_
                 (refine aC_region ?_ <;> refine xL 53 (q_fldo 6 tFl24_0_PtI) ?_ <;> (refine yL 54 (q_ldo 6 tNa3_PtI) fun v54 hv54 => ?_; cases hv54) <;> refine xL 55 q_eql ?_ <;> refine xL 56 q_move ?_ <;> (refine bLd 56 (fun hb56 => ?_) (fun hb56 => ?_) <;> (first | refine kL 57 ?_ | refine xL 57 (q_fldo 7 tFl24_0_PtI) ?_)) <;> (first | refine kL 58 ?_ | (refine yL 58 (q_ldo 7 tNa3_PtI) fun v58 hv58 => ?_; cases hv58)) <;> (first | refine kL 59 ?_ | refine xL 59 q_eql ?_) <;> refine xL 60 q_pick ?_ <;> refine aL_end (nav ?_) <;> try dsimp only) <;> (
                  (first | refine cCd ?_ ?_ | refine cC ?_ ?_) <;> intro hb60
                  · first
                    | exact Bool.noConfusion hb60
                    | (
                     rw [if_pos (by omega)] at hres
                     refine nav ?_
                     (refine aC_region ?_ <;> refine xL 61 (q_build tSt24_PtI) ?_ <;> (refine aL_ent (rslot (t := 61) (p' := pTr silT) rfl rr_sil) fun _ => ?_; refine s_sta 2 tAgg24_PtI ?_) <;> refine aL_end (nav ?_) <;> try dsimp only)
                     refine ret_cell (k := 3) 2 (by kernel_rfl) (Tryz.results42) rfl rfl (Nat.le_of_ble_eq_true rfl) (by decide) rfl ?_
                     rw [hres]; rfl)
                  · first
                    | exact Bool.noConfusion hb60
                    | (
                     rw [if_neg (by omega)] at hres
                     refine nav ?_
                     (refine aC_region ?_ <;> (refine yL 62 (q_ldao 6 tAgg24_PtI) fun v62 hv62 => ?_; cases hv62) <;> (refine yL 63 (q_ldao 7 tAgg24_PtI) fun v63 hv63 => ?_; cases hv63) <;> (refine s_lita (kk := 3) (xs := [_, _]) (cs := [[_, _, _], [_, _, _]]) 64 tEl22_PtI fun h64 ho64 => ?_; refine aL_ent (En.freeze (l := 64) (t := 64) rfl rfl) fun _ => ?_; refine aL_ent (reslot (t := 64) (p' := pTrs [X, Y]) rfl (Eq.trans (show _ = PV.sl 2 ([X, Y].flatMap cN) from rfl) (two_trs X Y))) fun _ => ?_) <;> refine xL 65 (q_build tSt24_PtI) ?_ <;> refine s_sta 2 tAgg24_PtI ?_ <;> refine aL_end (nav ?_) <;> try dsimp only)
                     refine ret_cell (k := 3) 2 (by kernel_rfl) (Tryz.results42) rfl rfl (Nat.le_of_ble_eq_true rfl) (by decide) rfl ?_
                     rw [hres]; rfl)))
          · first
            | exact Bool.noConfusion hb31
            | (
             refine nav ?_
             refine aC_ent (En.freeze (l := 200) (t := 3) rfl rfl) fun _ => ?_
             rw [share_trs _ _ _ rfl]
             (refine aC_region ?_ <;> refine xL 66 (q_fldo 1 tFl24_0_PtI) ?_ <;> (refine yL 67 (q_ldo 1 tNa3_PtI) fun v67 hv67 => ?_; cases hv67) <;> refine xL 68 q_move ?_ <;> (refine cD 69 (cA Tryz.call66 (tJoin_e o (norL l) (by omega) (by omega) hnf (by omega))) fun v69 hv69 => ?_; clear hv69) <;> refine s_sta 2 tAgg24_PtI ?_ <;> refine aL_end (nav ?_) <;> try dsimp only)
             refine ret_cell (k := 3) 2 (by kernel_rfl) (Tryz.results42) rfl rfl (Nat.le_of_ble_eq_true rfl) (by decide) rfl ?_
             rw [norT, nodT, if_neg (by omega), if_neg (by omega)]; rfl)))
    · first
      | exact Bool.noConfusion hb23
      | (
       refine nav ?_
       (refine aC_region ?_ <;> refine xL 25 q_eql ?_ <;> refine xL 23 q_assign ?_ <;> refine aL_end (nav ?_) <;> try dsimp only)
       (first | refine cCd ?_ ?_ | refine cC ?_ ?_) <;> intro hb23
       · first
         | exact Bool.noConfusion hb23
         | (
          refine nav ?_
          (refine aC_region ?_ <;> refine xL 26 (q_fldo 1 tFl24_0_PtI) ?_ <;> (refine yL 27 (q_ldo 1 tNa3_PtI) fun v27 hv27 => ?_; cases hv27) <;> refine xL 28 (q_fldo 1 tFl24_1_PtI) ?_ <;> (refine yL 29 (q_ldo 1 tNa9_PtI) fun v29 hv29 => ?_; cases hv29) <;> refine xL 30 (q_build tSt24_PtI) ?_ <;> (refine aL_ent (rslot (t := 30) (p' := pTr (.mk o a [])) rfl (rr_leaf o a)) fun _ => ?_; refine s_sta 2 tAgg24_PtI ?_) <;> refine aL_end (nav ?_) <;> try dsimp only)
          refine ret_cell (k := 3) 2 (by kernel_rfl) (Tryz.results42) rfl rfl (Nat.le_of_ble_eq_true rfl) (by decide) rfl ?_
          rw [norT, nodT, if_pos (by omega)]; rfl)
       · first
         | exact Bool.noConfusion hb23
         | (
          refine nav ?_
          (refine aC_region ?_ <;> refine xL 32 q_eql ?_ <;> refine xL 31 q_assign ?_ <;> refine aL_end (nav ?_) <;> try dsimp only)
          (first | refine cCd ?_ ?_ | refine cC ?_ ?_) <;> intro hb31
          · first
            | exact Bool.noConfusion hb31
            | (
             obtain ⟨f0, s0, hl2⟩ := loop_two hr (show o = 6 from by omega)
             obtain rfl : l = [f0, s0] := hl2
             have ho6 : o = 6 := by omega
             have hres : norT (.mk o a [f0, s0]) = lopE (lop2 (norT f0) (norT s0)) := by rw [norT, nodT, if_neg (by omega), if_pos ho6]; rfl
             have hF1 := nor_ok (hp f0 (by simp))
             have hS1 := nor_ok (hp s0 (by simp))
             have hFz := sz_nor f0
             have hSz := sz_nor s0
             have hfF := hnf (norT f0) (by simp [norL])
             have hfS := hnf (norT s0) (by simp [norL])
             rw [szL_two] at hsz
             have e3 : ((cTrs (norL [f0, s0])).drop (0 * 3)).take 3 = [pInt (norT f0).op, pStr (norT f0).act, pTrs (norT f0).l] := tr_drop (k := 0) rfl
             have e4 : 0 * 3 + 3 ≤ (cTrs (norL [f0, s0])).length := tr_fit (k := 0) (x := norT f0) rfl
             have e5 : ((cTrs (norL [f0, s0])).drop (1 * 3)).take 3 = [pInt (norT s0).op, pStr (norT s0).act, pTrs (norT s0).l] := tr_drop (k := 1) rfl
             have e6 : 1 * 3 + 3 ≤ (cTrs (norL [f0, s0])).length := tr_fit (k := 1) (x := norT s0) rfl
             refine nav ?_
             refine aC_mid (fun q : Value × Value × Value => ⟨[(2, padd (sbase q.1) 0, .val (padd (sbase q.1) 0)), (6, padd (sbase q.2.1) 0, .val (padd (sbase q.2.1) 0)), (7, padd (sbase q.2.2) 0, .val (padd (sbase q.2.2) 0))], [(2, q.1, .own 24 3 1 [.val (.int .i64 0), .val (.string ByteArray.empty), .val (.slice none 0 0)]), (6, q.2.1, .own 24 3 1 [pInt (norT f0).op, pStr (norT f0).act, pTrs (norT f0).l]), (7, q.2.2, .own 24 3 1 [pInt (norT s0).op, pStr (norT s0).act, pTrs (norT s0).l])]⟩) ?_ ?_
             · (refine aC_draw (fun i => ([] : List Nat).elem i) [200] (by kernel_rfl) ?_ <;> refine xD 0 33 rfl q_move ?_ <;> refine xD 1 34 rfl (q_idxoN 200 tSl22_PtI) ?_ <;> (refine yD 2 35 rfl (q_ldao 200 tAgg24_PtI) fun v35 hv35 => ?_; cases hv35) <;> refine xD 3 36 rfl q_move ?_ <;> refine xD 4 37 rfl (q_idxoN 200 tSl22_PtI) ?_ <;> (refine yD 5 38 rfl (q_ldao 200 tAgg24_PtI) fun v38 hv38 => ?_; cases hv38) <;> (refine aD_two 6 7 (by kernel_rfl) ?_ ?_; rotate_right; (focus ((refine aW_run rfl fun w9 M9 N9 DQ back => ?_) <;> refine s_alloc [(.int .i64 0), (.string ByteArray.empty), (.slice none 0 0)] 3 7 tZr24_PtI fun h7 => ?_ <;> refine aL_end (back _ (nrm ?_)) <;> (refine aD_one 6 (by kernel_rfl) ?_) <;> (refine aW_run rfl fun w9 M9 N9 DQ back => ?_) <;> refine s_alloc [(.int .i64 0), (.string ByteArray.empty), (.slice none 0 0)] 3 6 tZr24_PtI fun h6 => ?_ <;> refine aL_end (back _ (nrm ?_)) <;> (refine aD_one 8 (by kernel_rfl) ?_) <;> (refine aW_run rfl fun w9 M9 N9 DQ back => ?_) <;> refine s_sta 6 tAgg24_PtI ?_ <;> refine aL_end (back _ (nrm ?_)) <;> (refine aD_one 9 (by kernel_rfl) ?_) <;> (refine aW_run rfl fun w9 M9 N9 DQ back => ?_) <;> refine s_sta 7 tAgg24_PtI ?_ <;> refine aL_end (back _ (nrm ?_)))); rotate_right; (focus ((refine aW_run rfl fun w9 M9 N9 DQ back => ?_) <;> refine s_alloc [(.int .i64 0), (.string ByteArray.empty), (.slice none 0 0)] 3 6 tZr24_PtI fun h6 => ?_ <;> refine aL_end (back _ (nrm ?_)) <;> (refine aD_one 7 (by kernel_rfl) ?_) <;> (refine aW_run rfl fun w9 M9 N9 DQ back => ?_) <;> refine s_alloc [(.int .i64 0), (.string ByteArray.empty), (.slice none 0 0)] 3 7 tZr24_PtI fun h7 => ?_ <;> refine aL_end (back _ (nrm ?_)) <;> (refine aD_one 8 (by kernel_rfl) ?_) <;> (refine aW_run rfl fun w9 M9 N9 DQ back => ?_) <;> refine s_sta 6 tAgg24_PtI ?_ <;> refine aL_end (back _ (nrm ?_)) <;> (refine aD_one 9 (by kernel_rfl) ?_) <;> (refine aW_run rfl fun w9 M9 N9 DQ back => ?_) <;> refine s_sta 7 tAgg24_PtI ?_ <;> refine aL_end (back _ (nrm ?_))))) <;> refine aD_end (by kernel_rfl) (nav ?_) <;> try dsimp only) <;> (
                exact aN_join (_, _, _) ⟨rfl, rfl, rfl, trivial⟩ ⟨rfl, rfl, rfl, trivial⟩)
             · rintro ⟨h2, h6, h7⟩
               dsimp only
               clear e3 e4 e5 e6
               generalize norT f0 = F at hres hF1 hFz hfF ⊢
               generalize norT s0 = S at hres hS1 hSz hfS ⊢
               refine nav ?_
               (refine aC_region ?_ <;> refine xL 39 (q_fldo 6 tFl24_0_PtI) ?_ <;> (refine yL 40 (q_ldo 6 tNa3_PtI) fun v40 hv40 => ?_; cases hv40) <;> refine xL 41 q_eql ?_ <;> refine aL_end (nav ?_) <;> try dsimp only)
               refine aC_mid (fun _ : Unit => ⟨[(2, padd (sbase h2) 0, .val (padd (sbase h2) 0)), (6, padd (sbase h6) 0, .val (padd (sbase h6) 0)), (7, padd (sbase h7) 0, .val (padd (sbase h7) 0))], [(2, h2, .own 24 3 1 [.val (.int .i64 0), .val (.string ByteArray.empty), .val (.slice none 0 0)]), (6, h6, .own 24 3 1 (cN (lop2 F S).1)), (7, h7, .own 24 3 1 (cN (lop2 F S).2))]⟩) ?_ ?_
               · (first | refine cCd ?_ ?_ | refine cC ?_ ?_) <;> intro hb41
                 · first
                   | exact Bool.noConfusion hb41
                   | (
                    obtain ⟨A, B, hAB⟩ := loop_two (okT_iff.1 hF1).1 hb41
                    have hlop : lop2 F S = (A, joinT 4 [B, S]) := by unfold lop2; rw [if_pos hb41, hAB]
                    have hfA := hfF.p A (by rw [hAB]; simp)
                    have hfB := hfF.p B (by rw [hAB]; simp)
                    have hFe := szT_eq F
                    rw [hAB, szL_two] at hFe
                    rw [hAB]
                    have e3 : ((cTrs [A, B]).drop (0 * 3)).take 3 = [pInt A.op, pStr A.act, pTrs A.l] := tr_drop (k := 0) rfl
                    have e4 : 0 * 3 + 3 ≤ (cTrs [A, B]).length := tr_fit (k := 0) (x := A) rfl
                    have e5 : ((cTrs [A, B]).drop (1 * 3)).take 3 = [pInt B.op, pStr B.act, pTrs B.l] := tr_drop (k := 1) rfl
                    have e6 : 1 * 3 + 3 ≤ (cTrs [A, B]).length := tr_fit (k := 1) (x := B) rfl
                    have hj := tJoin_e 4 [B, S] (by decide) (by decide) (fun x hx => by simp only [List.mem_cons, List.not_mem_nil, or_false] at hx; rcases hx with h | h <;> rw [h] <;> assumption) (by rw [szL_two]; omega)
                    refine nav ?_
                    (refine aC_draw (fun i => ([11, 12] : List Nat).elem i) [6, 7] (by kernel_rfl) ?_ <;> refine xDT 0 42 rfl (q_fldo 6 tFl24_2_PtI) ?_ <;> (refine yDT 1 43 rfl (q_ldo 6 tNa22_PtI) fun v43 hv43 => ?_; cases hv43) <;> refine xDT 2 44 rfl (q_idxN tSl22_PtI) ?_ <;> (refine yDT 3 45 rfl (q_lda tAgg24_PtI) fun v45 hv45 => ?_; cases hv45) <;> refine xDT 4 46 rfl (q_fldo 6 tFl24_2_PtI) ?_ <;> (refine yDT 5 47 rfl (q_ldo 6 tNa22_PtI) fun v47 hv47 => ?_; cases hv47) <;> refine xDT 6 48 rfl (q_idxN tSl22_PtI) ?_ <;> (refine yDT 7 49 rfl (q_lda tAgg24_PtI) fun v49 hv49 => ?_; cases hv49) <;> (refine yE 8 50 rfl (q_ldao 7 tAgg24_PtI) fun v50 hv50 => ?_; cases hv50) <;> (refine aD_one 9 (by kernel_rfl) ?_) <;> (refine aW_run rfl fun w9 M9 N9 DQ back => ?_) <;> (refine s_lita (kk := 3) (xs := [_, _]) (cs := [[_, _, _], [_, _, _]]) 51 tEl22_PtI fun h51 ho51 => ?_; refine aL_ent (En.freeze (l := 51) (t := 51) rfl rfl) fun _ => ?_; refine aL_ent (reslot (t := 51) (p' := pTrs [B, S]) rfl (Eq.trans (show _ = PV.sl 2 ([B, S].flatMap cN) from rfl) (two_trs B S))) fun _ => ?_) <;> refine aL_end (back _ (nrm ?_)) <;> (refine aD_one 10 (by kernel_rfl) ?_) <;> (refine aW_call (d := 52) rfl (cA (Tryz.call66) hj) fun v52 hv52 => ?_; cases hv52) <;> (refine aD_one 11 (by kernel_rfl) ?_) <;> (refine aW_thenZ rfl rfl fun DQ back => ?_) <;> refine s_sta 6 tAgg24_PtI ?_ <;> refine aL_end (back _ ?_) <;> (refine aDZ_one 12 (by kernel_rfl) rfl rfl fun DQ back => ?_) <;> refine s_sta 7 tAgg24_PtI ?_ <;> refine aL_end (back _ ?_) <;> refine aDZ_end (by kernel_rfl) (nav ?_) <;> try dsimp only)
                    refine aN_ent (recast (l := 6) (p' := .own 24 3 1 (cN (lop2 F S).1)) rfl (by rw [hlop]; rfl)) fun _ => ?_
                    refine aN_ent (recast (l := 7) (p' := .own 24 3 1 (cN (lop2 F S).2)) rfl (by rw [hlop]; rfl)) fun _ => ?_
                    exact aN_join () ⟨rfl, rfl, rfl, trivial⟩ ⟨rfl, rfl, rfl, trivial⟩)
                 · first
                   | exact Bool.noConfusion hb41
                   | (
                    have hlop : lop2 F S = (F, S) := by unfold lop2; rw [if_neg hb41]
                    refine aC_ent (recast (l := 6) (p' := .own 24 3 1 (cN (lop2 F S).1)) rfl (by rw [hlop]; rfl)) fun _ => ?_
                    refine aC_ent (recast (l := 7) (p' := .own 24 3 1 (cN (lop2 F S).2)) rfl (by rw [hlop]; rfl)) fun _ => ?_
                    refine nav ?_
                    exact aN_join () ⟨rfl, rfl, rfl, trivial⟩ ⟨rfl, rfl, rfl, trivial⟩)
               · rintro _
                 unfold lopE at hres
                 generalize (lop2 F S).1 = X at hres ⊢
                 generalize (lop2 F S).2 = Y at hres ⊢
                 have ec : ∀ t : Nd, cN t = [pInt t.op, pStr t.act, pTrs t.l] := fun _ => rfl
                 rw [ec, ec]
                 refine nav ?_
                 (refine aC_region ?_ <;> refine xL 53 (q_fldo 6 tFl24_0_PtI) ?_ <;> (refine yL 54 (q_ldo 6 tNa3_PtI) fun v54 hv54 => ?_; cases hv54) <;> refine xL 55 q_eql ?_ <;> refine xL 56 q_move ?_ <;> (refine bLd 56 (fun hb56 => ?_) (fun hb56 => ?_) <;> (first | refine kL 57 ?_ | refine xL 57 (q_fldo 7 tFl24_0_PtI) ?_)) <;> (first | refine kL 58 ?_ | (refine yL 58 (q_ldo 7 tNa3_PtI) fun v58 hv58 => ?_; cases hv58)) <;> (first | refine kL 59 ?_ | refine xL 59 q_eql ?_) <;> refine xL 60 q_pick ?_ <;> refine aL_end (nav ?_) <;> try dsimp only) <;> (
                  (first | refine cCd ?_ ?_ | refine cC ?_ ?_) <;> intro hb60
                  · first
                    | exact Bool.noConfusion hb60
                    | (
                     rw [if_pos (by omega)] at hres
                     refine nav ?_
                     (refine aC_region ?_ <;> refine xL 61 (q_build tSt24_PtI) ?_ <;> (refine aL_ent (rslot (t := 61) (p' := pTr silT) rfl rr_sil) fun _ => ?_; refine s_sta 2 tAgg24_PtI ?_) <;> refine aL_end (nav ?_) <;> try dsimp only)
                     refine ret_cell (k := 3) 2 (by kernel_rfl) (Tryz.results42) rfl rfl (Nat.le_of_ble_eq_true rfl) (by decide) rfl ?_
                     rw [hres]; rfl)
                  · first
                    | exact Bool.noConfusion hb60
                    | (
                     rw [if_neg (by omega)] at hres
                     refine nav ?_
                     (refine aC_region ?_ <;> (refine yL 62 (q_ldao 6 tAgg24_PtI) fun v62 hv62 => ?_; cases hv62) <;> (refine yL 63 (q_ldao 7 tAgg24_PtI) fun v63 hv63 => ?_; cases hv63) <;> (refine s_lita (kk := 3) (xs := [_, _]) (cs := [[_, _, _], [_, _, _]]) 64 tEl22_PtI fun h64 ho64 => ?_; refine aL_ent (En.freeze (l := 64) (t := 64) rfl rfl) fun _ => ?_; refine aL_ent (reslot (t := 64) (p' := pTrs [X, Y]) rfl (Eq.trans (show _ = PV.sl 2 ([X, Y].flatMap cN) from rfl) (two_trs X Y))) fun _ => ?_) <;> refine xL 65 (q_build tSt24_PtI) ?_ <;> refine s_sta 2 tAgg24_PtI ?_ <;> refine aL_end (nav ?_) <;> try dsimp only)
                     refine ret_cell (k := 3) 2 (by kernel_rfl) (Tryz.results42) rfl rfl (Nat.le_of_ble_eq_true rfl) (by decide) rfl ?_
                     rw [hres]; rfl)))
          · first
            | exact Bool.noConfusion hb31
            | (
             refine nav ?_
             refine aC_ent (En.freeze (l := 200) (t := 3) rfl rfl) fun _ => ?_
             rw [share_trs _ _ _ rfl]
             (refine aC_region ?_ <;> refine xL 66 (q_fldo 1 tFl24_0_PtI) ?_ <;> (refine yL 67 (q_ldo 1 tNa3_PtI) fun v67 hv67 => ?_; cases hv67) <;> refine xL 68 q_move ?_ <;> (refine cD 69 (cA Tryz.call66 (tJoin_e o (norL l) (by omega) (by omega) hnf (by omega))) fun v69 hv69 => ?_; clear hv69) <;> refine s_sta 2 tAgg24_PtI ?_ <;> refine aL_end (nav ?_) <;> try dsimp only)
             refine ret_cell (k := 3) 2 (by kernel_rfl) (Tryz.results42) rfl rfl (Nat.le_of_ble_eq_true rfl) (by decide) rfl ?_
             rw [norT, nodT, if_neg (by omega), if_neg (by omega)]; rfl))))
def norX (t : Nd) : PV × Int := if valT t = true then (if valT (norT t) = true then (pTr (norT t), 0) else (zeroN, 5)) else (zeroN, 1)
theorem tNormalX_e (t : Nd) (hf : FitT t) : AF Tryz.prog 16 [pTr t] (· = .tup [(norX t).1, pInt (norX t).2]) := by
 refine AF.of_body 16 Tryz.func16 rfl Tryz.ntmps16 (Nat.le_of_ble_eq_true rfl) ?_
 intro w0 M0 vs hl hv
 obtain ⟨v0, rfl⟩ := len1 hl
 clear hl hv
 have e0 : pTr t = .agg [pInt t.op, pStr t.act, pTrs t.l] := rfl
 rw [e0]
 refine nav ?_
 (refine aC_region ?_ <;> refine s_boxa 1 3 fun h1 => ?_ <;> refine s_alloc [(.int .i64 0), (.string ByteArray.empty), (.slice none 0 0)] 3 2 tZr24_PtI fun h2 => ?_ <;> refine xL 3 q_assign ?_ <;> refine aL_end (nav ?_) <;> try dsimp only)
 (refine aC_region ?_ <;> (refine yL 5 (q_ldao 1 tAgg24_PtI) fun v5 hv5 => ?_; cases hv5) <;> (refine cS 6 (cA Tryz.call26 (tValid_e t hf)) fun v6 hv6 => ?_; cases hv6) <;> refine xL 7 q_not ?_ <;> refine aL_end (nav ?_) <;> try dsimp only)
 (first | refine cCd ?_ ?_ | refine cC ?_ ?_) <;> intro hb7
 · first
   | exact Bool.noConfusion hb7
   | (
    refine nav ?_
    (refine aC_region ?_ <;> refine xL 8 (q_build tSt24_PtI) ?_ <;> refine s_sta 2 tAgg24_PtI ?_ <;> refine xL 3 q_assign ?_ <;> refine aL_end (nav ?_) <;> try dsimp only)
    refine ret_cs (k := 3) 2 (by kernel_rfl) (Tryz.results16) rfl rfl rfl (Nat.le_of_ble_eq_true rfl) (by decide) rfl ?_
    rw [show norX t = (zeroN, 1) by unfold norX; rw [if_neg (by simpa using hb7)]]; rfl)
 · first
   | exact Bool.noConfusion hb7
   | (
    have hv : valT t = true := by simpa using hb7
    have hsz := val_sz hv
    have hok := val_ok hv
    have hfn := fit_nor hok (by omega)
    refine nav ?_
    (refine aC_region ?_ <;> (refine yL 9 (q_ldao 1 tAgg24_PtI) fun v9 hv9 => ?_; cases hv9) <;> (refine cD 10 (cA Tryz.call42 (tNormal_e t hok (by omega))) fun v10 hv10 => ?_; clear hv10) <;> refine s_alloc [(.int .i64 0), (.string ByteArray.empty), (.slice none 0 0)] 3 4 tZr24_PtI fun h4 => ?_ <;> refine s_sta 4 tAgg24_PtI ?_ <;> refine aL_end (nav ?_) <;> try dsimp only)
    have e1 : cN (norT t) = [pInt (norT t).op, pStr (norT t).act, pTrs (norT t).l] := rfl
    (refine aC_region ?_ <;> (refine yL 11 (q_ldao 4 tAgg24_PtI) fun v11 hv11 => ?_; cases hv11) <;> (refine cS 12 (cA Tryz.call26 (tValid_e (norT t) hfn)) fun v12 hv12 => ?_; cases hv12) <;> refine xL 13 q_not ?_ <;> refine aL_end (nav ?_) <;> try dsimp only)
    (first | refine cCd ?_ ?_ | refine cC ?_ ?_) <;> intro hb13
    · first
      | exact Bool.noConfusion hb13
      | (
       refine nav ?_
       (refine aC_region ?_ <;> refine xL 14 (q_build tSt24_PtI) ?_ <;> refine s_sta 2 tAgg24_PtI ?_ <;> refine xL 3 q_assign ?_ <;> refine aL_end (nav ?_) <;> try dsimp only)
       refine ret_cs (k := 3) 2 (by kernel_rfl) (Tryz.results16) rfl rfl rfl (Nat.le_of_ble_eq_true rfl) (by decide) rfl ?_
       rw [show norX t = (zeroN, 5) by unfold norX; rw [if_pos hv, if_neg (by simpa using hb13)]]; rfl)
    · first
      | exact Bool.noConfusion hb13
      | (
       refine nav ?_
       (refine aC_region ?_ <;> (refine yL 15 (q_ldao 4 tAgg24_PtI) fun v15 hv15 => ?_; cases hv15) <;> refine s_sta 2 tAgg24_PtI ?_ <;> refine xL 3 q_assign ?_ <;> refine aL_end (nav ?_) <;> try dsimp only)
       refine ret_cs (k := 3) 2 (by kernel_rfl) (Tryz.results16) rfl rfl rfl (Nat.le_of_ble_eq_true rfl) (by decide) rfl ?_
       rw [show norX t = (pTr (norT t), 0) by unfold norX; rw [if_pos hv, if_pos (by simpa using hb13)]]; rfl))
theorem tAgg24_PtX : AggT Tryz.prog 24 3 = true := by kernel_rfl
theorem tAgg71_PtX : AggT Tryz.prog 71 5 = true := by kernel_rfl
theorem tEl22_PtX : ElT Tryz.prog 22 24 3 48 (.agg #[(.int .i64 0), (.string ByteArray.empty), (.slice none 0 0)]) := ⟨Tryz.underlying22, by kernel_rfl, rfl, by decide⟩
theorem tFl108_0_PtX : FldT Tryz.prog 108 0 0 = true := by kernel_rfl
theorem tFl108_1_PtX : FldT Tryz.prog 108 1 1 = true := by kernel_rfl
theorem tFl24_2_PtX : FldT Tryz.prog 24 2 2 = true := by kernel_rfl
theorem tFl71_0_PtX : FldT Tryz.prog 71 0 0 = true := by kernel_rfl
theorem tFl71_1_PtX : FldT Tryz.prog 71 1 1 = true := by kernel_rfl
theorem tNa22_PtX : NoAgg Tryz.prog 22 = true := by kernel_rfl
theorem tNa3_PtX : NoAgg Tryz.prog 3 = true := by kernel_rfl
theorem tNa67_PtX : NoAgg Tryz.prog 67 = true := by kernel_rfl
theorem tNa9_PtX : NoAgg Tryz.prog 9 = true := by kernel_rfl
theorem tSl22_PtX : SlT Tryz.prog 22 24 3 = true := by kernel_rfl
theorem tSl67_PtX : SlT Tryz.prog 67 71 5 = true := by kernel_rfl
theorem tSq104_PtX : stInfo Tryz.prog 104 = some ((.agg #[(.int .i64 0), (.string ByteArray.empty), (.int .i64 0), (.int .i64 0), (.int .i64 0)]), [(0, 5)]) := by kernel_rfl
theorem tSt24_PtX : stInfo Tryz.prog 24 = some ((.agg #[(.int .i64 0), (.string ByteArray.empty), (.slice none 0 0)]), ([0, 1, 2] : List Nat).map fun o => (o, 1)) := by kernel_rfl
theorem tSz22_PtX : (Tryz.prog.info? 22).map (·.size) = some 1 := by kernel_rfl
theorem tSz3_PtX : (Tryz.prog.info? 3).map (·.size) = some 1 := by kernel_rfl
theorem tZr24_PtX : ZeroT Tryz.prog 24 (.agg #[(.int .i64 0), (.string ByteArray.empty), (.slice none 0 0)]) := by unfold ZeroT; kernel_rfl
theorem tZr71_PtX : ZeroT Tryz.prog 71 (.agg #[(.int .i64 0), (.string ByteArray.empty), (.int .i64 0), (.int .i64 0), (.int .i64 0)]) := by unfold ZeroT; kernel_rfl
theorem suf_drop {L m : List Tk} (h : m <:+ L) : L.drop (L.length - m.length) = m ∧ m.length ≤ L.length := ⟨(List.suffix_iff_eq_drop.1 h).symm, h.length_le⟩
theorem get_drop {L m : List Tk} {i : Nat} {x : Tk} (h : L.drop i = x :: m) : L[i]? = some x := by
 have : (L.drop i)[0]? = some x := by rw [h]; rfl
 rwa [List.getElem?_drop, Nat.add_zero] at this
theorem drop_tl {L m : List Tk} {i : Nat} {x : Tk} (h : L.drop i = x :: m) : L.drop (i + 1) = m := by rw [← List.drop_drop, h]; rfl
theorem EndL.cons {l : List Tk} (h : EndL l) : ∃ x m, l = x :: m := by
 cases l with
 | nil => exact absurd rfl h.ne
 | cons x m => exact ⟨x, m, rfl⟩
abbrev TreeP (b : Nat) (L : List Tk) (f : Nat) (m : List Tk) (ch : List PanicEntry) (h : List (Nat × Ent)) : Prop := ∃ t, rdT f m = .err t ∧ ch = panT t ∧ ∃ j, h = RtH b L j
def TreeC (b : Nat) (L : List Tk) (f : Nat) : Prop := ∀ m : List Tk, m <:+ L → EndL m → m.length < f → AFp False Tryz.prog 61 [(0, ptr1 b, .val (ptr1 b))] (RtH b L (L.length - m.length)) (fun _ q h => ∃ t m2, rdT f m = .ok t m2 ∧ q = pTr t ∧ h = RtH b L (L.length - m2.length)) (TreeP b L f m)
set_option maxHeartbeats 4000000 in
theorem tTree_step (b : Nat) (L : List Tk) (hL : L.length ≤ 10000) (hT : ∀ x ∈ L, TkOk x) (f : Nat) (ih : ∀ f', f' ≤ f → TreeC b L f') (t0 : Tk) (m1 : List Tk) (hs : t0 :: m1 <:+ L) (he : EndL (t0 :: m1)) (hf : (t0 :: m1).length < f + 1) (i : Nat) (hi0 : i = L.length - (t0 :: m1).length) : AFp False Tryz.prog 61 [(0, ptr1 b, .val (ptr1 b))] (RtH b L i) (fun _ q h => ∃ t m2, rdT (f + 1) (t0 :: m1) = .ok t m2 ∧ q = pTr t ∧ h = RtH b L (L.length - m2.length)) (TreeP b L (f + 1) (t0 :: m1)) := by
 obtain ⟨hdi, hml⟩ := suf_drop hs
 rw [← hi0] at hdi
 rw [List.length_cons] at hf hml hi0
 have hiL : i + (m1.length + 1) = L.length := by omega
 have hx := get_drop hdi
 have hdi1 := drop_tl hdi
 have hok0 := hT t0 (List.mem_of_getElem? hx)
 have e1 : ((cTks L).drop (i * 5)).take 5 = [pInt t0.kind, pB t0.text, pInt t0.n, pInt t0.ln, pInt t0.col] := tks_drop hx
 have e2 : i * 5 + 5 ≤ (cTks L).length := tks_fit hx
 have hI : ∀ s : List UInt8, AFh False Tryz.prog 86 [(0, ptr1 b, .val (ptr1 b)), (1, .int .i64 0, .val (.int .i64 0)), (2, .string (bst s), pB s)] (RtH b L i) (fun u q h => u = .bool (isSy (t0 :: m1) s) ∧ q = pBool (isSy (t0 :: m1) s) ∧ h = RtH b L i) := fun s => by
  have := tIs_e b L i s (by omega) (by omega)
  rw [hdi] at this; exact this
 have hI1 : ∀ s : List UInt8, AFh False Tryz.prog 86 [(0, ptr1 b, .val (ptr1 b)), (1, .int .i64 0, .val (.int .i64 0)), (2, .string (bst s), pB s)] (RtH b L (i + 1)) (fun u q h => u = .bool (isSy m1 s) ∧ q = pBool (isSy m1 s) ∧ h = RtH b L (i + 1)) := fun s => by
  have := tIs_e b L (i + 1) s (by omega) (by omega)
  rw [hdi1] at this; exact this
 unfold RtH
 refine AFp.of_body 110 Tryz.func61 rfl Tryz.ntmps61 (Nat.le_of_ble_eq_true rfl) rfl ?_
 intro w0 M0 N0
 refine nav ?_
 (refine aC_region ?_ <;> refine s_alloc [(.int .i64 0), (.string ByteArray.empty), (.slice none 0 0)] 3 2 tZr24_PtX fun h2 => ?_ <;> refine aL_end (nav ?_) <;> try dsimp only)
 (refine aC_draw (fun i => ([] : List Nat).elem i) [1000] (by kernel_rfl) ?_ <;> refine xD 0 6 rfl q_move ?_ <;> refine xD 1 7 rfl (q_nilo 1000) ?_ <;> refine xD 2 8 rfl (q_fldo 1000 tFl108_0_PtX) ?_ <;> (refine yD 3 9 rfl (q_ldo 1000 tNa67_PtX) fun v9 hv9 => ?_; cases hv9) <;> refine xD 4 10 rfl q_move ?_ <;> refine xD 5 11 rfl (q_nilo 1000) ?_ <;> refine xD 6 12 rfl (q_fldo 1000 tFl108_1_PtX) ?_ <;> (refine yD 7 13 rfl (q_ldo 1000 tNa3_PtX) fun v13 hv13 => ?_; cases hv13) <;> refine xD 8 14 rfl (q_idxN tSl67_PtX) ?_ <;> (refine yD 9 15 rfl (q_lda tAgg71_PtX) fun v15 hv15 => ?_; cases hv15) <;> (refine aD_one 10 (by kernel_rfl) ?_) <;> (refine aW_run rfl fun w9 M9 N9 DQ back => ?_) <;> refine s_alloc [(.int .i64 0), (.string ByteArray.empty), (.int .i64 0), (.int .i64 0), (.int .i64 0)] 5 3 tZr71_PtX fun h3 => ?_ <;> refine aL_end (back _ (nrm ?_)) <;> (refine aD_one 11 (by kernel_rfl) ?_) <;> (refine aW_run rfl fun w9 M9 N9 DQ back => ?_) <;> refine s_sta 3 tAgg71_PtX ?_ <;> refine aL_end (back _ (nrm ?_)) <;> refine aD_end (by kernel_rfl) (nav ?_) <;> try dsimp only)
 refine aC_ent (recast (l := 3) (p' := .own 71 5 1 [pInt t0.kind, pB t0.text, pInt t0.n, pInt t0.ln, pInt t0.col]) rfl rfl) fun _ => ?_
 (refine aC_region ?_ <;> refine xL 17 q_move ?_ <;> (refine aL_ch [2, 3] 18 (Tryz.call86) (hI [40]) ?_; rintro _ _ _ ⟨rfl, rfl, rfl⟩; dsimp only [RtH]) <;> refine xL 16 q_assign ?_ <;> refine aL_end (nav ?_) <;> try dsimp only)
 (first | refine cCd ?_ ?_ | refine cC ?_ ?_) <;> intro hb16
 · first
   | exact Bool.noConfusion hb16
   | (
    have h40 : isSy (t0 :: m1) [40] = true := hb16
    have hr : rdT (f + 1) (t0 :: m1) = (if isSy m1 [41] then .ok silT m1.tail else .err (m1.headD tk0)) := by rw [rdT, if_pos h40]
    have hk0 : t0.kind = 4 := by obtain ⟨t', m', hc, hk, _⟩ := isSy_cons h40; cases hc; exact hk
    have he1 := he.tail (by omega)
    obtain ⟨x1, m2, rfl⟩ := he1.cons
    have hx1 := get_drop hdi1
    rw [List.length_cons] at hiL
    refine nav ?_
    (refine aC_region ?_ <;> refine xL 19 q_move ?_ <;> refine xL 20 (q_nilo 1000) ?_ <;> refine xL 21 (q_fldo 1000 tFl108_1_PtX) ?_ <;> (refine yL 22 (q_ldo 1000 tNa3_PtX) fun v22 hv22 => ?_; cases hv22) <;> refine xL 23 q_add ?_ <;> refine xL 24 (q_nilo 1000) ?_ <;> refine xL 25 (q_fldo 1000 tFl108_1_PtX) ?_ <;> refine s_st 1000 tNa3_PtX tSz3_PtX ?_ <;> refine aL_end (nav ?_) <;> try dsimp only)
    (refine aC_region ?_ <;> refine xL 26 q_move ?_ <;> (refine aL_heap [(2, _, _), (3, _, _), (1000, hdr1 b, .own 108 2 1 [pTks L, pInt ((i + 1 : Nat) : Int)])] ⟨rfl, rfl, rfl, trivial⟩ ?_; refine aL_cp [2, 3] 27 (Tryz.call87) (tWant_e b L (i + 1) [41] x1 (by omega) hx1) (fun v27 p27 h27 hR27 => ?_) (fun ch h hRp => by (obtain ⟨hp1, rfl, rfl⟩ := hRp; rw [hdi1] at hp1; exact pan_q (TreeP b L (f + 1) (t0 :: x1 :: m2)) (RtH b L (i + 1)) ⟨rfl, trivial⟩ ⟨x1, by rw [hr, hp1]; rfl, rfl, _, rfl⟩)); obtain ⟨hp1, rfl⟩ := hR27; rw [hdi1] at hp1; dsimp only [RtH]) <;> refine aL_end (nav ?_) <;> try dsimp only)
    (refine aC_region ?_ <;> refine xL 28 (q_build tSt24_PtX) ?_ <;> (refine aL_ent (rslot (t := 28) (p' := pTr silT) rfl (rr_leaf 2 ByteArray.empty)) fun _ => ?_; refine s_sta 2 tAgg24_PtX ?_) <;> refine aL_end (nav ?_) <;> try dsimp only)
    refine ret_toP (ret_hc (k := 3) 2 (RtH b L (i + 1 + 1)) (by kernel_rfl) (Tryz.results61) rfl rfl (Nat.le_of_ble_eq_true rfl) (by decide) rfl ⟨rfl, trivial⟩ fun V => ⟨silT, m2, by rw [hr, hp1]; rfl, rfl, ?_⟩)
    rw [show i + 1 + 1 = L.length - m2.length by omega]; rfl)
 · first
   | exact Bool.noConfusion hb16
   | (
    have h40 : isSy (t0 :: m1) [40] = false := hb16
    refine nav ?_
    (refine aC_region ?_ <;> refine xL 30 (q_fldo 3 tFl71_0_PtX) ?_ <;> (refine yL 31 (q_ldo 3 tNa3_PtX) fun v31 hv31 => ?_; cases hv31) <;> refine xL 32 q_neq ?_ <;> refine xL 29 q_assign ?_ <;> refine aL_end (nav ?_) <;> try dsimp only)
    (first | refine cCd ?_ ?_ | refine cC ?_ ?_) <;> intro hb29
    · first
      | exact Bool.noConfusion hb29
      | (
       refine nav ?_
       (refine aC_region ?_ <;> (refine yL 33 (q_ldao 3 tAgg71_PtX) fun v33 hv33 => ?_; cases hv33) <;> (refine yL 34 (q_buildM tSq104_PtX) fun v34 hv34 => ?_; cases hv34) <;> refine xL 35 (q_mkif (by kernel_rfl)) ?_ <;> (refine aL_agv (d := 34) (tkV t0) rfl (fun h34 => ?_); subst h34; refine aL_panic ?_; exact pan_q (TreeP b L (f + 1) (t0 :: m1)) (RtH b L i) ⟨rfl, trivial⟩ ⟨t0, by rw [rdT, h40, if_neg Bool.false_ne_true, if_pos (by omega)], rfl, _, rfl⟩) <;> refine aL_end (nav ?_) <;> try dsimp only))
    · first
      | exact Bool.noConfusion hb29
      | (
       have hk1 : t0.kind = 1 := by omega
       have he1 := he.tail (by omega)
       have hr : rdT (f + 1) (t0 :: m1) = (if opOf t0.text = 0 then (if isSy m1 [40] then .err (m1.headD tk0) else .ok (.mk 1 (bst t0.text) []) m1)
        else if isSy m1 [40] then (match rdT f m1.tail with | .err e => .err e | .ok x m2 => rdL f (opOf t0.text) [x] m2)
        else .ok (.mk 1 (bst t0.text) []) m1) := by
        rw [rdT, h40, if_neg Bool.false_ne_true, if_neg (by omega)]
        rfl
       obtain ⟨o, ho⟩ : ∃ o, o = opOf t0.text := ⟨_, rfl⟩
       rw [← ho] at hr
       have hob := opOf_bd t0.text
       rw [← ho] at hob
       have htx := hok0.text
       have hopc := tOperator_e t0.text (by omega)
       rw [← ho] at hopc
       obtain ⟨x1, m2, rfl⟩ := he1.cons
       have hx1 := get_drop hdi1
       have hdi2 := drop_tl hdi1
       have e3 : ((cTks L).drop ((i + 1) * 5)).take 5 = [pInt x1.kind, pB x1.text, pInt x1.n, pInt x1.ln, pInt x1.col] := tks_drop hx1
       have e4 : (i + 1) * 5 + 5 ≤ (cTks L).length := tks_fit hx1
       rw [List.length_cons] at hiL hf
       refine nav ?_
       (refine aC_region ?_ <;> refine xL 36 (q_fldo 3 tFl71_1_PtX) ?_ <;> (refine yL 37 (q_ldo 3 tNa9_PtX) fun v37 hv37 => ?_; cases hv37) <;> (refine cS 38 (cA Tryz.call88 (hopc)) fun v38 hv38 => ?_; cases hv38) <;> refine xL 4 q_assign ?_ <;> refine aL_end (nav ?_) <;> try dsimp only)
       (refine aC_region ?_ <;> refine xL 39 q_move ?_ <;> refine xL 40 (q_nilo 1000) ?_ <;> refine xL 41 (q_fldo 1000 tFl108_1_PtX) ?_ <;> (refine yL 42 (q_ldo 1000 tNa3_PtX) fun v42 hv42 => ?_; cases hv42) <;> refine xL 43 q_add ?_ <;> refine xL 44 (q_nilo 1000) ?_ <;> refine xL 45 (q_fldo 1000 tFl108_1_PtX) ?_ <;> refine s_st 1000 tNa3_PtX tSz3_PtX ?_ <;> refine aL_end (nav ?_) <;> try dsimp only)
       (refine aC_region ?_ <;> refine xL 46 q_move ?_ <;> refine xL 47 q_eql ?_ <;> refine xL 48 q_move ?_ <;> (refine bLd 48 (fun hb48 => ?_) (fun hb48 => ?_) <;> (first | refine kL 49 ?_ | refine xL 49 q_move ?_)) <;> (first | refine kL 50 ?_ | refine kL 50 ?_ | (refine aL_heap [(2, _, _), (3, _, _), (1000, hdr1 b, .own 108 2 1 [pTks L, pInt ((i + 1 : Nat) : Int)])] ⟨rfl, rfl, rfl, trivial⟩ ?_; refine aL_ch [2, 3] 50 (Tryz.call86) (hI1 [40]) ?_; rintro _ _ _ ⟨rfl, rfl, rfl⟩; dsimp only [RtH])) <;> (first | refine kL 51 ?_ | refine xL 51 q_not ?_) <;> refine xL 52 q_pick ?_ <;> refine aL_end (nav ?_) <;> try dsimp only) <;> (
        (first | refine cCd ?_ ?_ | refine cC ?_ ?_) <;> intro hb52
        · first
          | exact Bool.noConfusion hb52
          | (
           refine nav ?_
           (refine aC_region ?_ <;> refine xL 53 q_move ?_ <;> (refine aL_heap [(2, _, _), (3, _, _), (1000, hdr1 b, .own 108 2 1 [pTks L, pInt ((i + 1 : Nat) : Int)])] ⟨rfl, rfl, rfl, trivial⟩ ?_; refine aL_ch [2, 3] 54 (Tryz.call86) (hI1 [40]) ?_; rintro _ _ _ ⟨rfl, rfl, rfl⟩; dsimp only [RtH]) <;> refine aL_end (nav ?_) <;> try dsimp only)
           (first | refine cCd ?_ ?_ | refine cC ?_ ?_) <;> intro hb54
           · first
             | exact Bool.noConfusion hb54
             | (
              have h40' : isSy (x1 :: m2) [40] = true := hb54
              refine nav ?_
              (refine aC_drawP (PanX ⟨w0, M0, N0, 110, False, []⟩ (TreeP b L (f + 1) (t0 :: x1 :: m2))) (fun i => ([] : List Nat).elem i) [1000] (by kernel_rfl) (panD (fun _ _ h => h)) ?_ <;> refine xDp 0 55 rfl q_move ?_ <;> refine xDp 1 56 rfl (q_nilo 1000) ?_ <;> refine xDp 2 57 rfl (q_fldo 1000 tFl108_0_PtX) ?_ <;> (refine yDp 3 58 rfl (q_ldo 1000 tNa67_PtX) fun v58 hv58 => ?_; cases hv58) <;> refine xDp 4 59 rfl q_move ?_ <;> refine xDp 5 60 rfl (q_nilo 1000) ?_ <;> refine xDp 6 61 rfl (q_fldo 1000 tFl108_1_PtX) ?_ <;> (refine yDp 7 62 rfl (q_ldo 1000 tNa3_PtX) fun v62 hv62 => ?_; cases hv62) <;> refine xDp 8 63 rfl (q_idxN tSl67_PtX) ?_ <;> (refine yDp 9 64 rfl (q_lda tAgg71_PtX) fun v64 hv64 => ?_; cases hv64) <;> (refine yDp 10 65 rfl (q_buildM tSq104_PtX) fun v65 hv65 => ?_; cases hv65) <;> refine xDp 11 66 rfl (q_mkif (by kernel_rfl)) ?_ <;> (refine aDp_agv (d := 65) (tkV x1) rfl (fun h65 => ?_); subst h65; exact aDp_panic 12 rfl (fun a w F H => H.panW' (RtH b L (i + 1)) ⟨rfl, trivial⟩ ⟨x1, by first | (rw [hr, if_pos (by omega), if_pos h40']; rfl) | (exfalso; simp_all; done), rfl, _, rfl⟩)) <;> try dsimp only))
           · first
             | exact Bool.noConfusion hb54
             | (
              have h40' : isSy (x1 :: m2) [40] = false := by simpa using hb54
              refine nav ?_
              (refine aC_region ?_ <;> refine xL 67 (q_fldo 3 tFl71_1_PtX) ?_ <;> (refine yL 68 (q_ldo 3 tNa9_PtX) fun v68 hv68 => ?_; cases hv68) <;> refine xL 69 (q_build tSt24_PtX) ?_ <;> (refine aL_ent (rslot (t := 69) (p' := pTr (.mk 1 (bst t0.text) [])) rfl (rr_leaf 1 (bst t0.text))) fun _ => ?_; refine s_sta 2 tAgg24_PtX ?_) <;> refine aL_end (nav ?_) <;> try dsimp only)
              refine ret_toP (ret_hc (k := 3) 2 (RtH b L (i + 1)) (by kernel_rfl) (Tryz.results61) rfl rfl (Nat.le_of_ble_eq_true rfl) (by decide) rfl ⟨rfl, trivial⟩ fun V => ⟨.mk 1 (bst t0.text) [], x1 :: m2, ?_, rfl, ?_⟩)
              · rw [hr, h40']; split <;> rfl
              · rw [List.length_cons, show i + 1 = L.length - (m2.length + 1) by omega]; rfl))
        · first
          | exact Bool.noConfusion hb52
          | (
           refine nav ?_
           have ho0 : ¬ o = 0 := by first | omega | simp_all
           have h40' : isSy (x1 :: m2) [40] = true := by first | assumption | simp_all
           have hk1' : x1.kind = 4 := by obtain ⟨t', m', hc, hk, _⟩ := isSy_cons h40'; cases hc; exact hk
           have he2 := he1.tail (by omega)
           have hs2 : m2 <:+ L := ⟨L.take (i + 1 + 1), by rw [← hdi2, List.take_append_drop]⟩
           rw [if_neg ho0, if_pos h40'] at hr
           have hc2 := ih f (Nat.le_refl _) m2 hs2 he2 (by omega)
           rw [show L.length - m2.length = i + 1 + 1 by omega] at hc2
           (refine aC_region ?_ <;> refine xL 70 q_move ?_ <;> refine xL 71 (q_nilo 1000) ?_ <;> refine xL 72 (q_fldo 1000 tFl108_1_PtX) ?_ <;> (refine yL 73 (q_ldo 1000 tNa3_PtX) fun v73 hv73 => ?_; cases hv73) <;> refine xL 74 q_add ?_ <;> refine xL 75 (q_nilo 1000) ?_ <;> refine xL 76 (q_fldo 1000 tFl108_1_PtX) ?_ <;> refine s_st 1000 tNa3_PtX tSz3_PtX ?_ <;> refine aL_end (nav ?_) <;> try dsimp only)
           (refine aC_region ?_ <;> refine xL 77 q_move ?_ <;> refine xL 78 q_move ?_ <;> (refine aL_heap [(2, _, _), (3, _, _), (1000, hdr1 b, .own 108 2 1 [pTks L, pInt ((i + 1 + 1 : Nat) : Int)])] ⟨rfl, rfl, rfl, trivial⟩ ?_; refine aL_cp [2, 3] 79 (Tryz.call61) hc2 (fun v79 p79 h79 hR79 => ?_) (fun ch h hRp => by (obtain ⟨t, hp1, rfl, j, rfl⟩ := hRp; exact pan_q (TreeP b L (f + 1) (t0 :: x1 :: m2)) (RtH b L j) ⟨rfl, trivial⟩ ⟨t, by rw [hr]; show (match rdT f m2 with | .err e => Rd.err e | .ok x m2 => rdL f o [x] m2) = _; rw [hp1], rfl, j, rfl⟩)); obtain ⟨x, m3, hr3, rfl, rfl⟩ := hR79; dsimp only [RtH]) <;> (refine s_lit1a 80 tEl22_PtX fun h80 ho80 => ?_; have hone80 : En.one (PV.val h80) = true := ho80; refine aL_ent (relabel (l := 80) 200 rfl rfl) fun _ => ?_; refine aL_ent (recast (l := 200) rfl (show PV.own 24 3 1 (cN x) = .own 24 3 [x].length (cTrs [x]) by rw [cTrs_eq]; rfl)) fun _ => ?_) <;> refine xL 81 (q_build tSt24_PtX) ?_ <;> refine s_alloc [(.int .i64 0), (.string ByteArray.empty), (.slice none 0 0)] 3 5 tZr24_PtX fun h5 => ?_ <;> (refine aL_ent (reslot (t := 81) (p' := .agg [pInt o, .val (.string ByteArray.empty), .val h80]) rfl rfl) fun _ => ?_; refine s_sta 5 tAgg24_PtX ?_) <;> refine aL_end (nav ?_) <;> try dsimp only)
           have hrd3 := (rd_ok f).1 _ _ _ he2 hr3
           have hr' : rdT (f + 1) (t0 :: x1 :: m2) = rdL f o [x] m3 := by
            rw [hr]; show (match rdT f m2 with | .err e => Rd.err e | .ok x m2 => rdL f o [x] m2) = _; rw [hr3]
           have hl3 := hrd3.lt
           refine aC_loop (ι := { q : (Value × List Nd) × (List Tk × Nat) // (rdL q.2.2 o q.1.2 q.2.1 = rdT (f + 1) (t0 :: x1 :: m2) ∧ q.2.1 <:+ L ∧ EndL q.2.1) ∧ q.2.1.length < q.2.2 ∧ q.2.2 ≤ f ∧ q.1.2.length + q.2.1.length ≤ 10000 ∧ q.1.1.oneCell' = true }) (fun k => ⟨[(0, _, _), (2, _, _), (4, _, _), (5, _, _)], [(2, _, _), (5, h5, .own 24 3 1 [pInt o, .val (.string ByteArray.empty), .val k.1.1.1]), (200, k.1.1.1, .own 24 3 k.1.1.2.length (cTrs k.1.1.2)), (1000, hdr1 b, .own 108 2 1 [pTks L, pInt ((L.length - k.1.2.1.length : Nat) : Int)])]⟩) (fun k => k.1.2.1.length) ⟨((_, [x]), (m3, f)), ⟨hr'.symm, hrd3.suf.trans hs2, hrd3.endl⟩, by dsimp only; omega, Nat.le_refl _, by dsimp only; simp only [List.length_cons, List.length_nil]; omega, ho80⟩ (fun a w H => H.weaken ⟨rfl, rfl, rfl, rfl, trivial⟩ ⟨rfl, rfl, rfl, rfl, trivial⟩) ?_
           rintro ⟨⟨⟨hv, d⟩, ⟨mm, ff⟩⟩, ⟨hre, hsm, hem⟩, hfl, hff, hdl, hov⟩
           dsimp only
           dsimp only at hre hsm hem hfl hff hdl hov; have hone : En.one (PV.val hv) = true := hov
           obtain ⟨xm, mt, rfl⟩ := hem.cons
           obtain ⟨hdm, hmm⟩ := suf_drop hsm
           have hxm := get_drop hdm
           have hdm1 := drop_tl hdm
           obtain ⟨im, him⟩ : ∃ im, im = L.length - (xm :: mt).length := ⟨_, rfl⟩
           rw [← him] at hdm hxm hdm1
           rw [List.length_cons] at hmm him hfl hdl
           have hxl : (xm :: mt).length = mt.length + 1 := rfl
           have hIm : AFh False Tryz.prog 86 [(0, ptr1 b, .val (ptr1 b)), (1, .int .i64 0, .val (.int .i64 0)), (2, .string (bst [44]), pB [44])] (RtH b L (L.length - (xm :: mt).length)) (fun u q h => u = .bool (isSy (xm :: mt) [44]) ∧ q = pBool (isSy (xm :: mt) [44]) ∧ h = RtH b L (L.length - (xm :: mt).length)) := by
            have := tIs_e b L im [44] (by omega) (by omega)
            rw [hdm, him] at this; exact this
           have hWm : ∀ s, AFp False Tryz.prog 87 [(0, ptr1 b, .val (ptr1 b)), (1, .string (bst s), pB s)] (RtH b L (L.length - (xm :: mt).length)) (fun _ _ h => isSy (xm :: mt) s = true ∧ h = RtH b L (im + 1)) (fun ch h => isSy (xm :: mt) s = false ∧ ch = panT xm ∧ h = RtH b L im) := fun s => by
            have := tWant_e b L im s xm (by omega) hxm
            rw [hdm] at this
            rw [List.length_cons, ← him]; exact this
           obtain ⟨g, rfl⟩ : ∃ g, ff = g + 1 := ⟨ff - 1, by omega⟩
           rw [rdL] at hre
           refine nav ?_
           (refine aC_region ?_ <;> refine xL 82 q_move ?_ <;> refine xL 83 q_eql ?_ <;> refine xL 84 q_move ?_ <;> (refine bLd 84 (fun hb84 => ?_) (fun hb84 => ?_) <;> (first | refine kL 85 ?_ | refine xL 85 (q_fldo 5 tFl24_2_PtX) ?_)) <;> (first | refine kL 86 ?_ | (refine yL 86 (q_ldo 5 tNa22_PtX) fun v86 hv86 => ?_; cases hv86)) <;> (first | refine kL 87 ?_ | refine xL 87 (q_leno 200 tSl22_PtX) ?_) <;> (first | refine kL 88 ?_ | refine xL 88 q_lss ?_) <;> refine xL 89 q_pick ?_ <;> refine xL 90 q_move ?_ <;> (first | refine xL 91 q_move ?_ | (refine bLd 90 (fun hb90 => ?_) (fun hb90 => ?_) <;> (first | refine kL 91 ?_ | refine xL 91 q_move ?_))) <;> (first | refine kL 92 ?_ | refine xL 92 q_neq ?_) <;> (first | refine kL 93 ?_ | refine xL 93 q_move ?_) <;> (first | refine kL 94 ?_ | (refine bLd 93 (fun hb93 => ?_) (fun hb93 => ?_) <;> (first | refine kL 94 ?_ | refine xL 94 q_move ?_))) <;> (first | refine kL 95 ?_ | refine kL 95 ?_ | (refine aL_ch [2, 5, 200] 95 (Tryz.call86) hIm ?_; rintro _ _ _ ⟨rfl, rfl, rfl⟩; dsimp only [RtH])) <;> (first | refine kL 96 ?_ | refine xL 96 q_pick ?_) <;> refine xL 97 q_pick ?_ <;> refine aL_end (nav ?_) <;> try dsimp only) <;> (
            (first | refine cCd ?_ ?_ | refine cC ?_ ?_) <;> intro hb97
            · first
              | exact Bool.noConfusion hb97
              | (
               have hcond : (o = 6 ∧ d.length < 2) ∨ (o ≠ 6 ∧ isSy (xm :: mt) [44] = true) := by
                first
                 | exact .inl ⟨by omega, by omega⟩
                 | (refine .inr ⟨by omega, ?_⟩; first | assumption | simp_all)
               rw [if_pos hcond] at hre
               refine nav ?_
               (refine aC_region ?_ <;> refine xL 98 q_move ?_ <;> (refine aL_cp [2, 5, 200] 99 (Tryz.call87) (hWm [44]) (fun v99 p99 h99 hR99 => ?_) (fun ch h hRp => by (obtain ⟨hp1, rfl, rfl⟩ := hRp; exact pan_q (TreeP b L (f + 1) (t0 :: x1 :: m2)) (RtH b L im) ⟨rfl, trivial⟩ ⟨xm, by rw [← hre, hp1]; rfl, rfl, _, rfl⟩)); obtain ⟨hp1, rfl⟩ := hR99; dsimp only [RtH]) <;> refine aL_end (nav ?_) <;> try dsimp only)
               rw [if_pos hp1] at hre
               have hkm : xm.kind = 4 := by obtain ⟨t', m', hc, hk, _⟩ := isSy_cons hp1; cases hc; exact hk
               have het := hem.tail (by omega)
               have hst : mt <:+ L := ⟨L.take (im + 1), by rw [← hdm1, List.take_append_drop]⟩
               have hct := ih g (by omega) mt hst het (by omega)
               rw [show L.length - mt.length = im + 1 by omega] at hct
               (refine aC_drawP (PanX ⟨w0, M0, N0, 110, False, []⟩ (TreeP b L (f + 1) (t0 :: x1 :: m2))) (fun i => ([5, 6, 7] : List Nat).elem i) [5] (by kernel_rfl) (panD (fun _ _ h => h)) ?_ <;> refine xDp 0 100 rfl (q_fldo 5 tFl24_2_PtX) ?_ <;> (refine yDp 1 101 rfl (q_ldo 5 tNa22_PtX) fun v101 hv101 => ?_; cases hv101) <;> refine xDp 2 102 rfl q_move ?_ <;> (refine aDp_run 3 rfl (fun w9 M9 N9 DQ hDP back => ?_)) <;> (refine aL_cp [2, 200] 103 (Tryz.call61) hct (fun v103 p103 h103 hR103 => ?_) (fun ch h hRp a w F H => by (obtain ⟨t, hp2, rfl, j, rfl⟩ := hRp; exact hDP _ _ a w F H (fun F2 H2 => H2.panW' (RtH b L j) ⟨rfl, trivial⟩ ⟨t, by rw [← hre]; show (match rdT g mt with | .err e => Rd.err e | .ok x m2 => rdL g o (d ++ [x]) m2) = _; rw [hp2], rfl, j, rfl⟩))); obtain ⟨y, m4, hr4, rfl, rfl⟩ := hR103; dsimp only [RtH]) <;> refine aL_end (back _ ?_) <;> (refine aDp_run 4 rfl (fun w9 M9 N9 DQ hDP back => ?_)) <;> refine s_lit1a 104 tEl22_PtX fun h104 ho104 => ?_ <;> refine aL_end (back _ ?_) <;> refine aDp_of_Z ?_ <;> (refine aDpZ_one 5 rfl (fun DQ hDP back => ?_)) <;> (refine s_app 200 104 105 tEl22_PtX fun h105 ho105 => ?_; have hone105 : En.one (PV.val h105) = true := ho105; refine aL_ent (relabel (l := 105) 200 rfl rfl) fun _ => ?_; refine aL_ent (recast (l := 200) rfl (show PV.own 24 3 (d.length + 1) (cTrs d ++ cN y) = .own 24 3 (d ++ [y]).length (cTrs (d ++ [y])) by rw [cTrs_snoc, List.length_append]; rfl)) fun _ => ?_) <;> refine aL_end (back _ ?_) <;> (refine aDpZ_one 6 rfl (fun DQ hDP back => ?_)) <;> refine xL 106 (q_fldo 5 tFl24_2_PtX) ?_ <;> refine aL_end (back _ ?_) <;> (refine aDpZ_one 7 rfl (fun DQ hDP back => ?_)) <;> refine s_st 5 tNa22_PtX tSz22_PtX ?_ <;> refine aL_end (back _ ?_) <;> refine aDpZ_end (by kernel_rfl) (nav ?_) <;> try dsimp only)
               have hrd4 := (rd_ok g).1 _ _ _ het hr4
               have hre' : rdL g o (d ++ [y]) m4 = rdT (f + 1) (t0 :: x1 :: m2) := by
                rw [← hre]; show _ = (match rdT g mt with | .err e => Rd.err e | .ok x m2 => rdL g o (d ++ [x]) m2); rw [hr4]
               have hl4 := hrd4.lt
               refine aN_again (
                ⟨((h105, d ++ [y]), (m4, g)), ⟨hre', hrd4.suf.trans hst, hrd4.endl⟩, by dsimp only; omega, by dsimp only; omega, by dsimp only; simp only [List.length_append, List.length_cons, List.length_nil]; omega, ho105⟩
                ) (by dsimp only; omega) ⟨rfl, rfl, rfl, rfl, trivial⟩ ⟨rfl, rfl, rfl, rfl, trivial⟩)
            · first
              | exact Bool.noConfusion hb97
              | (
               have hcond : ¬ ((o = 6 ∧ d.length < 2) ∨ (o ≠ 6 ∧ isSy (xm :: mt) [44] = true)) := by
                rintro (⟨h1, h2⟩ | ⟨h1, h2⟩)
                · first | omega | simp_all
                · first | omega | simp_all
               rw [if_neg hcond] at hre
               refine nav ?_
               (refine aC_region ?_ <;> refine xL 107 q_move ?_ <;> (refine aL_cp [2, 5, 200] 108 (Tryz.call87) (hWm [41]) (fun v108 p108 h108 hR108 => ?_) (fun ch h hRp => by (obtain ⟨hp1, rfl, rfl⟩ := hRp; exact pan_q (TreeP b L (f + 1) (t0 :: x1 :: m2)) (RtH b L im) ⟨rfl, trivial⟩ ⟨xm, by rw [← hre, hp1]; rfl, rfl, _, rfl⟩)); obtain ⟨hp1, rfl⟩ := hR108; dsimp only [RtH]) <;> refine aL_end (nav ?_) <;> try dsimp only)
               rw [if_pos hp1] at hre
               refine aC_ent (freezeCell (l := 5) (l' := 200) (j := 2) rfl rfl rfl rfl) fun _ => ?_
               rw [share_trs _ _ _ rfl]
               (refine aC_region ?_ <;> (refine yL 109 (q_ldao 5 tAgg24_PtX) fun v109 hv109 => ?_; cases hv109) <;> refine s_sta 2 tAgg24_PtX ?_ <;> refine aL_end (nav ?_) <;> try dsimp only)
               refine ret_toP (ret_hc (k := 3) 2 (RtH b L (im + 1)) (by kernel_rfl) (Tryz.results61) rfl rfl (Nat.le_of_ble_eq_true rfl) (by decide) rfl ⟨rfl, trivial⟩ fun V => ⟨.mk o ByteArray.empty d, mt, hre.symm, rfl, ?_⟩)
               rw [show im + 1 = L.length - mt.length by omega]; rfl))))))
end Go.Proofs.YtbfilfhgcihhoaaGreatDoor
namespace Go.En
open Go.RowKit Go.Cb
set_option linter.all false
section
variable {P : Program} {c : Ctx} {ops : Array Oper} {Q : Exit → Act → World → Prop} {rest : List Oper} {sL hP : List (Nat × Ent)} {o : Oper}
theorem s_defer {f : Nat} {caps : Array Value} {x : Operand} {q : PV} (k : aL P ⟨c.w0, c.M0, c.N0, c.nt, c.dr, { target := .fn (.func f) caps, args := #[] } :: c.df⟩ ops Q rest (⟨sL, hP⟩ : St)) (hw : wants ops sL o = some true := by exact rfl) (hd : o.dst = none := by exact rfl) (ho : o.op = .defer { callee := .value x, args := #[], argTypes := #[] } := by exact rfl) (hx : ev sL x = some (.func (.func f) #[] caps, q) := by exact rfl) : aL P c ops Q (o :: rest) (⟨sL, hP⟩ : St) :=
 aL_run hw fun a w F H => by
  have hv := (H.rd.ev hx).1
  unfold Oper.wp execOp
  simp [ho, resolve, Deferred.ofValue, hv, Oper.upon, hd, Act.put]
  exact k _ _ ⟨F, ⟨⟨H.tr, H.lo, H.dj, H.m0, H.ext, H.dw⟩, H.sl, H.size, congrArg (_ :: ·) H.df⟩⟩
end
section
variable {P : Program}
theorem AF.of_bodyD {f : FuncId} {fn : Func} {code : Code} {ps : List PV} {R : PV → Prop} (nt : Nat) (hf : P.funcs[f]? = some fn) (hb : fn.body = some code) (hnt : fn.ntmps = nt) (hn : ps.length ≤ nt)
 (h : ∀ (w0 : World) (M0 : BS) (vs : List Value), vs.length = ps.length → (∀ (i : Nat) (v : Value) (p : PV), vs[i]? = some v → ps[i]? = some p → vOf p v) → aC P ⟨w0, M0, fun _ => False, nt, False, []⟩ code (bodyPostD P fn (RetAF ⟨w0, M0, fun _ => False, nt, False, []⟩ R)) ⟨argSlots 0 vs ps, []⟩) : AF P f ps R := fun M w vs hM hl hv => by
 subst hnt
 refine calls_of_wp_defers hf hb ?_
 refine wp_mono (h w M vs hl (fun i v p h1 h2 => (hv i v p h1 h2).vOf) _ w ⟨fun _ _ => False, ⟨⟨by simp [lk], by simp [lk], by simp [lk], hM, Chg.rfl' _ _, fun _ => Nat.le_refl _⟩, fun t v p ht => ?_, ?_, rfl⟩⟩) fun e a w' hq => ?_
 · obtain ⟨_, h1, h2⟩ := argSlots_lk vs ps 0 t v p ht
   simp only [Nat.sub_zero] at h1 h2
   refine ⟨?_, (hv t v p h1 h2).anti fun b _ hb => ?_⟩
   · have := lt_of_get h1
     rw [Array.getElem?_append_left (by simpa using this)]
     simpa using h1
   · rcases hb with hb | ⟨l, x, h3, _⟩
     · exact hb
     · simp [lk] at h3
 · simp; omega
 · cases e <;> exact hq
def AFD (P : Program) (f : FuncId) (caps : List Value) (u u' : FrameMode) (h h' : List (Nat × Ent)) : Prop :=
 ∀ (M N : BS) (w : World) (F : Nat → BS), HeapF ⟨w, M, N, 0, False, []⟩ h F w → CallsD P f caps.toArray u w fun e um w' => um = u' ∧ ∃ F', e = .returned (.tuple #[]) ∧ HeapF ⟨w, M, N, 0, False, []⟩ h' F' w'
def postD (c : Ctx) (h' : List (Nat × Ent)) (e : Exit) (a : Act) (w : World) : Prop := (e = .normal ∨ e = .ret) ∧ a.defers = [] ∧ ∃ F, HeapF c h' F w
theorem AFD.of_body {f : FuncId} {fn : Func} {rid : Nat} {o0 o1 : Oper} {rest : Code} {caps : List Value} {u u' : FrameMode} {h h' : List (Nat × Ent)} (v : Value) (t0 t1 nt : Nat) (hf : P.funcs[f]? = some fn) (hb : fn.body = some (.seq (.region rid #[o0, o1] false) rest)) (hnt : fn.ntmps = nt) (hr : fn.results = #[]) (h0 : o0.op = .call { callee := .builtin .recover, args := #[], argTypes := #[] }) (g0 : o0.guard = none) (d0 : o0.dst = some t0) (h1 : o1.op = .assign (.tmp t0)) (g1 : o1.guard = none) (d1 : o1.dst = some t1) (b0 : t0 < nt) (b1 : t1 < nt) (bc : caps.length ≤ nt)
 (hrc : ∀ (c₀ : Frame) (cs : List Frame), c₀.mode = u → (match recoverD (c₀ :: cs) with | some (x, cs') => x = v ∧ cs' = { c₀ with mode := u' } :: cs | none => v = .nilIface ∧ u' = u))
 (H : ∀ (w0 : World) (M0 N0 : BS), aC P ⟨w0, M0, N0, nt, False, []⟩ rest (postD ⟨w0, M0, N0, nt, False, []⟩ h') ⟨put t1 (v, .val v) (put t0 (v, .val v) (argSlots 0 caps (caps.map .val))), h⟩) : AFD P f caps u u' h h' := fun M N w F HF => by
 subst hnt
 refine callsD_of_wpS hf hb fun c₀ cs hu => ?_
 have hw0 : ∀ y, Region.wanted o0 y = true := fun y => by unfold Region.wanted; rw [g0]
 have hw1 : ∀ y, Region.wanted o1 y = true := fun y => by unfold Region.wanted; rw [g1]
 have hrun : ∀ (ρ : Operand → Value) w, (execOp ρ o0).run P w = .ok .recover w := fun ρ w => by simp [execOp, h0, resolve, invoke, builtin]
 have hHold : HoldsF ⟨w, M, N, fn.ntmps, False, []⟩ ⟨argSlots 0 caps (caps.map .val), h⟩ F { tmps := caps.toArray ++ Array.replicate (fn.ntmps - caps.toArray.size) undef, defers := [] } w := by
  refine ⟨HF.nt rfl rfl rfl id HF.m0, fun t v p ht => ?_, ?_, rfl⟩
  · obtain ⟨_, g1, g2⟩ := argSlots_lk _ _ 0 t v p ht
    simp only [Nat.sub_zero] at g1 g2
    rw [List.getElem?_map, g1] at g2
    simp at g2
    subst g2
    refine ⟨?_, .val _⟩
    have := lt_of_get g1
    rw [Array.getElem?_append_left (by simpa using this)]
    simpa using g1
  · simp; omega
 generalize hA : ({ tmps := caps.toArray ++ Array.replicate (fn.ntmps - caps.toArray.size) undef, defers := [] } : Act) = A at hHold ⊢
 have H1 := hHold.put (d := t0) (v := v) (p := .val v) b0 (.val _)
 have H2 := H1.put (d := t1) (v := v) (p := .val v) b1 (.val _)
 refine wpS_seq (wpS_region ?_)
 have hrange : List.range (#[o0, o1] : Array Oper).size = [0, 1] := rfl
 rw [hrange]
 have hev : (A.put (some t0) v).eval (.tmp t0) = v := by
  have := (H1.sl t0 v (.val v) (by rw [lk_put_self])).1
  simp [Act.eval, Array.getD_eq_getD_getElem?, this]
 have hfin : ∀ cs1, cs1 = { c₀ with mode := u' } :: cs → rest.wpS P (bodyPostS P fn c₀ cs (fun e um w' => um = u' ∧ ∃ F', e = .returned (.tuple #[]) ∧ HeapF ⟨w, M, N, 0, False, []⟩ h' F' w')) ((A.put (some t0) v).put (some t1) v) cs1 w := fun cs1 hcs => by
  refine wpS_of_wp (wp_mono (H w M N _ w ⟨F, H2⟩) fun e a' w' ⟨he, hd, F', hF'⟩ => ?_)
  have hres : (results fn a'.tmps).run P w' = .ok (.tuple #[]) w' := by simp [results, hr]
  have key : a'.defers = [] ∧ ∃ u'', cs1 = { c₀ with mode := u'' } :: cs ∧ ∃ x, (results fn a'.tmps).run P w' = .ok x w' ∧ (u'' = u' ∧ ∃ F', Ending.returned x = .returned (.tuple #[]) ∧ HeapF ⟨w, M, N, 0, False, []⟩ h' F' w') :=
   ⟨hd, u', hcs, _, hres, rfl, F', rfl, hF'.nt rfl rfl rfl id hF'.m0⟩
  rcases he with rfl | rfl
  · exact key
  · exact key
 have hstep1 : ∀ cs1, cs1 = { c₀ with mode := u' } :: cs → wpOpsS P #[o0, o1] (Exit.thenS (rest.wpS P (bodyPostS P fn c₀ cs (fun e um w' => um = u' ∧ ∃ F', e = .returned (.tuple #[]) ∧ HeapF ⟨w, M, N, 0, False, []⟩ h' F' w'))) (bodyPostS P fn c₀ cs (fun e um w' => um = u' ∧ ∃ F', e = .returned (.tuple #[]) ∧ HeapF ⟨w, M, N, 0, False, []⟩ h' F' w'))) [1] (A.put (some t0) v) cs1 w := fun cs1 hcs => by
  have hr1 : (execOp (A.put (some t0) v).eval o1).run P w = .ok (.value v) w := by simp only [execOp, h1]; rw [hev]; rfl
  simp only [wpOpsS, List.getElem?_toArray, List.getElem?_cons_succ, List.getElem?_cons_zero, hw1, if_true, hr1, Oper.upon, d1]
  exact hfin cs1 hcs
 have h00 := hrc c₀ cs hu
 rw [wpOpsS]
 simp only [List.getElem?_toArray, List.getElem?_cons_zero, hw0, if_true, hrun, d0]
 cases hrec : recoverD (c₀ :: cs) with
 | none =>
   rw [hrec] at h00
   obtain ⟨rfl, rfl⟩ := h00
   refine hstep1 _ ?_
   subst hu
   rfl
 | some x =>
   rw [hrec] at h00
   obtain ⟨x, cs'⟩ := x
   obtain ⟨rfl, h01⟩ := h00
   exact hstep1 _ h01
end
section
variable {P : Program} {c : Ctx} {sL hP : List (Nat × Ent)}
theorem leaves_of {fn : Func} {R' : Ending → World → Prop} {f : FuncId} {caps : List Value} {u u' : FrameMode} {h0 h' : List (Nat × Ent)} {K : List Nat} {a : Act} {w : World} {F : Nat → BS} (H : HoldsF c (⟨sL, hP⟩ : St) F a w) (hdf : c.df = [{ target := .fn (.func f) caps.toArray, args := #[] }]) (hc : ∀ args w, (callFunc f args).run P w = .ok (.enter f args) w) (hu : u ≠ .run) (hA : AFD P f caps u u' h0 h') (hh0 : h0 = minusK K hP) (hs : settle u' = .returning) (hdd : c.dr → False)
 (k : ∀ F' w', HoldsF c (⟨sL, h' ++ onlyK K hP⟩ : St) F' a w' → ∃ v, (results fn a.tmps).run P w' = .ok v w' ∧ R' (.returned v) w') : Leaves P fn a.tmps R' a.defers u w := by
 subst hh0
 have hfr := H.frame K
 rw [H.df, hdf]
 refine leaves_cons hu (f := f) (args := caps.toArray) (by simp [invoke, hc]) ?_
 have hcall := hA (fun b => c.M0 b ∨ ∃ l x, K.elem l = true ∧ lk hP l = some x ∧ F l b) (nK K hP F) w F ⟨hfr.tr, hfr.lo, hfr.dj, hfr.m0.up hdd, hfr.ext, fun _ => Nat.le_refl _⟩
 refine hcall.mono fun e um w' ⟨h1, F', h2, e3⟩ => ?_
 subst h1 h2
 show Leaves P fn a.tmps R' [] (settle um) w'
 rw [hs]
 have hch : Chg (nK K hP F) w w' := e3.ext
 have hlow : ∀ b, b < w.heap.size → mof ⟨w, fun b => c.M0 b ∨ ∃ l x, K.elem l = true ∧ lk hP l = some x ∧ F l b, nK K hP F, 0, False, []⟩ h' F' b → mof c hP F b := by
  rintro b hlt ((h1 | ⟨l, x, _, h1, h2⟩) | ⟨l, x, h1, h2⟩)
  · exact .inl h1
  · exact .inr ⟨l, x, h1, h2⟩
  · rcases e3.lo l x b h1 h2 with h3 | ⟨l', x', _, h3, h4⟩
    · exact absurd hlt (by simp only at h3; omega)
    · exact .inr ⟨l', x', h3, h4⟩
 have H' : HoldsF ⟨w, fun b => c.M0 b ∨ ∃ l x, K.elem l = true ∧ lk hP l = some x ∧ F l b, nK K hP F, c.nt, c.dr, c.df⟩ (⟨sL, h'⟩ : St) F' a w' := by
  refine ⟨e3.nt rfl rfl rfl hdd hfr.m0, fun t v q e => ?_, H.size, H.df⟩
  obtain ⟨h3, h4⟩ := H.sl t v q e
  exact ⟨h3, h4.to hch (fun b _ ⟨l, x, _, h5, h6⟩ => .inr ⟨l, x, h5, h6⟩) (fun b hlt hb => hlow b hlt hb)⟩
 obtain ⟨H2, _, _⟩ := H.unframe H'
 obtain ⟨v, h5, h6⟩ := k _ _ H2
 exact ⟨v, h5, h6⟩
end
section
variable {P : Program} {c : Ctx} {sL hP : List (Nat × Ent)}
theorem end_d {h' : List (Nat × Ent)} (hs : Sub h' hP) (hdf : c.df = [] := by exact rfl) : aN c (postD c h') (⟨sL, hP⟩ : St) := fun a w ⟨F, H0⟩ => by
 have H : HoldsF c (⟨sL, h'⟩ : St) F a w := H0.less (fun _ _ h => h) fun t x hx => hs.lk hx
 exact ⟨.inl rfl, H.df.trans hdf, F, H.toHeapF⟩
theorem leaves3 {fn : Func} {R : PV → Prop} {f : FuncId} {caps : List Value} {u u' : FrameMode} {h0 h' : List (Nat × Ent)} {r0 r1 r2 : ResultVar} {p0 p1 p2 : PV} (K : List Nat) {a : Act} {w : World} {F : Nat → BS} (H : HoldsF c (⟨sL, hP⟩ : St) F a w) (hdf : c.df = [{ target := .fn (.func f) caps.toArray, args := #[] }]) (hc : ∀ args w, (callFunc f args).run P w = .ok (.enter f args) w) (hu : u ≠ .run) (hA : AFD P f caps u u' h0 h') (hh0 : h0 = minusK K hP) (hs : settle u' = .returning) (hdd : c.dr → False) (hr : fn.results = #[r0, r1, r2]) (g0 : ResR P sL (h' ++ onlyK K hP) r0 p0) (g1 : ResR P sL (h' ++ onlyK K hP) r1 p1) (g2 : ResR P sL (h' ++ onlyK K hP) r2 p2) (hR : R (.tup [p0, p1, p2])) (hN : ∀ b, ¬ c.N0 b) : Leaves P fn a.tmps (RetAF c R) a.defers u w :=
 leaves_of H hdf hc hu hA hh0 hs hdd fun F' w' H2 => by
  obtain ⟨V0, e0, s0⟩ := g0.run H2
  obtain ⟨V1, e1, s1⟩ := g1.run H2
  obtain ⟨V2, e2, s2⟩ := g2.run H2
  refine ⟨_, results3 hr e0 e1 e2, _, _, fun _ => False, rfl, hR, H2.ext.ext (fun b _ => hN b), .shr ((shr3 s0 s1 s2).anti fun b _ hb => ?_) (fun _ h => h), fun _ h => h.elim, H2.dw⟩
  rcases hb with hb | hb
  · exact .inl hb
  · exact hb.elim
theorem aP_leaves3 {fn : Func} {R : PV → Prop} {Q : Exit → Act → World → Prop} {f : FuncId} {caps : List Value} {ch : List PanicEntry} {u' : FrameMode} {h0 h' : List (Nat × Ent)} {r0 r1 r2 : ResultVar} {p0 p1 p2 : PV} (K : List Nat) (hr : fn.results = #[r0, r1, r2]) (hA : AFD P f caps (.panicking ch) u' h0 h') (hc : ∀ args w, (callFunc f args).run P w = .ok (.enter f args) w) (g0 : ResR P sL (h' ++ onlyK K hP) r0 p0) (g1 : ResR P sL (h' ++ onlyK K hP) r1 p1) (g2 : ResR P sL (h' ++ onlyK K hP) r2 p2) (hR : R (.tup [p0, p1, p2])) (hQ : ∀ (a : Act) w, Leaves P fn a.tmps (RetAF c R) a.defers (.panicking ch) w → Q (.panic ch) a w := by exact fun _ _ h => h) (hdf : c.df = [{ target := .fn (.func f) caps.toArray, args := #[] }] := by exact rfl) (hh0 : h0 = minusK K hP := by exact rfl) (hs : settle u' = .returning := by exact rfl) (hdd : c.dr → False := by exact id) (hN : ∀ b, ¬ c.N0 b := by intro _ h; exact h) : aP c Q ch (⟨sL, hP⟩ : St) := fun a w F H =>
 hQ a w (leaves3 K H hdf hc (by intro h; cases h) hA hh0 hs hdd hr g0 g1 g2 hR hN)
theorem aR_leaves3 {fn : Func} {R : PV → Prop} {Q : Exit → Act → World → Prop} {f : FuncId} {caps : List Value} {u' : FrameMode} {h0 h' : List (Nat × Ent)} {r0 r1 r2 : ResultVar} {p0 p1 p2 : PV} (K : List Nat) (hr : fn.results = #[r0, r1, r2]) (hA : AFD P f caps .returning u' h0 h') (hc : ∀ args w, (callFunc f args).run P w = .ok (.enter f args) w) (g0 : ResR P sL (h' ++ onlyK K hP) r0 p0) (g1 : ResR P sL (h' ++ onlyK K hP) r1 p1) (g2 : ResR P sL (h' ++ onlyK K hP) r2 p2) (hR : R (.tup [p0, p1, p2])) (hQ : ∀ (a : Act) w, Leaves P fn a.tmps (RetAF c R) a.defers .returning w → Q .ret a w := by exact fun _ _ h => h) (hdf : c.df = [{ target := .fn (.func f) caps.toArray, args := #[] }] := by exact rfl) (hh0 : h0 = minusK K hP := by exact rfl) (hs : settle u' = .returning := by exact rfl) (hdd : c.dr → False := by exact id) (hN : ∀ b, ¬ c.N0 b := by intro _ h; exact h) : aR c Q (⟨sL, hP⟩ : St) := fun a w ⟨F, H⟩ =>
 hQ a w (leaves3 K H hdf hc (by intro h; cases h) hA hh0 hs hdd hr g0 g1 g2 hR hN)
end
section
variable {P : Program} {c : Ctx} {ops : Array Oper} {Q : Exit → Act → World → Prop} {rest : List Oper} {sL hP : List (Nat × Ent)} {o : Oper}
theorem aL_cpSE {dd : Prop} {f : Nat} {ar : List (Nat × Ent)} {R : Value → PV → List (Nat × Ent) → Prop} {Rp : List PanicEntry → List (Nat × Ent) → Prop} (K : List Nat) (d : Nat) (hw : wants ops sL o = some true) (hd : o.dst = some d) (hn : d < c.nt)
 (hE : ∀ a w F, HoldsF c (⟨sL, hP⟩ : St) F a w → (execOp a.eval o).run P w = .ok (.enter f (ar.map (·.2.1)).toArray) w ∧ ∀ (i : Nat) (x : Value) (q : PV), ((ar.map (·.2)).map (·.1))[i]? = some x → ((ar.map (·.2)).map (·.2))[i]? = some q → Shr (mof c hP F) w x q)
 (hA : AFp dd P f ar (minusK K hP) R Rp) (hio : inOrder 0 ar = true) (hdd : c.dr → dd)
 (k : ∀ v p h, R v p h → aL P c ops Q rest ⟨put d (v, p) sL, h ++ onlyK K hP⟩) (kp : ∀ ch h, Rp ch h → aP c Q ch ⟨sL, h ++ onlyK K hP⟩) : aL P c ops Q (o :: rest) (⟨sL, hP⟩ : St) :=
 aL_run hw fun a w F H => by
  obtain ⟨hr, h2⟩ := hE a w F H
  have hfr := H.frame K
  have hin : ∀ b, mof ⟨w, fun b => c.M0 b ∨ ∃ l x, K.elem l = true ∧ lk hP l = some x ∧ F l b, nK K hP F, c.nt, c.dr, c.df⟩ (minusK K hP) F b → mof c hP F b := by
   rintro b ((h | ⟨l, x, _, h1, h2⟩) | ⟨l, x, h1, h2⟩)
   · exact .inl h
   · exact .inr ⟨l, x, h1, h2⟩
   · exact .inr ⟨l, x, (lk_minusK.1 h1).2, h2⟩
  have hcall := hA (fun b => c.M0 b ∨ ∃ l x, K.elem l = true ∧ lk hP l = some x ∧ F l b) (nK K hP F) w F
   ⟨hfr.tr, hfr.lo, hfr.dj, hfr.m0.up hdd, hfr.ext, fun _ => Nat.le_refl _⟩
   (fun i x hi => by
     obtain ⟨_, h3⟩ := inOrder_lk' ar 0 i x hio hi
     rw [Nat.sub_zero] at h3
     exact (h2 i x.1 x.2 (by rw [List.getElem?_map, List.getElem?_map, h3]; rfl) (by rw [List.getElem?_map, List.getElem?_map, h3]; rfl)).anti fun b _ hb => hin b hb)
  unfold Oper.wp
  rw [hr, Oper.upon_enter]
  refine hcall.mono fun e w' he => ?_
  rcases he with ⟨v, p, h, F', e1, e2, e3, e4⟩ | ⟨ch, h, F', e1, e2, e3⟩
  · subst e1
    have hch : Chg (nK K hP F) w w' := e3.ext
    have hlow : ∀ b, b < w.heap.size → mof ⟨w, fun b => c.M0 b ∨ ∃ l x, K.elem l = true ∧ lk hP l = some x ∧ F l b, nK K hP F, 0, dd, []⟩ h F' b → mof c hP F b := by
     rintro b hlt ((h1 | ⟨l, x, _, h1, h2⟩) | ⟨l, x, h1, h2⟩)
     · exact .inl h1
     · exact .inr ⟨l, x, h1, h2⟩
     · rcases e3.lo l x b h1 h2 with h3 | ⟨l', x', _, h3, h4⟩
       · exact absurd hlt (by simp only at h3; omega)
       · exact .inr ⟨l', x', h3, h4⟩
    have H' : HoldsF ⟨w, fun b => c.M0 b ∨ ∃ l x, K.elem l = true ∧ lk hP l = some x ∧ F l b, nK K hP F, c.nt, c.dr, c.df⟩ (⟨put d (v, p) sL, h⟩ : St) F' (a.put o.dst v) w' := by
     refine ⟨e3.nt rfl rfl rfl hdd hfr.m0, fun t u q ht => ?_, by rw [hd]; simpa [Act.put] using H.size, by rw [hd]; exact H.df⟩
     rw [hd]
     rcases lk_put ht with ⟨rfl, e⟩ | ⟨hne, e⟩
     · cases e
       refine ⟨?_, e4⟩
       simp [Act.put, H.size, hn]
     · obtain ⟨h3, h4⟩ := H.sl t u q e
       refine ⟨?_, h4.to hch (fun b _ ⟨l, x, _, h5, h6⟩ => .inr ⟨l, x, h5, h6⟩) (fun b hlt hb => hlow b hlt hb)⟩
       simpa [Act.put, Array.getElem?_setIfInBounds, hne] using h3
    obtain ⟨H2, _, _⟩ := H.unframe H'
    exact k v p h e2 _ _ ⟨_, H2⟩
  · subst e1
    have hch : Chg (nK K hP F) w w' := e3.ext
    have hlow : ∀ b, b < w.heap.size → mof ⟨w, fun b => c.M0 b ∨ ∃ l x, K.elem l = true ∧ lk hP l = some x ∧ F l b, nK K hP F, 0, dd, []⟩ h F' b → mof c hP F b := by
     rintro b hlt ((h1 | ⟨l, x, _, h1, h2⟩) | ⟨l, x, h1, h2⟩)
     · exact .inl h1
     · exact .inr ⟨l, x, h1, h2⟩
     · rcases e3.lo l x b h1 h2 with h3 | ⟨l', x', _, h3, h4⟩
       · exact absurd hlt (by simp only at h3; omega)
       · exact .inr ⟨l', x', h3, h4⟩
    have H' : HoldsF ⟨w, fun b => c.M0 b ∨ ∃ l x, K.elem l = true ∧ lk hP l = some x ∧ F l b, nK K hP F, c.nt, c.dr, c.df⟩ (⟨sL, h⟩ : St) F' a w' := by
     refine ⟨e3.nt rfl rfl rfl hdd hfr.m0, fun t u q e => ?_, H.size, H.df⟩
     obtain ⟨h3, h4⟩ := H.sl t u q e
     exact ⟨h3, h4.to hch (fun b _ ⟨l, x, _, h5, h6⟩ => .inr ⟨l, x, h5, h6⟩) (fun b hlt hb => hlow b hlt hb)⟩
    obtain ⟨H2, _, _⟩ := H.unframe H'
    exact kp ch h e2 _ _ _ H2
theorem aL_cpS {dd : Prop} {f : Nat} {ar h0 : List (Nat × Ent)} {R : Value → PV → List (Nat × Ent) → Prop} {Rp : List PanicEntry → List (Nat × Ent) → Prop} {xs : Array Operand} {ats : Array TypeId} (K : List Nat) (d : Nat) (hc : ∀ args w, (callFunc f args).run P w = .ok (.enter f args) w) (hA : AFp dd P f ar h0 R Rp)
 (k : ∀ v p h, R v p h → aL P c ops Q rest ⟨put d (v, p) sL, h ++ onlyK K hP⟩) (kp : ∀ ch h, Rp ch h → aP c Q ch ⟨sL, h ++ onlyK K hP⟩) (hw : wants ops sL o = some true := by exact rfl) (hd : o.dst = some d := by exact rfl) (hn : d < c.nt := by exact Nat.le_of_ble_eq_true rfl)
 (ho : o.op = .call { callee := .value (.func f), args := xs, argTypes := ats } := by exact rfl) (hx : evL sL xs.toList = some (ar.map (·.2)) := by exact rfl) (hh0 : h0 = minusK K hP := by exact rfl) (hio : inOrder 0 ar = true := by exact rfl) (hdd : c.dr → dd := by first | exact id | exact fun h => h.elim | exact fun _ => trivial) : aL P c ops Q (o :: rest) (⟨sL, hP⟩ : St) := by
 subst hh0
 refine aL_cpSE K d hw hd hn (fun a w F H => ?_) hA hio hdd k kp
 obtain ⟨h1, h2⟩ := evL_spec H.rd hx
 refine ⟨?_, h2⟩
 have hargs : xs.map a.eval = (ar.map (·.2.1)).toArray := by
  rw [show ar.map (·.2.1) = (ar.map (·.2)).map (·.1) by rw [List.map_map]; rfl, ← h1, ← Array.toList_map, Array.toArray_toList]
 simp [execOp, ho, resolve, Act.eval, Deferred.ofValue, invoke, hargs, hc]
theorem q_tass {vs : List Value} {x : Operand} {q : PV} {t xt : TypeId} (hu : (match P.underlying t with | some (.interface _) => false | some _ => true | none => false) = true) (ho : o.op = .typeAssert x xt t true := by exact rfl) (hx : ev sL x = some (.iface t (.agg vs.toArray), q) := by exact rfl) : YE P (⟨sL, hP⟩ : St) o (· = .tuple #[.agg vs.toArray, .bool true]) (.tup [.agg (vs.map .val), .val (.bool true)]) :=
 .exact fun M F a w H => by
  have e1 := (H.ev hx).1
  refine ⟨.tup [.agg vs.toArray, .bool true] _ rfl fun i v p hv hp => ?_, ?_⟩
  · match i with
    | 0 =>
      cases hv; cases hp
      exact .agg _ _ (by simp) fun j u r hu hr => by
       rw [List.getElem?_map, hu] at hr
       simp at hr; subst hr; exact .val _
    | 1 => cases hv; cases hp; exact .val _
    | i + 2 => simp at hv
  · simp only [execOp, ho, e1]
    unfold Instr.typeAssert
    cases h : P.underlying t with
    | none => rw [h] at hu; cases hu
    | some d => cases d <;> simp_all [run_underlying h]
end
end Go.En
namespace Go.Proofs.YtbfilfhgcihhoaaGreatDoor
open Go.RowKit Go.Cb Go.En
set_option linter.all false
set_option maxRecDepth 100000
theorem tAgg104_PtY : AggT Tryz.prog 104 5 = true := by kernel_rfl
theorem tAgg24_PtY : AggT Tryz.prog 24 3 = true := by kernel_rfl
theorem tAgg71_PtY : AggT Tryz.prog 71 5 = true := by kernel_rfl
theorem tFl104_0_PtY : FldT Tryz.prog 104 0 0 = true := by kernel_rfl
theorem tFl108_1_PtY : FldT Tryz.prog 108 1 1 = true := by kernel_rfl
theorem tFl71_0_PtY : FldT Tryz.prog 71 0 0 = true := by kernel_rfl
theorem tNa3_PtY : NoAgg Tryz.prog 3 = true := by kernel_rfl
theorem tNa4_PtY : NoAgg Tryz.prog 4 = true := by kernel_rfl
theorem tSl67_PtY : SlT Tryz.prog 67 71 5 = true := by kernel_rfl
theorem tSq104_PtY : stInfo Tryz.prog 104 = some ((.agg #[(.int .i64 0), (.string ByteArray.empty), (.int .i64 0), (.int .i64 0), (.int .i64 0)]), [(0, 5)]) := by kernel_rfl
theorem tSq71_PtY : stInfo Tryz.prog 71 = some ((.agg #[(.int .i64 0), (.string ByteArray.empty), (.int .i64 0), (.int .i64 0), (.int .i64 0)]), [(0, 1), (1, 1), (2, 1), (3, 2)]) := by kernel_rfl
theorem tSt108_PtY : stInfo Tryz.prog 108 = some ((.agg #[(.slice none 0 0), (.int .i64 0)]), ([0, 1] : List Nat).map fun o => (o, 1)) := by kernel_rfl
theorem tSt24_PtY : stInfo Tryz.prog 24 = some ((.agg #[(.int .i64 0), (.string ByteArray.empty), (.slice none 0 0)]), ([0, 1, 2] : List Nat).map fun o => (o, 1)) := by kernel_rfl
theorem tSz4_PtY : (Tryz.prog.info? 4).map (·.size) = some 1 := by kernel_rfl
theorem tZr104_PtY : ZeroT Tryz.prog 104 (.agg #[(.int .i64 0), (.string ByteArray.empty), (.int .i64 0), (.int .i64 0), (.int .i64 0)]) := by unfold ZeroT; kernel_rfl
theorem tZr24_PtY : ZeroT Tryz.prog 24 (.agg #[(.int .i64 0), (.string ByteArray.empty), (.slice none 0 0)]) := by unfold ZeroT; kernel_rfl
theorem tZr4_PtY : ZeroT Tryz.prog 4 (.bool false) := by unfold ZeroT; kernel_rfl
theorem tZr71_PtY : ZeroT Tryz.prog 71 (.agg #[(.int .i64 0), (.string ByteArray.empty), (.int .i64 0), (.int .i64 0), (.int .i64 0)]) := by unfold ZeroT; kernel_rfl
theorem tTree_e (b : Nat) (L : List Tk) (hL : L.length ≤ 10000) (hT : ∀ x ∈ L, TkOk x) : ∀ N f, f ≤ N → TreeC b L f := fun N => by
 induction N with
 | zero => intro f hf m _ _ h; omega
 | succ N ih =>
   intro f hf m hs he hm
   obtain ⟨t0, m1, rfl⟩ := he.cons
   obtain ⟨g, rfl⟩ : ∃ g, f = g + 1 := ⟨f - 1, by omega⟩
   exact tTree_step b L hL hT g (fun f' h => ih f' (by omega)) t0 m1 hs he hm _ rfl
def BxH (b2 b3 b4 : Nat) (A B : List PV) (q : PV) : List (Nat × Ent) := [(1002, hdr1 b2, .own 24 3 1 A), (1003, hdr1 b3, .own 71 5 1 B), (1004, hdr1 b4, .own 4 1 1 [q])]
def caught (t : Tk) : FrameMode := .panicking [{ v := .iface 104 (.agg (tkV t).toArray), recovered := true }]
theorem tRead1_ret (b2 b3 b4 : Nat) (A B : List PV) (q : PV) : AFD Tryz.prog 60 [ptr1 b2, ptr1 b3, ptr1 b4] .returning .returning (BxH b2 b3 b4 A B q) (BxH b2 b3 b4 A B q) := by
 unfold BxH
 refine AFD.of_body .nilIface 6 3 20 (Tryz.func60) rfl rfl (Tryz.results60) rfl rfl rfl rfl rfl rfl (by decide) (by decide) (Nat.le_of_ble_eq_true rfl) (fun c₀ cs hu => by simp [recoverD, hu]) ?_
 intro w0 M0 N0
 refine nav ?_
 refine nav ?_
 (refine aC_region ?_ <;> refine xL 7 q_move ?_ <;> refine xL 8 (q_ifnil (by kernel_rfl)) ?_ <;> refine aL_end (nav ?_) <;> try dsimp only)
 refine cCf ?_
 refine nav ?_
 exact end_d ⟨rfl, rfl, rfl, trivial⟩
def z3 : List PV := [.val (.int .i64 0), .val (.string ByteArray.empty), .val (.slice none 0 0)]
theorem tRead1_pan (b2 b3 b4 : Nat) (t : Tk) (a1 a2 a3 k1 k2 k3 k4 k5 q : PV) : AFD Tryz.prog 60 [ptr1 b2, ptr1 b3, ptr1 b4] (.panicking (panT t)) (caught t) (BxH b2 b3 b4 [a1, a2, a3] [k1, k2, k3, k4, k5] q) (BxH b2 b3 b4 z3 (cTk t) (.val (.bool false))) := by
 unfold BxH
 refine AFD.of_body (.iface 104 (.agg (tkV t).toArray)) 6 3 20 (Tryz.func60) rfl rfl (Tryz.results60) rfl rfl rfl rfl rfl rfl (by decide) (by decide) (Nat.le_of_ble_eq_true rfl) (fun c₀ cs hu => by simp [recoverD, hu, panT, caught]) ?_
 intro w0 M0 N0
 refine nav ?_
 refine nav ?_
 (refine aC_region ?_ <;> refine xL 7 q_move ?_ <;> refine xL 8 (q_ifsome (by kernel_rfl)) ?_ <;> refine aL_end (nav ?_) <;> try dsimp only)
 refine cCt ?_
 refine nav ?_
 (refine aC_region ?_ <;> refine xL 10 q_move ?_ <;> refine xL 11 (q_tass (by kernel_rfl)) ?_ <;> refine xL 9 q_move ?_ <;> refine xL 12 q_extract ?_ <;> refine xL 13 q_extract ?_ <;> refine s_alloc [(.int .i64 0), (.string ByteArray.empty), (.int .i64 0), (.int .i64 0), (.int .i64 0)] 5 4 tZr104_PtY fun h4 => ?_ <;> refine s_sta 4 tAgg104_PtY ?_ <;> refine xL 5 q_assign ?_ <;> refine aL_end (nav ?_) <;> try dsimp only)
 (refine aC_region ?_ <;> refine xL 14 q_move ?_ <;> refine xL 15 q_not ?_ <;> refine aL_end (nav ?_) <;> try dsimp only)
 refine cCf ?_
 refine nav ?_
 (refine aC_draw (fun i => ([] : List Nat).elem i) [4] (by kernel_rfl) ?_ <;> refine xD 0 17 rfl (q_build tSt24_PtY) ?_ <;> refine xD 1 18 rfl (q_fldo 4 tFl104_0_PtY) ?_ <;> (refine yD 2 19 rfl (q_ldao 4 tAgg71_PtY) fun v19 hv19 => ?_; cases hv19) <;> (refine aD_one 3 (by kernel_rfl) ?_) <;> (refine aW_run rfl fun w9 M9 N9 DQ back => ?_) <;> refine s_sta 1002 tAgg24_PtY ?_ <;> refine aL_end (back _ (nrm ?_)) <;> (refine aD_one 4 (by kernel_rfl) ?_) <;> (refine aW_run rfl fun w9 M9 N9 DQ back => ?_) <;> refine s_sta 1003 tAgg71_PtY ?_ <;> refine aL_end (back _ (nrm ?_)) <;> (refine aD_one 5 (by kernel_rfl) ?_) <;> (refine aW_run rfl fun w9 M9 N9 DQ back => ?_) <;> refine s_st 1004 tNa4_PtY tSz4_PtY ?_ <;> refine aL_end (back _ (nrm ?_)) <;> refine aD_end (by kernel_rfl) (nav ?_) <;> try dsimp only)
 exact end_d ⟨rfl, rfl, rfl, trivial⟩
def rdR (L : List Tk) : Option Nd × Tk := match rdT (L.length + 1) L with
 | .err t => (none, t)
 | .ok t m => if (m.headD tk0).kind ≠ 5 then (none, m.headD tk0) else (some t, tk0)
theorem rdR_err {L : List Tk} {t : Tk} (h : rdT (L.length + 1) L = .err t) : rdR L = (none, t) := by unfold rdR; rw [h]
theorem rdR_no {L : List Tk} {t : Nd} {x : Tk} {mt : List Tk} (h : rdT (L.length + 1) L = .ok t (x :: mt)) (hk : x.kind ≠ 5) : rdR L = (none, x) := by unfold rdR; rw [h]; exact if_pos hk
theorem rdR_yes {L : List Tk} {t : Nd} {x : Tk} {mt : List Tk} (h : rdT (L.length + 1) L = .ok t (x :: mt)) (hk : x.kind = 5) : rdR L = (some t, tk0) := by unfold rdR; rw [h]; exact if_neg (fun h => h hk)
def rdO : Option Nd → PV
 | none => .agg z3
 | some t => pTr t
def rdP (L : List Tk) : PV := .tup [rdO (rdR L).1, .agg (cTk (rdR L).2), pBool (rdR L).1.isSome]
set_option maxHeartbeats 4000000 in
theorem tRead_e (L : List Tk) (hL : L.length ≤ 10000) (hT : ∀ x ∈ L, TkOk x) (he : EndL L) : AF Tryz.prog 38 [pTks L] (· = rdP L) := by
 have hT0 : ∀ b, AFp False Tryz.prog 61 [(0, ptr1 b, .val (ptr1 b))] (RtH b L 0) (fun _ q h => ∃ t m2, rdT (L.length + 1) L = .ok t m2 ∧ q = pTr t ∧ h = RtH b L (L.length - m2.length)) (TreeP b L (L.length + 1) L) := fun b => by
  have := tTree_e b L hL hT _ (L.length + 1) (Nat.le_refl _) L (List.suffix_refl L) he (Nat.lt_succ_self _)
  rw [Nat.sub_self] at this
  exact this
 refine AF.of_bodyD 32 Tryz.func38 rfl Tryz.ntmps38 (Nat.le_of_ble_eq_true rfl) ?_
 intro w0 M0 vs hl hv
 obtain ⟨v0, rfl⟩ := len1 hl
 clear hl hv
 refine nav ?_
 (refine aC_region ?_ <;> refine s_alloc1 [.int .i64 0, .string ByteArray.empty, .slice none 0 0] 3 2 tZr24_PtY fun b2 => ?_ <;> refine s_alloc1 [.int .i64 0, .string ByteArray.empty, .int .i64 0, .int .i64 0, .int .i64 0] 5 3 tZr71_PtY fun b3 => ?_ <;> refine s_alloc1 [.bool false] 1 4 tZr4_PtY fun b4 => ?_ <;> refine aL_end (nav ?_) <;> try dsimp only)
 refine aC_ent (relabel (l := 2) 1002 rfl rfl) fun _ => ?_
 refine aC_ent (relabel (l := 3) 1003 rfl rfl) fun _ => ?_
 refine aC_ent (relabel (l := 4) 1004 rfl rfl) fun _ => ?_
 (refine aC_region ?_ <;> refine xL 6 q_mkfn ?_ <;> refine s_defer ?_ <;> refine aL_end (nav ?_) <;> try dsimp only)
 (refine aC_region ?_ <;> refine xL 7 q_move ?_ <;> refine xL 8 (q_build tSt108_PtY) ?_ <;> refine s_boxa1 9 2 fun b => ?_ <;> refine xL 5 q_assign ?_ <;> refine aL_end (nav ?_) <;> try dsimp only)
 refine aC_ent (relabel (l := 9) 1000 rfl rfl) fun _ => ?_
 (refine aC_region ?_ <;> refine xL 10 q_move ?_ <;> (refine aL_heap [(1002, hdr1 b2, .own 24 3 1 z3), (1003, hdr1 b3, .own 71 5 1 (cTk tk0)), (1004, hdr1 b4, .own 4 1 1 [.val (.bool false)]), (1000, hdr1 b, .own 108 2 1 [pTks L, pInt ((0 : Nat) : Int)])] ⟨rfl, rfl, rfl, rfl, trivial⟩ ?_; refine aL_cpS [1002, 1003, 1004] 11 (Tryz.call61) (hT0 b) (fun v11 p11 h11 hR11 => ?_) (fun ch h hRp => by (obtain ⟨t, hp1, rfl, j, rfl⟩ := hRp; exact aP_leaves3 (R := (· = rdP L)) [1000] (Tryz.results38) (tRead1_pan b2 b3 b4 t _ _ _ _ _ _ _ _ _) (Tryz.call60) (.cell (k := 3) 1002 (by kernel_rfl) rfl rfl (Nat.le_of_ble_eq_true rfl) (by decide) rfl) (.cell (k := 5) 1003 (by kernel_rfl) rfl rfl (Nat.le_of_ble_eq_true rfl) (by decide) rfl) (.cell1 1004 (by kernel_rfl) rfl rfl rfl rfl) (by unfold rdP; rw [rdR_err hp1]; rfl))); obtain ⟨t, m2, hp1, rfl, rfl⟩ := hR11; dsimp only [RtH]) <;> (refine s_sta 1002 tAgg24_PtY ?_; refine aL_ent (recast (l := 1002) (p' := .own 24 3 1 [pInt t.op, pStr t.act, pTrs t.l]) rfl rfl) fun _ => ?_) <;> refine aL_end (nav ?_) <;> try dsimp only)
 have hrd := (rd_ok (L.length + 1)).1 _ _ _ he hp1
 obtain ⟨x, mt, rfl⟩ := hrd.endl.cons
 obtain ⟨hdi, hml⟩ := suf_drop hrd.suf
 have hx := get_drop hdi
 have hil : L.length - (x :: mt).length < L.length := lt_of_get hx
 have hk0 : (cTks L)[(L.length - (x :: mt).length) * 5 + 0]? = some (pInt x.kind) := tks_get (j := 0) hx (by decide)
 have e1 : ((cTks L).drop ((L.length - (x :: mt).length) * 5)).take 5 = [pInt x.kind, pB x.text, pInt x.n, pInt x.ln, pInt x.col] := tks_drop hx
 have e2 : (L.length - (x :: mt).length) * 5 + 5 ≤ (cTks L).length := tks_fit hx
 (refine aC_region ?_ <;> refine xL 12 q_move ?_ <;> refine xL 13 q_move ?_ <;> refine xL 14 (q_nilo 1000) ?_ <;> refine xL 15 (q_fldo 1000 tFl108_1_PtY) ?_ <;> (refine yL 16 (q_ldo 1000 tNa3_PtY) fun v16 hv16 => ?_; cases hv16) <;> refine xL 17 (q_idxN tSl67_PtY) ?_ <;> refine xL 18 (q_fld tFl71_0_PtY) ?_ <;> (refine yL 19 (q_ld tNa3_PtY) fun v19 hv19 => ?_; cases hv19) <;> refine xL 20 q_neq ?_ <;> refine aL_end (nav ?_) <;> try dsimp only)
 (first | refine cCd ?_ ?_ | refine cC ?_ ?_) <;> intro hb20
 · first
   | exact Bool.noConfusion hb20
   | (
    refine nav ?_
    (refine aC_region ?_ <;> refine xL 21 q_move ?_ <;> refine xL 22 q_move ?_ <;> refine xL 23 (q_nilo 1000) ?_ <;> refine xL 24 (q_fldo 1000 tFl108_1_PtY) ?_ <;> (refine yL 25 (q_ldo 1000 tNa3_PtY) fun v25 hv25 => ?_; cases hv25) <;> refine xL 26 (q_idxN tSl67_PtY) ?_ <;> (refine yL 27 (q_lda tAgg71_PtY) fun v27 hv27 => ?_; cases hv27) <;> (refine yL 28 (q_buildM tSq104_PtY) fun v28 hv28 => ?_; cases hv28) <;> refine xL 29 (q_mkif (by kernel_rfl)) ?_ <;> (refine aL_agv (d := 28) (tkV x) rfl (fun h28 => ?_); subst h28; refine aL_heap [(1002, hdr1 b2, .own 24 3 1 [pInt t.op, pStr t.act, pTrs t.l]), (1003, hdr1 b3, .own 71 5 1 (cTk tk0)), (1004, hdr1 b4, .own 4 1 1 [.val (.bool false)]), (1000, _, _)] ⟨rfl, rfl, rfl, rfl, trivial⟩ ?_; refine aL_panic ?_; exact aP_leaves3 (R := (· = rdP L)) [1000] (Tryz.results38) (tRead1_pan b2 b3 b4 x _ _ _ _ _ _ _ _ _) (Tryz.call60) (.cell (k := 3) 1002 (by kernel_rfl) rfl rfl (Nat.le_of_ble_eq_true rfl) (by decide) rfl) (.cell (k := 5) 1003 (by kernel_rfl) rfl rfl (Nat.le_of_ble_eq_true rfl) (by decide) rfl) (.cell1 1004 (by kernel_rfl) rfl rfl rfl rfl) (by unfold rdP; rw [rdR_no hp1 hb20]; rfl)) <;> refine aL_end (nav ?_) <;> try dsimp only))
 · first
   | exact Bool.noConfusion hb20
   | (
    refine nav ?_
    (refine aC_region ?_ <;> (refine yL 30 (q_ldao 1002 tAgg24_PtY) fun v30 hv30 => ?_; cases hv30) <;> (refine yL 31 (q_buildM tSq71_PtY) fun v31 hv31 => ?_; cases hv31) <;> refine s_sta 1002 tAgg24_PtY ?_ <;> refine s_sta 1003 tAgg71_PtY ?_ <;> (refine s_st 1004 tNa4_PtY tSz4_PtY ?_; refine aL_heap [(1002, hdr1 b2, .own 24 3 1 [pInt t.op, pStr t.act, pTrs t.l]), (1003, hdr1 b3, .own 71 5 1 (cTk tk0)), (1004, hdr1 b4, .own 4 1 1 [.val (.bool true)]), (1000, _, _)] ⟨rfl, rfl, rfl, rfl, trivial⟩ ?_) <;> refine aL_end (nav ?_) <;> try dsimp only)
    refine aR_leaves3 [1000] (Tryz.results38) (tRead1_ret b2 b3 b4 _ _ _) (Tryz.call60) (.cell (k := 3) 1002 (by kernel_rfl) rfl rfl (Nat.le_of_ble_eq_true rfl) (by decide) rfl) (.cell (k := 5) 1003 (by kernel_rfl) rfl rfl (Nat.le_of_ble_eq_true rfl) (by decide) rfl) (.cell1 1004 (by kernel_rfl) rfl rfl rfl rfl) ?_
    unfold rdP
    rw [rdR_yes hp1 (by omega)]
    rfl)
theorem tAgg24_PtZ : AggT Tryz.prog 24 3 = true := by kernel_rfl
theorem tAgg33_PtZ : AggT Tryz.prog 33 2 = true := by kernel_rfl
theorem tAgg71_PtZ : AggT Tryz.prog 71 5 = true := by kernel_rfl
theorem tFl71_0_PtZ : FldT Tryz.prog 71 0 0 = true := by kernel_rfl
theorem tFl71_3_PtZ : FldT Tryz.prog 71 3 3 = true := by kernel_rfl
theorem tNa3_PtZ : NoAgg Tryz.prog 3 = true := by kernel_rfl
theorem tSt24_PtZ : stInfo Tryz.prog 24 = some ((.agg #[(.int .i64 0), (.string ByteArray.empty), (.slice none 0 0)]), ([0, 1, 2] : List Nat).map fun o => (o, 1)) := by kernel_rfl
theorem tSt33_PtZ : stInfo Tryz.prog 33 = some ((.agg #[(.int .i64 0), (.int .i64 0)]), ([0, 1] : List Nat).map fun o => (o, 1)) := by kernel_rfl
theorem tZr24_PtZ : ZeroT Tryz.prog 24 (.agg #[(.int .i64 0), (.string ByteArray.empty), (.slice none 0 0)]) := by unfold ZeroT; kernel_rfl
theorem tZr33_PtZ : ZeroT Tryz.prog 33 (.agg #[(.int .i64 0), (.int .i64 0)]) := by unfold ZeroT; kernel_rfl
theorem tZr71_PtZ : ZeroT Tryz.prog 71 (.agg #[(.int .i64 0), (.string ByteArray.empty), (.int .i64 0), (.int .i64 0), (.int .i64 0)]) := by unfold ZeroT; kernel_rfl
def tokR (l : List UInt8) : List Tk × (Int × Int) × Int := if 16384 < l.length then ([], (0, 0), 5) else toksB l (1, 1) []
theorem tokP_eq (l : List UInt8) : tokP l = tk3 (tokR l) := by unfold tokP tokR; split <;> rfl
def parP (r : Nd × (Int × Int) × Int) : PV := .tup [pTr r.1, .agg [pInt r.2.1.1, pInt r.2.1.2], pInt r.2.2]
theorem tokR_ok {l : List UInt8} (h : (tokR l).2.2 = 0) : EndL (tokR l).1 ∧ (tokR l).1.length ≤ 4001 ∧ ∀ x ∈ (tokR l).1, TkOk x := by
 unfold tokR at h ⊢
 split at h
 · exact absurd h (by decide)
 · rename_i hl
   rw [if_neg hl]
   exact toksF_ok (l.length + 1) l (1, 1) [] (Nat.lt_succ_self _) (by omega) (Nat.zero_le _) (fun x hx => by cases hx) h
theorem par_tok {l : List UInt8} (h : (tokR l).2.2 ≠ 0) : parB l = (nd0, (tokR l).2) := by
 unfold parB
 unfold tokR at h ⊢
 split
 · rfl
 · rename_i hl
   rw [if_neg hl] at h
   rw [if_pos h]
theorem par_no {l : List UInt8} {tk : Tk} (h : (tokR l).2.2 = 0) (hr : rdR (tokR l).1 = (none, tk)) : parB l = (nd0, (tk.ln, tk.col), if tk.kind = 5 then 4 else 3) := by
 unfold parB
 unfold tokR at h hr
 split at h
 · exact absurd h (by decide)
 · rename_i hl
   rw [if_neg hl] at hr ⊢
   rw [if_neg (fun h' => h' h)]
   unfold rdR at hr
   cases hx : rdT ((toksB l (1, 1) []).1.length + 1) (toksB l (1, 1) []).1 with
   | err t => rw [hx] at hr; cases hr; rfl
   | ok t m =>
     rw [hx] at hr
     simp only at hr ⊢
     by_cases h5 : (m.headD tk0).kind ≠ 5
     · rw [if_pos h5] at hr ⊢
       cases hr
       rw [if_neg h5]
     · rw [if_neg h5] at hr; cases hr
theorem par_yes {l : List UInt8} {t : Nd} {tk : Tk} (h : (tokR l).2.2 = 0) (hr : rdR (tokR l).1 = (some t, tk)) : parB l = (if valT t then (t, (0, 0), 0) else (nd0, (0, 0), 5)) ∧ ∃ m, rdT ((tokR l).1.length + 1) (tokR l).1 = .ok t m := by
 unfold parB
 unfold tokR at h hr ⊢
 split at h
 · exact absurd h (by decide)
 · rename_i hl
   rw [if_neg hl] at hr ⊢
   rw [if_neg (fun h' => h' h), if_neg hl]
   unfold rdR at hr
   cases hx : rdT ((toksB l (1, 1) []).1.length + 1) (toksB l (1, 1) []).1 with
   | err t => rw [hx] at hr; cases hr
   | ok t m =>
     rw [hx] at hr
     simp only at hr ⊢
     by_cases h5 : (m.headD tk0).kind ≠ 5
     · rw [if_pos h5] at hr; cases hr
     · rw [if_neg h5] at hr ⊢
       cases hr
       exact ⟨rfl, m, rfl⟩
set_option maxHeartbeats 4000000 in
theorem tParse_e (l : List UInt8) (hA : (∃ c ∈ l, isDB c = true) → AtoiC Tryz.prog 82) (hb : l.length ≤ 1000000000) : AF Tryz.prog 13 [pB l] (· = parP (parB l)) := by
 have h13 := tkTokens_e l hA hb
 rw [tokP_eq] at h13
 obtain ⟨r, hrt⟩ : ∃ r, r = tokR l := ⟨_, rfl⟩
 rw [← hrt] at h13
 obtain ⟨L, ⟨pa, pb⟩, e⟩ := r
 have h13 : AF Tryz.prog 37 [pB l] (· = .tup [pTks L, .agg [pInt pa, pInt pb], pInt e]) := h13
 have hfit : ∀ t m, rdT (L.length + 1) L = .ok t m → e = 0 → FitT t := fun t m h he => by
  have hok := tokR_ok (l := l) (by rw [← hrt]; exact he)
  rw [← hrt] at hok
  exact (rd_fit (L.length + 1)).1 L t m hok.1 (fun x hx => (hok.2.2 x hx).text) (by have := hok.2.1; dsimp only at this; omega) h
 refine AF.of_body 53 Tryz.func13 rfl Tryz.ntmps13 (Nat.le_of_ble_eq_true rfl) ?_
 intro w0 M0 vs hl hv
 obtain ⟨v0, rfl⟩ := len1 hl
 obtain rfl := hv 0 _ _ rfl rfl
 clear hl hv
 refine nav ?_
 (refine aC_region ?_ <;> refine s_alloc [(.int .i64 0), (.string ByteArray.empty), (.slice none 0 0)] 3 2 tZr24_PtZ fun h2 => ?_ <;> refine s_alloc [(.int .i64 0), (.int .i64 0)] 2 3 tZr33_PtZ fun h3 => ?_ <;> refine xL 4 q_assign ?_ <;> refine aL_end (nav ?_) <;> try dsimp only)
 (refine aC_region ?_ <;> refine xL 12 q_move ?_ <;> (refine cPx3 13 (cA (Tryz.call37) h13) (fun va13 vb13 vc13 hva13 hvb13 hvc13 => ?_); cases hvc13) <;> refine xL 11 q_move ?_ <;> refine xL 14 q_extract ?_ <;> refine xL 15 q_extract ?_ <;> refine xL 16 q_extract ?_ <;> refine s_alloc [(.int .i64 0), (.int .i64 0)] 2 6 tZr33_PtZ fun h6 => ?_ <;> refine xL 5 q_assign ?_ <;> refine s_sta 6 tAgg33_PtZ ?_ <;> refine xL 7 q_assign ?_ <;> refine aL_end (nav ?_) <;> try dsimp only)
 (refine aC_region ?_ <;> refine xL 17 q_move ?_ <;> refine xL 18 q_neq ?_ <;> refine aL_end (nav ?_) <;> try dsimp only)
 (first | refine cCd ?_ ?_ | refine cC ?_ ?_) <;> intro hb18
 · first
   | exact Bool.noConfusion hb18
   | (
    refine nav ?_
    (refine aC_draw (fun i => ([] : List Nat).elem i) [6] (by kernel_rfl) ?_ <;> refine xD 0 19 rfl (q_build tSt24_PtZ) ?_ <;> (refine yD 1 20 rfl (q_ldao 6 tAgg33_PtZ) fun v20 hv20 => ?_; cases hv20) <;> refine xD 2 21 rfl q_move ?_ <;> (refine aD_one 3 (by kernel_rfl) ?_) <;> (refine aW_run rfl fun w9 M9 N9 DQ back => ?_) <;> (refine aL_ent (rslot (t := 19) (p' := pTr nd0) rfl (rr_leaf 0 ByteArray.empty)) fun _ => ?_; refine s_sta 2 tAgg24_PtZ ?_) <;> refine aL_end (back _ (nrm ?_)) <;> (refine aD_one 4 (by kernel_rfl) ?_) <;> (refine aW_run rfl fun w9 M9 N9 DQ back => ?_) <;> refine s_sta 3 tAgg33_PtZ ?_ <;> refine aL_end (back _ (nrm ?_)) <;> refine xE 5 4 rfl q_assign ?_ <;> refine aD_end (by kernel_rfl) (nav ?_) <;> try dsimp only)
    refine ret_3 (Tryz.results13) (.cell (k := 3) 2 (by kernel_rfl) rfl rfl (Nat.le_of_ble_eq_true rfl) (by decide) rfl) (.cell (k := 2) 3 (by kernel_rfl) rfl rfl (Nat.le_of_ble_eq_true rfl) (by decide) rfl) (.tmp rfl) ?_
    rw [par_tok (by rw [← hrt]; exact hb18), ← hrt]; rfl)
 · first
   | exact Bool.noConfusion hb18
   | (
    have he0 : e = 0 := by omega
    subst he0
    have hok := tokR_ok (l := l) (by rw [← hrt])
    rw [← hrt] at hok
    have h24 := tRead_e L (by have := hok.2.1; dsimp only at this; omega) hok.2.2 hok.1
    unfold rdP at h24
    refine nav ?_
    (refine aC_region ?_ <;> refine xL 23 q_move ?_ <;> (rcases hrr : rdR L with ⟨_ | t, tk⟩ <;> rw [hrr] at h24 <;> dsimp only [rdO, Option.isSome] at h24 <;> (refine cPx3 24 (cA (Tryz.call38) h24) (fun va24 vb24 vc24 hva24 hvb24 hvc24 => ?_); cases hvc24)) <;> refine xL 22 q_move ?_ <;> refine xL 25 q_extract ?_ <;> refine xL 26 q_extract ?_ <;> refine xL 27 q_extract ?_ <;> refine s_alloc [(.int .i64 0), (.string ByteArray.empty), (.slice none 0 0)] 3 8 tZr24_PtZ fun h8 => ?_ <;> refine s_alloc [(.int .i64 0), (.string ByteArray.empty), (.int .i64 0), (.int .i64 0), (.int .i64 0)] 5 9 tZr71_PtZ fun h9 => ?_ <;> refine s_sta 8 tAgg24_PtZ ?_ <;> refine s_sta 9 tAgg71_PtZ ?_ <;> refine xL 10 q_assign ?_ <;> refine aL_end (nav ?_) <;> try dsimp only) <;> (
     (refine aC_region ?_ <;> refine xL 29 q_move ?_ <;> refine xL 30 q_not ?_ <;> refine xL 31 q_move ?_ <;> (first | refine kL 32 ?_ | refine xL 32 (q_fldo 9 tFl71_0_PtZ) ?_) <;> (first | refine kL 33 ?_ | (refine yL 33 (q_ldo 9 tNa3_PtZ) fun v33 hv33 => ?_; cases hv33)) <;> (first | refine kL 34 ?_ | refine xL 34 q_eql ?_) <;> refine xL 35 q_pick ?_ <;> refine xL 28 q_assign ?_ <;> refine aL_end (nav ?_) <;> try dsimp only) <;> (
      (first | refine cCd ?_ ?_ | refine cC ?_ ?_) <;> intro hb28
      · first
        | exact Bool.noConfusion hb28
        | (
         refine nav ?_
         (refine aC_draw (fun i => ([] : List Nat).elem i) [9] (by kernel_rfl) ?_ <;> refine xD 0 36 rfl (q_build tSt24_PtZ) ?_ <;> refine xD 1 37 rfl (q_fldo 9 tFl71_3_PtZ) ?_ <;> (refine yD 2 38 rfl (q_ldao 9 tAgg33_PtZ) fun v38 hv38 => ?_; cases hv38) <;> (refine aD_one 3 (by kernel_rfl) ?_) <;> (refine aW_run rfl fun w9 M9 N9 DQ back => ?_) <;> (refine aL_ent (rslot (t := 36) (p' := pTr nd0) rfl (rr_leaf 0 ByteArray.empty)) fun _ => ?_; refine s_sta 2 tAgg24_PtZ ?_) <;> refine aL_end (back _ (nrm ?_)) <;> (refine aD_one 4 (by kernel_rfl) ?_) <;> (refine aW_run rfl fun w9 M9 N9 DQ back => ?_) <;> refine s_sta 3 tAgg33_PtZ ?_ <;> refine aL_end (back _ (nrm ?_)) <;> refine xE 5 4 rfl q_assign ?_ <;> refine aD_end (by kernel_rfl) (nav ?_) <;> try dsimp only)
         refine ret_3 (Tryz.results13) (.cell (k := 3) 2 (by kernel_rfl) rfl rfl (Nat.le_of_ble_eq_true rfl) (by decide) rfl) (.cell (k := 2) 3 (by kernel_rfl) rfl rfl (Nat.le_of_ble_eq_true rfl) (by decide) rfl) (.tmp rfl) ?_
         rw [par_no (by rw [← hrt]) (by rw [← hrt]; exact hrr), if_pos (by omega)]; rfl)
      · first
        | exact Bool.noConfusion hb28
        | (
         refine nav ?_
         (refine aC_region ?_ <;> refine xL 40 q_move ?_ <;> refine xL 41 q_not ?_ <;> refine xL 39 q_assign ?_ <;> refine aL_end (nav ?_) <;> try dsimp only)
         (first | refine cCd ?_ ?_ | refine cC ?_ ?_) <;> intro hb39
         · first
           | exact Bool.noConfusion hb39
           | (
            refine nav ?_
            (refine aC_draw (fun i => ([] : List Nat).elem i) [9] (by kernel_rfl) ?_ <;> refine xD 0 42 rfl (q_build tSt24_PtZ) ?_ <;> refine xD 1 43 rfl (q_fldo 9 tFl71_3_PtZ) ?_ <;> (refine yD 2 44 rfl (q_ldao 9 tAgg33_PtZ) fun v44 hv44 => ?_; cases hv44) <;> (refine aD_one 3 (by kernel_rfl) ?_) <;> (refine aW_run rfl fun w9 M9 N9 DQ back => ?_) <;> (refine aL_ent (rslot (t := 42) (p' := pTr nd0) rfl (rr_leaf 0 ByteArray.empty)) fun _ => ?_; refine s_sta 2 tAgg24_PtZ ?_) <;> refine aL_end (back _ (nrm ?_)) <;> (refine aD_one 4 (by kernel_rfl) ?_) <;> (refine aW_run rfl fun w9 M9 N9 DQ back => ?_) <;> refine s_sta 3 tAgg33_PtZ ?_ <;> refine aL_end (back _ (nrm ?_)) <;> refine xE 5 4 rfl q_assign ?_ <;> refine aD_end (by kernel_rfl) (nav ?_) <;> try dsimp only)
            refine ret_3 (Tryz.results13) (.cell (k := 3) 2 (by kernel_rfl) rfl rfl (Nat.le_of_ble_eq_true rfl) (by decide) rfl) (.cell (k := 2) 3 (by kernel_rfl) rfl rfl (Nat.le_of_ble_eq_true rfl) (by decide) rfl) (.tmp rfl) ?_
            rw [par_no (by rw [← hrt]) (by rw [← hrt]; exact hrr), if_neg (by omega)]; rfl)
         · first
           | exact Bool.noConfusion hb39
           | (
            refine nav ?_
            have hpy := par_yes (l := l) (by rw [← hrt]) (by rw [← hrt]; exact hrr)
            rw [← hrt] at hpy
            obtain ⟨hpe, m, hm⟩ := hpy
            have hft := hfit t m hm rfl
            (refine aC_region ?_ <;> (refine yL 46 (q_ldao 8 tAgg24_PtZ) fun v46 hv46 => ?_; cases hv46) <;> (refine cS 47 (cA Tryz.call26 (tValid_e t hft)) fun v47 hv47 => ?_; cases hv47) <;> refine xL 48 q_not ?_ <;> refine xL 45 q_assign ?_ <;> refine aL_end (nav ?_) <;> try dsimp only)
            (first | refine cCd ?_ ?_ | refine cC ?_ ?_) <;> intro hb45
            · first
              | exact Bool.noConfusion hb45
              | (
               refine nav ?_
               (refine aC_region ?_ <;> refine xL 49 (q_build tSt24_PtZ) ?_ <;> refine xL 50 (q_build tSt33_PtZ) ?_ <;> (refine aL_ent (rslot (t := 49) (p' := pTr nd0) rfl (rr_leaf 0 ByteArray.empty)) fun _ => ?_; refine s_sta 2 tAgg24_PtZ ?_) <;> refine s_sta 3 tAgg33_PtZ ?_ <;> refine xL 4 q_assign ?_ <;> refine aL_end (nav ?_) <;> try dsimp only)
               refine ret_3 (Tryz.results13) (.cell (k := 3) 2 (by kernel_rfl) rfl rfl (Nat.le_of_ble_eq_true rfl) (by decide) rfl) (.cell (k := 2) 3 (by kernel_rfl) rfl rfl (Nat.le_of_ble_eq_true rfl) (by decide) rfl) (.tmp rfl) ?_
               rw [hpe, if_neg (by intro h; rw [h] at hb45; cases hb45)]; rfl)
            · first
              | exact Bool.noConfusion hb45
              | (
               refine nav ?_
               (refine aC_region ?_ <;> (refine yL 51 (q_ldao 8 tAgg24_PtZ) fun v51 hv51 => ?_; cases hv51) <;> refine xL 52 (q_build tSt33_PtZ) ?_ <;> refine s_sta 2 tAgg24_PtZ ?_ <;> refine s_sta 3 tAgg33_PtZ ?_ <;> refine xL 4 q_assign ?_ <;> refine aL_end (nav ?_) <;> try dsimp only)
               refine ret_3 (Tryz.results13) (.cell (k := 3) 2 (by kernel_rfl) rfl rfl (Nat.le_of_ble_eq_true rfl) (by decide) rfl) (.cell (k := 2) 3 (by kernel_rfl) rfl rfl (Nat.le_of_ble_eq_true rfl) (by decide) rfl) (.tmp rfl) ?_
               rw [hpe, if_pos (by simpa using hb45)]; rfl))))))
end Go.Proofs.YtbfilfhgcihhoaaGreatDoor
namespace Go.En
open Go.RowKit Go.Cb Go.WideShapes Go.ChangeShapes Go.ChangeAt Go.Deep
set_option linter.all false
theorem weightsAll_mem {H : Type} (P : Program) (e : TypeId) {d : DataW H} {n : Nat} : ∀ {l : List (DataW H)}, d ∈ l → n ∈ d.weights P e → n ∈ DataW.weightsAll P e l
 | x :: l, h, hn => by
   rw [DataW.weightsAll, List.mem_append]
   rcases List.mem_cons.1 h with rfl | h
   · exact .inl hn
   · exact .inr (weightsAll_mem P e h hn)
theorem weightsEach_mem {H : Type} (P : Program) {d : DataW H} {t : TypeId} {n : Nat} : ∀ {ts : List TypeId} {l : List (DataW H)} (i : Nat), ts[i]? = some t → l[i]? = some d → n ∈ d.weights P t → n ∈ DataW.weightsEach P ts l
 | t' :: ts, x :: l, 0, h1, h2, hn => by
   simp at h1 h2
   subst h1 h2
   rw [DataW.weightsEach, List.mem_append]
   exact .inl hn
 | t' :: ts, x :: l, i + 1, h1, h2, hn => by
   rw [DataW.weightsEach, List.mem_append]
   exact .inr (weightsEach_mem P i (by simpa using h1) (by simpa using h2) hn)
structure Dec (P : Program) (t : TypeId) (k : Nat) {α : Type} (enc : α → List PV) (fit : α → Prop) : Prop where
 size : P.cellsOf t = k
 len : ∀ a, (enc a).length = k
 dec : ∀ {H : Type} (e : TypeId × Value → H) (w : World) (spare : Nat → Bool) (held : Bool) (fuel : Nat) (cs : List Value) (x : DataW H × List MemPlace), DataW.trod e P w 0 spare held fuel t cs = some x → (∀ n ∈ x.1.weights P t, n ≤ reachBytes) →
  ∃ a, fit a ∧ cs.length = k ∧ ∀ (i : Nat) (v : Value) (p : PV), cs[i]? = some v → (enc a)[i]? = some p → Shr (fun _ => False) w v p
section
variable {P : Program} {t : TypeId}
theorem one_at {v u : Value} {p q : PV} {w : World} (h : Shr (fun _ => False) w v p) (i : Nat) (h1 : [v][i]? = some u) (h2 : [p][i]? = some q) : Shr (fun _ => False) w u q := by
 cases i with
 | zero => simp at h1 h2; subst h1 h2; exact h
 | succ i => simp at h1
theorem dec_int (ht : P.underlying t = some (.int .i64)) (hs : P.cellsOf t = 1) : Dec P t 1 (fun n : Int => [pInt n]) (fun n => -9223372036854775808 ≤ n ∧ n ≤ 9223372036854775807) where
 size := hs
 len := fun _ => rfl
 dec := fun e w spare held fuel cs x h => by
  intro hwt
  obtain ⟨n, rfl, _, hw⟩ := DataW.trod_int ht h
  refine ⟨n, ?_, rfl, fun i v p h1 h2 => one_at (.val _) i h1 h2⟩
  simpa [Lit.wf, IntKind.min, IntKind.max, IntKind.signed, IntKind.bits] using hw
theorem dec_str (ht : P.underlying t = some .string) (hs : P.cellsOf t = 1) : Dec P t 1 (fun s : ByteArray => [pStr s]) (fun s => s.size ≤ 140737488355328) where
 size := hs
 len := fun _ => rfl
 dec := fun e w spare held fuel cs x h => by
  intro hwt
  obtain ⟨s, rfl, rfl, hw⟩ := DataW.trod_string ht h
  have hsz : s.size ≤ reachBytes := hwt s.size (by show s.size ∈ DataW.weights P t (.lit (.string s.data.toList)); rw [DataW.weights]; exact List.mem_singleton.2 (by rw [Array.length_toList]; rfl))
  exact ⟨s, by unfold reachBytes at hsz; omega, rfl, fun i v p h1 h2 => one_at (.val _) i h1 h2⟩
section
variable {H : Type} {en : TypeId × Value → H} {w : World} {spare : Nat → Bool} {held : Bool} {r : Reach} {base : Nat} {v : Value} {d : DataW H} {ps : List MemPlace}
theorem argA {α : Type} {k : Nat} {enc : α → List PV} {fit : α → Prop} (D : Dec P t k enc fit) (hT : StrT P t = true) (hv : Value.okWide P w r base t v) (h : DataW.Trod en P w 0 spare held t v d ps) (hwt : ∀ n ∈ d.weights P t, n ≤ reachBytes) : ∃ a, fit a ∧ Shr (fun _ => False) w v (.agg (enc a)) := by
 obtain ⟨fuel, hf⟩ := h
 have : ∃ fs, P.underlying t = some (.struct fs) := by
  unfold StrT at hT
  split at hT
  · rename_i fs hfs; exact ⟨fs, hfs⟩
  · cases hT
 obtain ⟨fs, hfs⟩ := this
 obtain ⟨cs, rfl, hsz⟩ := okWide_struct hfs hv
 obtain ⟨a, h1, h2, h3⟩ := D.dec en w spare held fuel _ _ hf hwt
 refine ⟨a, h1, ?_⟩
 have := Shr.agg (M := fun _ => False) (w := w) cs.toList (enc a) (by rw [D.len a]; exact h2) h3
 simpa using this
end
theorem trodAll_back {H : Type} {enc : TypeId × Value → H} {P : Program} (hl : laidOutB P = true) {W W' : World} (hb : Below W.heap.size W W') : ∀ {ts : List TypeId} {vs : List Value} {ds : List (DataW H)} {ps : List MemPlace}, (ts.all fun t => P.readableRec t && decide (t < P.types.size)) = true →
 DataW.TrodAll enc P W 0 (fun _ => true) true ts vs ds ps → DataW.TrodAll enc P W' 0 (fun b => decide (b < W.heap.size)) true ts vs ds ps
 | [], [], [], ps, _, h => h
 | t :: ts, v :: vs, d :: ds, ps, ht, ⟨p, q, h1, h2, h3⟩ => by
   rw [List.all_cons, Bool.and_eq_true, Bool.and_eq_true] at ht
   refine ⟨p, q, Below.trod hl ht.1.1 (of_decide_eq_true ht.1.2) h1 hb ?_, trodAll_back hl hb ht.2 h2, h3⟩
   obtain ⟨m, hm⟩ := h1
   exact DataW.trod_lt m _ _ _ hm
theorem AF.law {P : Program} {f : FuncId} {ps : List PV} (hA : AF P f ps (· = .val (.bool true))) {W : World} {vs : List Value} (hl : vs.length = ps.length) (hv : ∀ (i : Nat) (v : Value) (p : PV), vs[i]? = some v → ps[i]? = some p → Shr (fun _ => False) W v p) (hT : TabW W (fun _ => False) (fun _ => False)) :
 Calls P f vs.toArray W fun e w' => e = .returned (.bool true) ∧ Below W.heap.size W w' :=
 (hA (fun _ => False) W vs ⟨fun _ h => h.elim, fun _ => hT⟩ hl hv).mono fun e w' ⟨v, p, F, h1, h2, h3, h4, _⟩ => by
   subst h2
   have := (h4.sh rfl).vOf
   subst this
   exact ⟨h1, h3⟩
end
def DecF (P : Program) (t : TypeId) (k : Nat) {α : Type} (enc : α → List PV) (fit : α → Prop) (fuel : Nat) : Prop :=
 ∀ {H : Type} (e : TypeId × Value → H) (w : World) (spare : Nat → Bool) (held : Bool) (cs : List Value) (x : DataW H × List MemPlace), DataW.trod e P w 0 spare held fuel t cs = some x → (∀ n ∈ x.1.weights P t, n ≤ reachBytes) →
  ∃ a, fit a ∧ cs.length = k ∧ ∀ (i : Nat) (v : Value) (p : PV), cs[i]? = some v → (enc a)[i]? = some p → Shr (fun _ => False) w v p
section
variable {P : Program} {t : TypeId}
theorem Dec.toF {α : Type} {k : Nat} {enc : α → List PV} {fit : α → Prop} (D : Dec P t k enc fit) (fuel : Nat) : DecF P t k enc fit fuel := fun e w spare held cs x h hw => D.dec e w spare held fuel cs x h hw
theorem decF_field {H : Type} {α : Type} {e k o fuel : Nat} {enc : α → List PV} {fit : α → Prop} (hsz : P.cellsOf e = k) (hlen : ∀ a, (enc a).length = k) (D : DecF P e k enc fit fuel) {en : TypeId × Value → H} {w : World} {spare : Nat → Bool} {held : Bool} {cs : List Value} {y : DataW H × List MemPlace}
 (h : DataW.trod en P w 0 spare held fuel e ((cs.drop o).take (P.cellsOf e)) = some y) (hwt : ∀ n ∈ y.1.weights P e, n ≤ reachBytes) : ∃ a, fit a ∧ ∀ (i : Nat) (v : Value) (p : PV), cs[o + i]? = some v → (enc a)[i]? = some p → Shr (fun _ => False) w v p := by
 obtain ⟨a, h1, _, h3⟩ := D en w spare held _ y h hwt
 refine ⟨a, h1, fun i v p hv hp => h3 i v p ?_ hp⟩
 have hi : i < k := by rw [← hlen a]; exact lt_of_get hp
 rw [hsz, List.getElem?_take_of_lt hi, List.getElem?_drop]; exact hv
theorem decF_slice {α : Type} {e k fuel : Nat} {enc : α → List PV} {fit : α → Prop} (ht : P.underlying t = some (.slice e)) (hk : 0 < k) (hby : 0 < P.bytesOf e) (hsz : P.cellsOf e = k) (hln : ∀ a, (enc a).length = k) (D : ∀ n, n < fuel → DecF P e k enc fit n) :
 DecF P t 1 (fun l : List α => [PV.sl l.length (l.flatMap enc)]) (fun l => l.length ≤ 140737488355328 ∧ ∀ x ∈ l, fit x) fuel := fun en w spare held cs x h hwt => by
 rcases DataW.trod_slice ht h with ⟨rfl, _⟩ | ⟨a, len, cap, elems, more, n, rfl, rfl, rfl, _, hl, hm, hel, hx, _, _⟩
 · exact ⟨[], ⟨by simp, by simp⟩, rfl, fun i v p h1 h2 => one_at (.emp none 0 (by unfold maxLen; omega) (fun _ => rfl)) i h1 h2⟩
 · rcases Nat.eq_zero_or_pos len with h0 | h0
   · subst h0
     exact ⟨[], ⟨by simp, by simp⟩, rfl, fun i v p h1 h2 => one_at (.emp (some a) cap hm (fun h => by cases h)) i h1 h2⟩
   simp only [DataW.weights, ht] at hwt
   have hlen : len ≤ reachBytes := by
    have := hwt _ (List.mem_cons_self ..)
    simp only [List.length_map, hel] at this
    exact Nat.le_trans (Nat.le_trans (Nat.le_add_right len _) (Nat.le_mul_of_pos_right _ hby)) this
   have hDn : DecF P e k enc fit n := D n (Nat.lt_succ_self n)
   have hone : ∀ i, i < len → ∃ (y : α × (Nat → Value)), fit y.1 ∧ ∀ (j : Nat) (p : PV), (enc y.1)[j]? = some p → w.cell? ((a.add (i * k)).add j) = some (y.2 j) ∧ Shr (fun _ => False) w (y.2 j) p := fun i hi => by
    have h1 := hx i hi
    obtain ⟨z, hz⟩ := get_of_lt (show i < elems.length by omega)
    rw [hz] at h1
    obtain ⟨cs', h2, h3⟩ := Option.bind_eq_some_iff.1 h1
    rw [hsz] at h2
    obtain ⟨_, hlen', hcell⟩ := World.cells?_some h2
    obtain ⟨y, hy, _, hS⟩ := hDn en w spare held cs' _ h3 (fun m hm => hwt m (List.mem_cons_of_mem _ (List.mem_append.2 (.inl (weightsAll_mem P e (List.mem_map.2 ⟨z, List.mem_of_getElem? hz, rfl⟩) hm)))))
    refine ⟨(y, fun j => (cs'[j]?).getD undef), hy, fun j p hp => ?_⟩
    have hj : j < k := by rw [← hln y]; exact lt_of_get hp
    obtain ⟨u, hu⟩ := get_of_lt (show j < cs'.length by omega)
    have := hcell j hj
    simp only [hu, Option.getD_some]
    exact ⟨by rw [this, hu], hS j u p hu hp⟩
   obtain ⟨y0, hy0⟩ := hone 0 h0
   have key : ∀ i : Nat, ∃ (y : α × (Nat → Value)), i < len → fit y.1 ∧ ∀ (j : Nat) (p : PV), (enc y.1)[j]? = some p → w.cell? ((a.add (i * k)).add j) = some (y.2 j) ∧ Shr (fun _ => False) w (y.2 j) p := fun i => by
    by_cases hi : i < len
    · obtain ⟨y, hy⟩ := hone i hi; exact ⟨y, fun _ => hy⟩
    · exact ⟨y0, fun h => absurd h hi⟩
   obtain ⟨Y, hY⟩ := Classical.skolem.1 key
   have hspot : ∃ b off, a = ⟨b, off, none⟩ := by
    obtain ⟨hf, hc⟩ := hY 0 h0
    obtain ⟨p, hp⟩ := get_of_lt (show 0 < (enc (Y 0).1).length by rw [hln]; exact hk)
    have := (hc 0 p hp).1
    obtain ⟨b, off, spot⟩ := a
    have hspot : spot = none := by simpa [Addr.add] using World.cell?_spot this
    subst hspot
    exact ⟨b, off, rfl⟩
   obtain ⟨b, off, rfl⟩ := hspot
   have hflen : ((List.range len).map fun i => (Y i).1).length = len := by simp
   refine ⟨(List.range len).map fun i => (Y i).1, ⟨by rw [hflen]; unfold reachBytes at hlen; omega, fun x hx => ?_⟩, rfl, fun i v p h1 h2 => one_at ?_ i h1 h2⟩
   · obtain ⟨i, hi, rfl⟩ := List.mem_map.1 hx
     exact (hY i (by simpa using hi)).1
   · rw [hflen]
     have hat : ∀ (c : Nat) (p : PV), (((List.range len).map fun i => (Y i).1).flatMap enc)[c]? = some p → c / k < len ∧ (enc (Y (c / k)).1)[c % k]? = some p := fun c p hp => by
      have hc : c < len * k := by have := lt_of_get hp; rw [flat_len hln, hflen] at this; exact this
      have hq : c / k < len := Nat.div_lt_of_lt_mul (by rw [Nat.mul_comm]; exact hc)
      have hget : ((List.range len).map fun i => (Y i).1)[c / k]? = some (Y (c / k)).1 := by simp [hq]
      have := flat_at hln hget (Nat.mod_lt c hk)
      rw [Nat.mul_comm, Nat.div_add_mod] at this
      exact ⟨hq, by rw [← this]; exact hp⟩
     refine .sl b off len cap _ (fun c => (Y (c / k)).2 (c % k)) hl hm (fun c hc => ⟨?_, fun h => h⟩) (fun c p hp => ?_)
     · obtain ⟨p, hp⟩ := get_of_lt hc
       obtain ⟨hq, hp'⟩ := hat c p hp
       have := ((hY (c / k) hq).2 (c % k) p hp').1
       rw [add_none, add_none, Nat.add_assoc, Nat.mul_comm, Nat.div_add_mod] at this
       exact this
     · obtain ⟨hq, hp'⟩ := hat c p hp
       exact ((hY (c / k) hq).2 (c % k) p hp').2
end
end Go.En
namespace Go.Proofs.YtbfilfhgcihhoaaGreatDoor
open Go.RowKit Go.Cb Go.En Go.ChangeShapes Go.WideShapes Go.ChangeAt
set_option linter.all false
set_option maxRecDepth 100000
theorem tAgg24_PuA : AggT Tryz.prog 24 3 = true := by kernel_rfl
theorem tAgg33_PuA : AggT Tryz.prog 33 2 = true := by kernel_rfl
theorem tSt33_PuA : stInfo Tryz.prog 33 = some ((.agg #[(.int .i64 0), (.int .i64 0)]), ([0, 1] : List Nat).map fun o => (o, 1)) := by kernel_rfl
theorem tZr24_PuA : ZeroT Tryz.prog 24 (.agg #[(.int .i64 0), (.string ByteArray.empty), (.slice none 0 0)]) := by unfold ZeroT; kernel_rfl
theorem tZr33_PuA : ZeroT Tryz.prog 33 (.agg #[(.int .i64 0), (.int .i64 0)]) := by unfold ZeroT; kernel_rfl
theorem dInt9 : Dec Tryz.prog 3 1 (fun n : Int => [pInt n]) (fun n => -9223372036854775808 ≤ n ∧ n ≤ 9223372036854775807) := dec_int Tryz.underlying3 (by kernel_rfl)
theorem dStr9 : Dec Tryz.prog 9 1 (fun s : ByteArray => [pStr s]) (fun s => s.size ≤ 140737488355328) := dec_str Tryz.underlying9 (by kernel_rfl)
theorem decF_tree (fuel : Nat) : DecF Tryz.prog 24 3 cN FitT fuel := by
 induction fuel using Nat.strongRecOn with
 | _ fuel ih =>
   intro H e w spare held cs x h hwt
   obtain ⟨xs, n, rfl, rfl, hlen, hxl, hf⟩ := DataW.trod_struct Tryz.underlying24 h
   simp only [DataW.weights, Tryz.underlying24] at hwt
   match xs, hxl with
   | [y0, y1, y2], _ =>
   have g0 : DataW.trod e Tryz.prog w 0 spare held n 3 ((cs.drop 0).take (Tryz.prog.cellsOf 3)) = some y0 := hf 0 _ rfl
   have g1 : DataW.trod e Tryz.prog w 0 spare held n 9 ((cs.drop 1).take (Tryz.prog.cellsOf 9)) = some y1 := hf 1 _ rfl
   have g2 : DataW.trod e Tryz.prog w 0 spare held n 22 ((cs.drop 2).take (Tryz.prog.cellsOf 22)) = some y2 := hf 2 _ rfl
   have hD0 : DecF Tryz.prog 3 1 (fun n : Int => [pInt n]) (fun n => -9223372036854775808 ≤ n ∧ n ≤ 9223372036854775807) n := Dec.toF dInt9 n
   have hD1 : DecF Tryz.prog 9 1 (fun s : ByteArray => [pStr s]) (fun s => s.size ≤ 140737488355328) n := Dec.toF dStr9 n
   have hsl : DecF Tryz.prog 22 1 (fun l : List Nd => [PV.sl l.length (l.flatMap cN)]) (fun l => l.length ≤ 140737488355328 ∧ ∀ x ∈ l, FitT x) n :=
    decF_slice Tryz.underlying22 (by decide) (Nat.le_of_ble_eq_true (by kernel_rfl)) (by kernel_rfl) cN_len (fun m hm => ih m (by omega))
   obtain ⟨a, ha, A⟩ := decF_field (k := 1) (enc := fun n : Int => [pInt n]) (fit := fun n : Int => -9223372036854775808 ≤ n ∧ n ≤ 9223372036854775807) (by kernel_rfl) (fun _ => rfl) hD0 g0 (fun n hn => hwt n (weightsEach_mem Tryz.prog 0 rfl rfl hn))
   obtain ⟨b, hb, B⟩ := decF_field (k := 1) (enc := fun s : ByteArray => [pStr s]) (fit := fun s : ByteArray => s.size ≤ 140737488355328) (by kernel_rfl) (fun _ => rfl) hD1 g1 (fun n hn => hwt n (weightsEach_mem Tryz.prog 1 rfl rfl hn))
   obtain ⟨l, hl, C⟩ := decF_field (k := 1) (enc := fun l : List Nd => [PV.sl l.length (l.flatMap cN)]) (fit := fun l : List Nd => l.length ≤ 140737488355328 ∧ ∀ x ∈ l, FitT x) (by kernel_rfl) (fun _ => rfl) hsl g2 (fun n hn => hwt n (weightsEach_mem Tryz.prog 2 rfl rfl hn))
   refine ⟨.mk a b l, .mk _ hl.1 hb ha.1 ha.2 hl.2, by rw [hlen]; kernel_rfl, fun i v p hv hp => ?_⟩
   match i with
   | 0 => exact A 0 v p hv (by simpa [cN, Nd.op] using hp)
   | 1 => exact B 0 v p hv (by simpa [cN, Nd.act] using hp)
   | 2 => exact C 0 v p hv (by rw [← hp]; show some _ = some _; unfold pTrs; rw [cTrs_eq]; rfl)
   | i + 3 => simp [cN] at hp
theorem dTree : Dec Tryz.prog 24 3 cN FitT where
 size := by kernel_rfl
 len := cN_len
 dec := fun e w spare held fuel cs x h hw => decF_tree fuel e w spare held cs x h hw
theorem q_seqT {P : Program} {st : St} {o : Oper} {x y : Operand} {q q' : PV} {t t' : TypeId} {a : ByteArray} (ho : o.op = .binOp .eql t x y t' := by exact rfl) (hx : ev st.slots x = some (.string a, q) := by exact rfl) (hy : ev st.slots y = some (.string a, q') := by exact rfl) : YE P st o (· = .bool true) (.val (.bool true)) := by
 have h := q_seql (P := P) ho hx hy
 rwa [show (a.toList == a.toList) = true from by simp] at h
theorem uPos : Tryz.prog.underlying 33 = some (.struct (Tryz.prog.fieldsOf 33)) := by kernel_rfl
theorem hPos : Tryz.prog.stoodInHeld 33 = false := by kernel_rfl
theorem gPos : Tryz.prog.eqGuardType Tryz.prog.depth 33 = false := by kernel_rfl
theorem eqPos_run (a b c d : Int) (w : World) : (Op.eqFields 9999 [Value.int .i64 a, .int .i64 b].toArray [Value.int .i64 c, .int .i64 d].toArray (Tryz.prog.fieldsOf 33).toList).run Tryz.prog w = .ok (decide (a = c) && decide (b = d)) w := by
 simp only [Program.fieldsOf, Tryz.underlying33]
 simp [Op.eqFields, part, run_equalIn_int w 9998 3 .i64 .i64 a c Tryz.underlying3, run_equalIn_int w 9998 3 .i64 .i64 b d Tryz.underlying3]
 by_cases h1 : a = c <;> by_cases h2 : b = d <;> simp [h1, h2]
theorem awA_v : valT (parB awA).1 = true := by decide +kernel
theorem awB_v : valT (parB awB).1 = true := by decide +kernel
theorem aw_nodig {l : List UInt8} (h : l.all (fun c => !isDB c) = true) {Q : Prop} : (∃ c ∈ l, isDB c = true) → Q := fun ⟨c, hc, hd⟩ => by
 have := List.all_eq_true.1 h c hc
 rw [hd] at this; cases this
theorem aw_par {l : List UInt8} (h : l.all (fun c => !isDB c) = true) (hl : l.length ≤ 1000000) {r : (Int × Int) × Int} (hr : (parB l).2 = r) : AF Tryz.prog 13 [pB l] (· = .tup [pTr (parB l).1, .agg [pInt r.1.1, pInt r.1.2], pInt r.2]) := by
 have := tParse_e l (aw_nodig h) (by omega)
 rw [show parB l = ((parB l).1, r) from Prod.ext rfl hr] at this
 exact this
theorem aw_norm {t : Nd} (h1 : valT t = true) (h2 : valT (norT t) = true) : AF Tryz.prog 16 [pTr t] (· = .tup [pTr (norT t), pInt 0]) := by
 have := tNormalX_e t (fit_ok t (val_ok h1) (by have := val_sz h1; omega))
 unfold norX at this
 rw [if_pos h1, if_pos h2] at this
 exact this
theorem w19Awake_e : AF Tryz.prog 9 [] (· = pBool true) := by
 have hA := aw_par (l := awA) (by decide) (by decide) awA_e
 have hB := aw_par (l := awB) (by decide) (by decide) awB_e
 have hC := aw_par (l := awC) (by decide) (by decide) awC_e
 have hD := aw_par (l := awD) (by decide) (by decide) awD_e
 dsimp only at hA hB hC hD
 have hNA := aw_norm awA_v awN_v
 have hNB := aw_norm awB_v awM_v
 have hfA := fit_nor (val_ok awA_v) (by have := val_sz awA_v; omega)
 have hfB := fit_nor (val_ok awB_v) (by have := val_sz awB_v; omega)
 have hT : AF Tryz.prog 11 [pTr (norT (parB awA).1)] (· = .tup [pB awS, pInt 0]) := by
  have := tText_e _ hfA
  unfold texX at this
  rw [if_pos awN_v, awN_e, if_neg (by decide)] at this
  exact this
 have hS : AF Tryz.prog 27 [pTr (norT (parB awB).1)] (· = pInt 5) := by
  have := tSize_e _ hfB
  rw [if_pos awM_v, awM_e] at this
  exact this
 generalize norT (parB awA).1 = NA at hNA hT
 generalize norT (parB awB).1 = NB at hNB hS
 generalize (parB awA).1 = TA at hA hNA
 generalize (parB awB).1 = TB at hB hNB
 generalize (parB awC).1 = TC at hC
 generalize (parB awD).1 = TD at hD
 refine AF.of_body 99 Tryz.func9 rfl Tryz.ntmps9 (Nat.le_of_ble_eq_true rfl) ?_
 intro w0 M0 vs hl hv
 obtain rfl := List.eq_nil_of_length_eq_zero hl
 clear hl hv
 refine nav ?_
 (refine aC_region ?_ <;> refine xL 0 q_assign ?_ <;> refine aL_end (nav ?_) <;> try dsimp only)
 (refine aC_region ?_ <;> (refine cPx3 20 (cA (Tryz.call13) hA) (fun va20 vb20 vc20 hva20 hvb20 hvc20 => ?_); cases hvc20) <;> refine xL 19 q_move ?_ <;> refine xL 21 q_extract ?_ <;> refine xL 22 q_extract ?_ <;> refine xL 23 q_extract ?_ <;> refine s_alloc [(.int .i64 0), (.string ByteArray.empty), (.slice none 0 0)] 3 1 tZr24_PuA fun h1 => ?_ <;> refine s_alloc [(.int .i64 0), (.int .i64 0)] 2 2 tZr33_PuA fun h2 => ?_ <;> refine s_sta 1 tAgg24_PuA ?_ <;> refine s_sta 2 tAgg33_PuA ?_ <;> refine xL 3 q_assign ?_ <;> refine aL_end (nav ?_) <;> try dsimp only)
 (refine aC_region ?_ <;> (refine yL 25 (q_ldao 1 tAgg24_PuA) fun v25 hv25 => ?_; cases hv25) <;> (refine cP 26 (cA Tryz.call16 (hNA)) fun va26 vb26 hva26 hvb26 => ?_; cases hvb26) <;> refine xL 24 q_move ?_ <;> refine xL 27 q_extract ?_ <;> refine xL 28 q_extract ?_ <;> refine s_alloc [(.int .i64 0), (.string ByteArray.empty), (.slice none 0 0)] 3 4 tZr24_PuA fun h4 => ?_ <;> refine s_sta 4 tAgg24_PuA ?_ <;> refine xL 5 q_assign ?_ <;> refine aL_end (nav ?_) <;> try dsimp only)
 (refine aC_region ?_ <;> (refine yL 30 (q_ldao 4 tAgg24_PuA) fun v30 hv30 => ?_; cases hv30) <;> (refine cP 31 (cA Tryz.call11 (hT)) fun va31 vb31 hva31 hvb31 => ?_; cases hva31; cases hvb31) <;> refine xL 29 q_move ?_ <;> refine xL 32 q_extract ?_ <;> refine xL 33 q_extract ?_ <;> refine xL 6 q_assign ?_ <;> refine xL 7 q_assign ?_ <;> refine aL_end (nav ?_) <;> try dsimp only)
 (refine aC_region ?_ <;> (refine cPx3 35 (cA (Tryz.call13) hB) (fun va35 vb35 vc35 hva35 hvb35 hvc35 => ?_); cases hvc35) <;> refine xL 34 q_move ?_ <;> refine xL 36 q_extract ?_ <;> refine xL 37 q_extract ?_ <;> refine xL 38 q_extract ?_ <;> refine s_alloc [(.int .i64 0), (.string ByteArray.empty), (.slice none 0 0)] 3 8 tZr24_PuA fun h8 => ?_ <;> refine s_alloc [(.int .i64 0), (.int .i64 0)] 2 9 tZr33_PuA fun h9 => ?_ <;> refine s_sta 8 tAgg24_PuA ?_ <;> refine s_sta 9 tAgg33_PuA ?_ <;> refine xL 10 q_assign ?_ <;> refine aL_end (nav ?_) <;> try dsimp only)
 (refine aC_region ?_ <;> (refine yL 40 (q_ldao 8 tAgg24_PuA) fun v40 hv40 => ?_; cases hv40) <;> (refine cP 41 (cA Tryz.call16 (hNB)) fun va41 vb41 hva41 hvb41 => ?_; cases hvb41) <;> refine xL 39 q_move ?_ <;> refine xL 42 q_extract ?_ <;> refine xL 43 q_extract ?_ <;> refine s_alloc [(.int .i64 0), (.string ByteArray.empty), (.slice none 0 0)] 3 11 tZr24_PuA fun h11 => ?_ <;> refine s_sta 11 tAgg24_PuA ?_ <;> refine xL 12 q_assign ?_ <;> refine aL_end (nav ?_) <;> try dsimp only)
 (refine aC_region ?_ <;> (refine cPx3 45 (cA (Tryz.call13) hC) (fun va45 vb45 vc45 hva45 hvb45 hvc45 => ?_); cases hvc45) <;> refine xL 44 q_move ?_ <;> refine xL 46 q_extract ?_ <;> refine xL 47 q_extract ?_ <;> refine xL 48 q_extract ?_ <;> refine s_alloc [(.int .i64 0), (.string ByteArray.empty), (.slice none 0 0)] 3 13 tZr24_PuA fun h13 => ?_ <;> refine s_alloc [(.int .i64 0), (.int .i64 0)] 2 14 tZr33_PuA fun h14 => ?_ <;> refine s_sta 13 tAgg24_PuA ?_ <;> refine s_sta 14 tAgg33_PuA ?_ <;> refine xL 15 q_assign ?_ <;> refine aL_end (nav ?_) <;> try dsimp only)
 (refine aC_region ?_ <;> (refine cPx3 50 (cA (Tryz.call13) hD) (fun va50 vb50 vc50 hva50 hvb50 hvc50 => ?_); cases hvc50) <;> refine xL 49 q_move ?_ <;> refine xL 51 q_extract ?_ <;> refine xL 52 q_extract ?_ <;> refine xL 53 q_extract ?_ <;> refine s_alloc [(.int .i64 0), (.string ByteArray.empty), (.slice none 0 0)] 3 16 tZr24_PuA fun h16 => ?_ <;> refine s_alloc [(.int .i64 0), (.int .i64 0)] 2 17 tZr33_PuA fun h17 => ?_ <;> refine s_sta 16 tAgg24_PuA ?_ <;> refine s_sta 17 tAgg33_PuA ?_ <;> refine xL 18 q_assign ?_ <;> refine aL_end (nav ?_) <;> try dsimp only)
 (refine aC_region ?_ <;> refine xL 54 q_move ?_ <;> refine xL 55 q_eqlT ?_ <;> refine xL 56 q_move ?_ <;> refine xL 57 q_move ?_ <;> refine xL 58 q_eqlT ?_ <;> refine xL 59 q_pick ?_ <;> refine xL 60 q_move ?_ <;> refine xL 61 q_move ?_ <;> refine xL 62 q_eqlT ?_ <;> refine xL 63 q_pick ?_ <;> refine xL 64 q_move ?_ <;> refine xL 65 q_move ?_ <;> refine xL 66 q_seqT ?_ <;> refine xL 67 q_pick ?_ <;> refine xL 68 q_move ?_ <;> refine xL 69 q_move ?_ <;> refine xL 70 q_eqlT ?_ <;> refine xL 71 q_pick ?_ <;> refine xL 72 q_move ?_ <;> refine xL 73 q_move ?_ <;> refine xL 74 q_eqlT ?_ <;> refine xL 75 q_pick ?_ <;> refine xL 76 q_move ?_ <;> (refine yL 77 (q_ldao 11 tAgg24_PuA) fun v77 hv77 => ?_; cases hv77) <;> (refine cS 78 (cA Tryz.call27 (hS)) fun v78 hv78 => ?_; cases hv78) <;> refine xL 79 q_eqlT ?_ <;> refine xL 80 q_pick ?_ <;> refine xL 81 q_move ?_ <;> refine xL 82 q_move ?_ <;> refine xL 83 q_eqlT ?_ <;> refine xL 84 q_pick ?_ <;> refine xL 85 q_move ?_ <;> (refine yL 86 (q_ldao 14 tAgg33_PuA) fun v86 hv86 => ?_; cases hv86) <;> refine xL 87 (q_build tSt33_PuA) ?_ <;> (refine xL 88 (q_eqS (us := [Value.int .i64 1, .int .i64 6]) (us' := [Value.int .i64 1, .int .i64 6]) uPos hPos gPos (eqPos_run 1 6 1 6) rfl rfl) ?_; rw [show (decide ((1 : Int) = 1) && decide ((6 : Int) = 6)) = true by decide]) <;> refine xL 89 q_pick ?_ <;> refine xL 90 q_move ?_ <;> refine xL 91 q_move ?_ <;> refine xL 92 q_eqlT ?_ <;> refine xL 93 q_pick ?_ <;> refine xL 94 q_move ?_ <;> (refine yL 95 (q_ldao 17 tAgg33_PuA) fun v95 hv95 => ?_; cases hv95) <;> refine xL 96 (q_build tSt33_PuA) ?_ <;> (refine xL 97 (q_eqS (us := [Value.int .i64 1, .int .i64 7]) (us' := [Value.int .i64 1, .int .i64 7]) uPos hPos gPos (eqPos_run 1 7 1 7) rfl rfl) ?_; rw [show (decide ((1 : Int) = 1) && decide ((7 : Int) = 7)) = true by decide]) <;> refine xL 98 q_pick ?_ <;> refine xL 0 q_assign ?_ <;> refine aL_end (nav ?_) <;> try dsimp only) <;> (
  exact ret_shr (Tryz.results9) rfl rfl)
open Go.RowKit Go.Cb Go.En
def norN (t : Nd) : Nd := if valT t = true then (if valT (norT t) = true then norT t else nd0) else nd0
theorem rr_tup2 {p q : PV} {r : PV} (h : Rr p q) : Rr (.tup [p, r]) (.tup [q, r]) := Rr.tup rfl fun i a b ha hb => by
 match i with
 | 0 => cases ha; cases hb; exact h
 | 1 => cases ha; cases hb; exact Rr.rfl' _
 | i + 2 => simp at ha
theorem one_trs (x : Nd) : PV.sl 1 [pInt x.op, pStr x.act, pTrs x.l] = pTrs [x] := by
 show PV.sl 1 (cN x) = PV.sl 1 (cTrs [x])
 rw [cTrs_eq]; rfl
theorem norX_rr (t : Nd) : Rr (norX t).1 (pTr (norN t)) := by
 unfold norX norN
 split
 · split
   · exact Rr.rfl' _
   · exact rr_zeroN
 · exact rr_zeroN
theorem norX_sh (t : Nd) : shD (.tup [(norX t).1, pInt (norX t).2]) = true := by
 unfold norX
 split
 · split <;> rfl
 · rfl
theorem norN_fit {t : Nd} (hf : FitT t) : FitT (norN t) := by
 unfold norN
 split
 · rename_i h
   split
   · exact fit_nor (val_ok h) (by have := val_sz h; omega)
   · exact fit_nd0
 · exact fit_nd0
theorem prt_append (op : Int) (l m : List Nd) : prtT op (l ++ m) = prtT op l ++ prtT op m := by unfold prtT; exact List.flatMap_append
theorem prt_one {op : Int} {x : Nd} (h : x.op ≠ op) (h2 : op ≠ 4 → x.op ≠ 2) : prtT op [x] = [x] := by
 unfold prtT
 simp only [List.flatMap_cons, List.flatMap_nil, List.append_nil]
 rw [if_neg h, if_pos]
 by_cases h4 : op = 4
 · exact .inr h4
 · exact .inl (h2 h4)
theorem prt_self {op : Int} : ∀ {l : List Nd}, (∀ x ∈ l, x.op ≠ op ∧ (op ≠ 4 → x.op ≠ 2)) → prtT op l = l
 | [], _ => rfl
 | x :: l, h => by
   have h1 := h x (by simp)
   rw [show x :: l = [x] ++ l from rfl, prt_append, prt_one h1.1 h1.2, prt_self fun y hy => h y (List.mem_cons_of_mem _ hy)]
theorem cpt_self {l : List Nd} (h : StrT' l) : cptT l = l := str_uniq (cptT_str _ (str_asc h)) h fun z => cptT_mem l z
theorem ord_self {op : Int} {l : List Nd} (h4 : op = 4 → StrT' l) (h5 : op ≠ 3 → op ≠ 4 → AscT l) : ordT op l = l := by
 unfold ordT
 split
 · rfl
 · split
   · rename_i h
     rw [← srtT_eq (str_asc (h4 h)) (List.Perm.refl _), cpt_self (h4 h)]
   · rename_i h3 h'
     exact (srtT_eq (h5 h3 h') (List.Perm.refl _)).symm
theorem end_self {op : Int} {l : List Nd} (h : 2 ≤ l.length) : endT op l = .mk op ByteArray.empty l := by
 match l, h with
 | x :: y :: l, _ => rfl
theorem nf_nor : ∀ (t : Nd), NF t → norT t = t := Nd.ind fun o a l ih hn => by
 have hr := hn.n.rt
 have hmap : norL l = l := by
  rw [norL_eq]
  conv => rhs; rw [← List.map_id l]
  exact List.map_congr_left fun x hx => ih x hx (hn.p x hx)
 have hops : o = 1 ∨ o = 2 ∨ o = 3 ∨ o = 4 ∨ o = 5 ∨ o = 6 := right_ops hr
 have htwo : o ≠ 6 → ∀ x ∈ l, 2 ≤ l.length ∧ x.op ≠ o := hn.n.two
 have hns : o = 3 ∨ o = 5 → ∀ x ∈ l, x.op ≠ 2 := hn.n.ns
 have hxo : o = 4 → StrT' l := hn.n.xo
 have han : o = 5 → AscT l := hn.n.an
 rw [norT, hmap]
 unfold nodT
 by_cases h12 : o = 1 ∨ o = 2
 · rw [if_pos h12]
   have : l = [] := by
    unfold rightT at hr
    simp only [Nd.op, Nd.l, Nd.act] at hr
    rcases h12 with rfl | rfl
    · simp at hr; exact hr.1
    · simp at hr; exact hr.1
   rw [this]
 · rw [if_neg h12]
   have hact : a = ByteArray.empty := by
    rcases hops with h | h | h | h | h | h
    · exact absurd (.inl h) h12
    · exact absurd (.inr h) h12
    all_goals
     subst h
     unfold rightT at hr
     simp [Nd.op, Nd.l, Nd.act] at hr
     exact of_decide_eq_true hr.2
   subst hact
   by_cases h6 : o = 6
   · rw [if_pos h6]
     subst h6
     obtain ⟨x, y, rfl, h1, h2⟩ := hn.n.lp rfl
     rw [lopT, lop2, if_neg h1, lopE, if_neg h2]
   · rw [if_neg h6]
     have h3 : ∀ x ∈ l, x.op ≠ o ∧ (o ≠ 4 → x.op ≠ 2) := fun x hx => ⟨(htwo h6 x hx).2, fun h4 => hns (by omega) x hx⟩
     have hlen : 2 ≤ l.length := by
      cases l with
      | nil =>
        exfalso
        rcases hops with h | h | h | h | h | h
        · exact h12 (.inl h)
        · exact h12 (.inr h)
        all_goals
         subst h
         unfold rightT at hr
         simp [Nd.op, Nd.l, Nd.act] at hr h6
      | cons x m => exact (htwo h6 x (by simp)).1
     rw [joinT, prt_self h3, ord_self (fun h => hxo h) (fun h3 h4 => han (by omega)), end_self hlen]
theorem nor_nor {t : Nd} (h : okT t = true) : norT (norT t) = norT t := nf_nor _ (nor_nf t h)
mutual
def actT : Nd → List ByteArray
 | .mk o a l => if o = 1 then a :: actL l else actL l
def actL : List Nd → List ByteArray
 | [] => []
 | x :: l => actT x ++ actL l
end
theorem actL_mem {l : List Nd} {s : ByteArray} : s ∈ actL l ↔ ∃ x ∈ l, s ∈ actT x := by
 induction l with
 | nil => simp [actL]
 | cons x l ih => rw [actL, List.mem_append, ih]; simp
theorem act_op {x : Nd} (h : x.op ≠ 1) : actT x = actL x.l := by
 obtain ⟨o, a, l⟩ := x
 rw [actT, if_neg (show ¬ o = 1 from h)]; rfl
theorem act_sil : actT silT = [] := rfl
theorem act_sil' {x : Nd} (h : rightT x = true) (h2 : x.op = 2) : actT x = [] := by
 unfold rightT at h
 rw [h2] at h
 simp at h
 rw [act_op (by omega), h.1]; rfl
theorem act_prt {op : Int} (ho : op = 3 ∨ op = 4 ∨ op = 5) {l : List Nd} (hl : ∀ x ∈ l, rightT x = true) {s : ByteArray} : s ∈ actL (prtT op l) ↔ s ∈ actL l := by
 rw [actL_mem, actL_mem]
 unfold prtT
 constructor
 · rintro ⟨y, hy, hs⟩
   obtain ⟨x, hx, hy⟩ := List.mem_flatMap.1 hy
   refine ⟨x, hx, ?_⟩
   split at hy
   · rename_i h
     rw [act_op (by omega), actL_mem]
     exact ⟨y, hy, hs⟩
   · split at hy
     · rw [List.mem_singleton] at hy; subst hy; exact hs
     · cases hy
 · rintro ⟨x, hx, hs⟩
   by_cases h1 : x.op = op
   · rw [act_op (by omega), actL_mem] at hs
     obtain ⟨y, hy, hs⟩ := hs
     exact ⟨y, List.mem_flatMap.2 ⟨x, hx, by rw [if_pos h1]; exact hy⟩, hs⟩
   · by_cases h2 : x.op ≠ 2 ∨ op = 4
     · exact ⟨x, List.mem_flatMap.2 ⟨x, hx, by rw [if_neg h1, if_pos h2]; simp⟩, hs⟩
     · rw [act_sil' (hl x hx) (by omega)] at hs; cases hs
theorem act_end {op : Int} (ho : op = 3 ∨ op = 4 ∨ op = 5) {p : List Nd} {s : ByteArray} : s ∈ actT (endT op p) ↔ s ∈ actL p := by
 match p with
 | [] => rw [endT, act_sil, actL]
 | [x] => rw [endT, actL, actL, List.append_nil]
 | x :: y :: l => rw [endT, act_op (by simp only [Nd.op]; omega)]; rfl
theorem act_join {op : Int} (ho : op = 3 ∨ op = 4 ∨ op = 5) {l : List Nd} (hl : ∀ x ∈ l, rightT x = true) {s : ByteArray} : s ∈ actT (joinT op l) ↔ s ∈ actL l := by
 rw [joinT, act_end ho, ← act_prt ho hl, actL_mem, actL_mem]
 exact ⟨fun ⟨x, hx, hs⟩ => ⟨x, ord_mem.1 hx, hs⟩, fun ⟨x, hx, hs⟩ => ⟨x, ord_mem.2 hx, hs⟩⟩
theorem act_nor : ∀ (t : Nd), okT t = true → ∀ s, s ∈ actT (norT t) ↔ s ∈ actT t := Nd.ind fun o a l ih hok s => by
 obtain ⟨hr, hp⟩ := okT_iff.1 hok
 simp only [Nd.l] at hp
 have hnf : ∀ x ∈ norL l, NF x := fun x hx => by
  rw [norL_eq] at hx
  obtain ⟨y, hy, rfl⟩ := List.mem_map.1 hx
  exact nor_nf y (hp y hy)
 have hL : s ∈ actL (norL l) ↔ s ∈ actL l := by
  rw [actL_mem, actL_mem, norL_eq]
  constructor
  · rintro ⟨y, hy, hs⟩
    obtain ⟨x, hx, rfl⟩ := List.mem_map.1 hy
    exact ⟨x, hx, (ih x hx (hp x hx) s).1 hs⟩
  · rintro ⟨x, hx, hs⟩
    exact ⟨norT x, List.mem_map_of_mem hx, (ih x hx (hp x hx) s).2 hs⟩
 have hops := right_ops hr
 simp only [Nd.op] at hops
 rw [norT]
 unfold nodT
 by_cases h12 : o = 1 ∨ o = 2
 · rw [if_pos h12]
   have hl : l = [] := by
    unfold rightT at hr
    simp only [Nd.op, Nd.l, Nd.act] at hr
    rcases h12 with rfl | rfl
    · simp at hr; exact hr.1
    · simp at hr; exact hr.1
   rw [hl]
 · rw [if_neg h12]
   by_cases h6 : o = 6
   · rw [if_pos h6]
     subst h6
     obtain ⟨x, y, rfl⟩ : ∃ x y, l = [x, y] := by
      unfold rightT at hr
      simp [Nd.op, Nd.l, Nd.act] at hr
      match l, hr.1 with
      | [x, y], _ => exact ⟨x, y, rfl⟩
     rw [norL, norL, norL] at hL hnf ⊢
     rw [act_op (x := .mk 6 a [x, y]) (by simp [Nd.op])]
     show _ ↔ s ∈ actL [x, y]
     rw [← hL, lopT]
     have hF := hnf (norT x) (by simp)
     have hS := hnf (norT y) (by simp)
     generalize norT x = F at hF ⊢
     generalize norT y = S at hS ⊢
     have hE : ∀ p : Nd × Nd, rightT p.1 = true → rightT p.2 = true → (s ∈ actT (lopE p) ↔ s ∈ actT p.1 ∨ s ∈ actT p.2) := fun p h1 h2 => by
      unfold lopE
      split
      · rename_i h
        rw [act_sil, act_sil' h1 h.1, act_sil' h2 h.2]; simp
      · rw [act_op (by simp [Nd.op])]
        show s ∈ actL [p.1, p.2] ↔ _
        rw [actL_mem]; simp
     have hSS : s ∈ actL [F, S] ↔ s ∈ actT F ∨ s ∈ actT S := by rw [actL_mem]; simp
     rw [hSS]
     unfold lop2
     by_cases hf6 : F.op = 6
     · rw [if_pos hf6]
       obtain ⟨A, B, hAB, _⟩ := hF.n.lp hf6
       rw [hAB]
       have hpp := hF.p
       rw [hAB] at hpp
       have hB := hpp B (by simp)
       rw [hE _ (hpp A (by simp)).n.rt (join_nf (by omega) (fun z hz => by
        simp only [List.mem_cons, List.not_mem_nil, or_false] at hz
        rcases hz with rfl | rfl
        · exact hB
        · exact hS)).n.rt, act_join (by omega) (fun z hz => by
        simp only [List.mem_cons, List.not_mem_nil, or_false] at hz
        rcases hz with rfl | rfl
        · exact hB.n.rt
        · exact hS.n.rt), act_op (x := F) (by omega), hAB, actL_mem, actL_mem]
       simp [or_assoc]
     · rw [if_neg hf6, hE _ hF.n.rt hS.n.rt]
   · rw [if_neg h6, act_join (by omega) (fun x hx => (hnf x hx).n.rt), hL, act_op (by simp only [Nd.op]; omega)]
     rfl
end Go.Proofs.YtbfilfhgcihhoaaGreatDoor
namespace Go.En
open Go.RowKit Go.Cb
set_option linter.all false
section
variable {sL hP : List (Nat × Ent)}
end
open Go.RowKit Go.Cb Go.Proofs Go.Sort Go.ChangeShapes Go.WideShapes Go.ChangeAt
def SortS (P : Program) (fs : Nat) : Prop := ∀ (blk cap : Nat) (zs : List (List UInt8)) (w : World), Go.Sort.Holds encStr w blk 0 zs.toArray → blk < w.heap.size → zs.length < 4611686018427387904 →
 Calls P fs #[.slice (some ⟨blk, 0, none⟩) zs.length cap] w fun e w' => e = .returned (.tuple #[]) ∧ ∃ n os, w' = grow (putRow encStr (Go.Sort.ahead w n) blk 0 (zs.mergeSort fun x y => decide (x ≤ y)).toArray) os
def pEnc (s : List UInt8) : PV := .val (encStr s)
section
variable {P : Program} {c : Ctx} {ops : Array Oper} {Q : Exit → Act → World → Prop} {rest : List Oper} {sL hP : List (Nat × Ent)} {o : Oper}
theorem s_sortS1 {fs e d : Nat} {zs : List (List UInt8)} {h : Value} {q : PV} {x : Operand} {ats : Array TypeId} (l : Nat) (hS : SortS P fs) (hc : ∀ args w, (callFunc fs args).run P w = .ok (.enter fs args) w)
 (kk : aL P c ops Q rest ⟨put d (.tuple #[], .val (.tuple #[])) sL, put l (h, .own e 1 zs.length ((zs.mergeSort fun x y => decide (x ≤ y)).map pEnc)) hP⟩)
 (hn : 0 < zs.length) (hn2 : zs.length < 4611686018427387904 := by omega) (hw : wants ops sL o = some true := by exact rfl) (hd : o.dst = some d := by exact rfl) (hdn : d < c.nt := by exact Nat.le_of_ble_eq_true rfl) (ho : o.op = .call { callee := .value (.func fs), args := #[x], argTypes := ats } := by exact rfl) (hx : ev sL x = some (h, q) := by exact rfl) (hl : lk hP l = some (h, .own e 1 zs.length (zs.map pEnc)) := by exact rfl) : aL P c ops Q (o :: rest) (⟨sL, hP⟩ : St) :=
 aL_run hw fun a w F H => by
  have hxv := (H.rd.ev hx).1
  have hTr := H.tr l _ _ hl
  obtain ⟨xs, Fs, hrow, hlen, hT, hdj, hb, hF⟩ := hTr.row
  obtain ⟨blk, cap, hh, hc1, hc2, hc3⟩ := own_hdr hTr hn
  have hblkF : F l blk := (hF blk).2 (.inl (by rw [hh]; rfl))
  have hxs : ∀ (j : Nat) (v : Value), xs[j]? = some v → ∃ z, zs[j]? = some z ∧ v = encStr z := fun j v hv => by
   obtain ⟨p, hp⟩ := get_of_len hv hlen.symm
   have h1 := hp
   rw [List.getElem?_map, Option.map_eq_some_iff] at h1
   obtain ⟨z, hz, rfl⟩ := h1
   exact ⟨z, hz, ((hT j v _ hv hp).sh rfl).vOf⟩
  have hHold : Go.Sort.Holds encStr w blk 0 zs.toArray := fun j hj => by
   simp only [List.size_toArray] at hj
   have hrow' := hrow
   rw [hh] at hrow'
   obtain ⟨v, hv⟩ := get_of_lt (show j < xs.length by rw [← hlen, List.length_map]; exact hj)
   obtain ⟨z, hz, rfl⟩ := hxs j v hv
   refine ⟨?_, by rw [Nat.zero_add]; exact hrow'.frozenAt j⟩
   rw [Nat.zero_add, row_cell hrow' hv]
   have : zs.toArray[j]! = z := by
    have hz' := (List.getElem?_eq_some_iff.1 hz).2
    simp [hj, hz']
   rw [this]
  have hcall := hS blk cap zs w hHold hc3 hn2
  unfold Oper.wp
  have hrun : (execOp a.eval o).run P w = .ok (.enter fs #[h]) w := by
   have hev : a.eval (.func fs) = .func (.func fs) #[] #[] := rfl
   simp [execOp, ho, resolve, Deferred.ofValue, hev, invoke, hxv, hc]
  rw [hrun, Oper.upon_enter, hh]
  refine hcall.mono fun e' w' ⟨he', m, os, hw'⟩ => ?_
  subst he'
  have hsl : (zs.mergeSort fun x y => decide (x ≤ y)).length = zs.length := List.length_mergeSort _
  generalize hsd : (zs.mergeSort fun x y => decide (x ≤ y)) = sd at hsl hw' kk
  have hch0 : Chg (fun b => b = blk) w w' := by
   rw [hw']
   refine ⟨rfl, rfl, rfl, ?_, fun i hi hne => ?_⟩
   · simp [grow, putRow, mapBlock, Go.Sort.ahead]
   · have : (grow (putRow encStr (Go.Sort.ahead w m) blk 0 sd.toArray) os).heap = (w.heap.modify blk (onCells (putCells encStr 0 sd.toArray))) ++ os := rfl
     rw [this, Array.getElem?_append_left (by simpa using hi), Array.getElem?_modify, if_neg (fun e => hne e.symm)]
  rw [hd]
  refine kk _ _ ⟨fun l' => if l' = l then (fun b => b = blk) else F l', ?_⟩
  refine H.change (fun l' => l' = l) hdn (hch0.wid fun b hb' => .inl ⟨l, _, rfl, hl, by rw [hb']; exact hblkF⟩) (fun l' z hne hz => ?_) (fun l' z b hT' hz hb' => ?_) (fun hmm l' u p hT' hz => ?_) (fun l1 l2 _ _ _ h1 h2 hne => absurd (h1.trans h2.symm) hne) (fun _ => .val _) (fun _ => by rw [hw']; exact Nat.le_add_right _ _)
  · rcases lk_put hz with ⟨e1, _⟩ | ⟨_, e1⟩
    · exact absurd e1.symm hne
    · exact ⟨e1, by simp [hne]⟩
  · subst hT'
    simp only [if_true] at hb'
    exact .inl ⟨l', _, rfl, hl, by rw [hb']; exact hblkF⟩
  · subst hT'
    rw [lk_put_self] at hz
    cases hz
    simp only [if_true]
    rcases hrow.2 with ⟨e1, _⟩ | ⟨g', cap', cur, e1, _, e3, e4, e5, e6, e7⟩
    · rw [hh] at e1; cases e1
    · rw [hh] at e1
      cases e1
      have hlt := blk_lt e3
      refine .own (sd.map encStr) (fun _ _ => False) ⟨by rw [List.length_map, hsl, Nat.mul_one], .inr ⟨blk, cap, putCells encStr 0 sd.toArray cur, hh, Nat.zero_le _, ?_, e4, e5, by simp [putCells]; omega, ?_⟩⟩ (by simp) (fun t v p hv hp => ?_) (fun _ _ _ _ _ _ h => h.elim) (fun _ _ _ h => h.elim) (fun b => by rw [hh]; simp [Value.ownBlock, eq_comm])
      · rw [hw']
        have : (grow (putRow encStr (Go.Sort.ahead w m) blk 0 sd.toArray) os).heap = (w.heap.modify blk (onCells (putCells encStr 0 sd.toArray))) ++ os := rfl
        rw [this, Array.getElem?_append_left (by simpa using hlt), Array.getElem?_modify, if_pos rfl, e3]
        rfl
      · have := put_takeI encStr sd.toArray cur (by simp only [List.size_toArray]; rw [hsl, e6]; omega)
        simp only [List.size_toArray] at this
        rw [Nat.mul_one, ← hsl]; exact this
      · rw [List.getElem?_map, Option.map_eq_some_iff] at hv hp
        obtain ⟨z, hz, rfl⟩ := hv
        obtain ⟨z', hz', rfl⟩ := hp
        rw [hz] at hz'; cases hz'
        exact .shr (.val _) (fun _ h => h)
theorem s_sortS {fs e d : Nat} {zs : List (List UInt8)} {h : Value} {q : PV} {x : Operand} {ats : Array TypeId} (l : Nat) (hS : SortS P fs) (hS0 : SortI0 P fs) (hc : ∀ args w, (callFunc fs args).run P w = .ok (.enter fs args) w)
 (kk : aL P c ops Q rest ⟨put d (.tuple #[], .val (.tuple #[])) sL, put l (h, .own e 1 zs.length ((zs.mergeSort fun x y => decide (x ≤ y)).map pEnc)) hP⟩)
 (hn2 : zs.length < 4611686018427387904 := by omega) (hw : wants ops sL o = some true := by exact rfl) (hd : o.dst = some d := by exact rfl) (hdn : d < c.nt := by exact Nat.le_of_ble_eq_true rfl) (ho : o.op = .call { callee := .value (.func fs), args := #[x], argTypes := ats } := by exact rfl) (hx : ev sL x = some (h, q) := by exact rfl) (hl : lk hP l = some (h, .own e 1 zs.length (zs.map pEnc)) := by exact rfl) : aL P c ops Q (o :: rest) (⟨sL, hP⟩ : St) := by
 rcases Nat.eq_zero_or_pos zs.length with h0 | h0
 · have hz : zs = [] := List.eq_nil_of_length_eq_zero h0
   subst hz
   refine s_sortI0 l hS0 hc ?_ hw hd hdn ho hx hl
   exact aL_ent (fun c a w ⟨F, H⟩ => ⟨(), F, H.less (fun _ _ h => h) fun t x hx => by
    rcases lk_put hx with ⟨rfl, e1⟩ | ⟨_, e1⟩
    · rw [← e1]; simpa using hl
    · exact e1⟩) (fun _ : Unit => kk)
 · exact s_sortS1 l hS hc kk h0 hn2 hw hd hdn ho hx hl
end
section
variable {P : Program} {c : Ctx} {ops : Array Oper} {Q : Exit → Act → World → Prop} {rest : List Oper} {st : St} {sL hP : List (Nat × Ent)} {o : Oper} {Z : Nat → Bool} {K : List Nat} {fuel : Nat} {listed : Array Bool}
theorem aW_callP {i d : Nat} {p1 p2 : PV} (ho : ops[i]? = some o) (hC : CallR P c (⟨sL, hP⟩ : St) o (· = .tup [p1, p2])) (k : ∀ v1 v2, vOf p1 v1 → vOf p2 v2 → aD P c ops Q Z K fuel (listed.setIfInBounds i true) ⟨put d (.tuple [v1, v2].toArray, .tup [p1, p2]) sL, hP⟩) (hsh : shD (.tup [p1, p2]) = true := by exact rfl) (hw : wants ops sL o = some true := by exact rfl) (hd : o.dst = some d := by exact rfl) (hn : d < c.nt := by exact Nat.le_of_ble_eq_true rfl) : aW P c ops Q Z K fuel listed (⟨sL, hP⟩ : St) i := fun a w F H C hC' => by
 refine wpOp_of_list (Q' := fun _ a' w' => (Z i = true ∨ C w') ∧ Go.En.wpAnyS P .any ops Q C Z fuel (listed.setIfInBounds i true) a' w') ho (fun a' w' hq => hq) ?_
 have h1 := wanted_of H.rd hw
 unfold wpList
 rw [h1, if_pos rfl]
 refine .inl ?_
 obtain ⟨f, args, hr, hcall⟩ := hC a w F H
 unfold Oper.wp
 rw [hr, Oper.upon_enter]
 refine hcall.mono fun e w' ⟨v, q, Fr, e1, e2, e3, e4, e5, e6⟩ => ?_
 subst e1
 rw [show q = .tup [p1, p2] from e2] at e4
 have hS := e4.shD hsh
 have hS' : Shr (mof c hP F) w' v (.tup [p1, p2]) := hS.anti fun b _ h => .inl h
 have hch : Chg (nK K hP F) w w' := e3.chg
 cases hS with
 | tup vs ps hl h =>
   match vs, hl, h, hS' with
   | [v1, v2], _, h, hS' =>
     have H2 : HoldsF c ⟨put d (.tuple [v1, v2].toArray, .tup [p1, p2]) sL, hP⟩ F (a.put (some d) (.tuple [v1, v2].toArray)) w' := put_up H e3 hn hS'
     simp only [Oper.upon, hd]
     exact ⟨.inr (hC' w' hch), k v1 v2 (h 0 v1 p1 rfl rfl).vOf (h 1 v2 p2 rfl rfl).vOf _ w' F H2 C fun W hW => hC' W (hch.tr hW fun b hb => .inl hb)⟩
end
end Go.En
namespace Go.Proofs.YtbfilfhgcihhoaaGreatDoor
open Go.RowKit Go.Cb Go.En
set_option linter.all false
open Classical in
noncomputable def setK (ks : List ByteArray) (s : ByteArray) : List ByteArray := if s ∈ ks then ks else ks ++ [s]
noncomputable def colS (ks : List ByteArray) (l : List ByteArray) : List ByteArray := l.foldl setK ks
theorem setK_mem (ks : List ByteArray) (s x : ByteArray) : x ∈ setK ks s ↔ x ∈ ks ∨ x = s := by
 unfold setK
 split
 · rename_i h
   exact ⟨.inl, fun h2 => h2.elim id fun e => e ▸ h⟩
 · rw [List.mem_append, List.mem_singleton]
theorem setK_nd {ks : List ByteArray} (h : ks.Nodup) (s : ByteArray) : (setK ks s).Nodup := by
 unfold setK
 split
 · exact h
 · rename_i hn
   exact List.nodup_append.2 ⟨h, List.pairwise_singleton _ s, fun a ha b hb e => hn (by rw [List.mem_singleton] at hb; rw [← hb, ← e]; exact ha)⟩
theorem colS_mem : ∀ (l ks : List ByteArray) (x : ByteArray), x ∈ colS ks l ↔ x ∈ ks ∨ x ∈ l
 | [], ks, x => by simp [colS]
 | s :: l, ks, x => by
   show x ∈ colS (setK ks s) l ↔ _
   rw [colS_mem l, setK_mem, List.mem_cons, or_assoc]
theorem colS_nd : ∀ (l ks : List ByteArray), ks.Nodup → (colS ks l).Nodup
 | [], _, h => h
 | s :: l, ks, h => colS_nd l (setK ks s) (setK_nd h s)
theorem colS_app (ks l m : List ByteArray) : colS ks (l ++ m) = colS (colS ks l) m := List.foldl_append
def setE (ks : List ByteArray) : List (ByteArray × Value) := ks.map fun s => (s, .bool true)
theorem setE_put (ks : List ByteArray) (s : ByteArray) : mput (skv (setE ks)) (.string s) (.bool true) = skv (setE (setK ks s)) := by
 rw [mput_skv]
 congr 1
 unfold setK
 induction ks with
 | nil => simp [setE, aput]
 | cons x ks ih =>
   unfold setE at ih ⊢
   rw [List.map_cons, aput]
   by_cases h : s = x
   · subst h; simp
   · simp only [h, if_false, Ne.symm h] at ih ⊢
     by_cases h2 : s ∈ ks
     · simp [h2, h] at ih ⊢; exact ih
     · simp [h2, h] at ih ⊢; exact ih
def toB (s : ByteArray) : List UInt8 := s.data.toList
def ofB (l : List UInt8) : ByteArray := ⟨l.toArray⟩
theorem ofB_toB (s : ByteArray) : ofB (toB s) = s := by cases s; simp [ofB, toB]
def srtB (ks : List ByteArray) : List ByteArray := ((ks.map toB).mergeSort fun x y => decide (x ≤ y)).map ofB
theorem srtB_enc (ks : List ByteArray) : ((ks.map toB).mergeSort fun x y => decide (x ≤ y)).map pEnc = (srtB ks).map pStr := by
 unfold srtB
 rw [List.map_map]; rfl
theorem enc_toB (ks : List ByteArray) : (ks.map toB).map pEnc = ks.map pStr := by
 rw [List.map_map]
 refine List.map_congr_left fun s _ => ?_
 show PV.val (.string (ofB (toB s))) = pStr s
 rw [ofB_toB]
theorem srtB_len (ks : List ByteArray) : (srtB ks).length = ks.length := by unfold srtB; simp
theorem srtB_perm {l m : List ByteArray} (h : l.Perm m) : srtB l = srtB m := by
 unfold srtB
 congr 1
 have htr : ∀ a b c : List UInt8, decide (a ≤ b) = true → decide (b ≤ c) = true → decide (a ≤ c) = true := fun a b c h1 h2 => by
  simp only [decide_eq_true_eq] at *; exact List.le_trans h1 h2
 have hto : ∀ a b : List UInt8, (decide (a ≤ b) || decide (b ≤ a)) = true := fun a b => by
  simp only [Bool.or_eq_true, decide_eq_true_eq]; exact List.le_total a b
 refine List.Perm.eq_of_pairwise (le := fun x y => decide (x ≤ y) = true) (fun a b _ _ h1 h2 => ?_) (List.pairwise_mergeSort htr hto _) (List.pairwise_mergeSort htr hto _) (((List.mergeSort_perm _ _).trans (h.map toB)).trans (List.mergeSort_perm _ _).symm)
 simp only [decide_eq_true_eq] at h1 h2
 exact List.le_antisymm h1 h2
noncomputable def actR (t : Nd) : List ByteArray × Int := if valT t = true then (if (colS [] (actT t)).length ≤ 40 then (srtB (colS [] (actT t)), 0) else ([], 5)) else ([], 1)
theorem colS_perm {l m : List ByteArray} (h : ∀ s, s ∈ l ↔ s ∈ m) : (colS [] l).Perm (colS [] m) :=
 (List.perm_ext_iff_of_nodup (colS_nd l [] List.nodup_nil) (colS_nd m [] List.nodup_nil)).2 fun s => by rw [colS_mem, colS_mem, h]
theorem actR_nor {t : Nd} (h1 : valT t = true) (h2 : valT (norT t) = true) : actR (norT t) = actR t := by
 have hp := colS_perm (act_nor t (val_ok h1))
 unfold actR
 rw [if_pos h1, if_pos h2, hp.length_eq, srtB_perm hp]
theorem val_part {t x : Nd} (h : valT t = true) (hx : x ∈ t.l) : valT x = true := by
 unfold valT meaT at h ⊢
 simp only [Bool.and_eq_true, decide_eq_true_eq] at h ⊢
 obtain ⟨⟨h1, h2⟩, h3⟩ := h
 have e1 := szT_eq t
 have e2 := szL_mem hx
 have e5 : dpT t = 1 + dpL t.l := by cases t; rw [dpT]; rfl
 have e6 := dpL_mem hx
 exact ⟨⟨(okT_iff.1 h1).2 x hx, by omega⟩, by omega⟩
theorem right_act {t : Nd} (h : rightT t = true) : t.act.size ≤ 40 := by
 unfold rightT at h
 split at h
 · simp only [Bool.and_eq_true] at h
   have := h.2
   unfold isName at this
   simp only [Bool.and_eq_true, decide_eq_true_eq] at this
   exact this.1.1.2
 · split at h
   · simp only [Bool.and_eq_true, decide_eq_true_eq] at h
     rw [h.2]; exact Nat.zero_le _
   · split at h
     · simp only [Bool.and_eq_true, decide_eq_true_eq] at h
       rw [h.2]; exact Nat.zero_le _
     · split at h
       · simp only [Bool.and_eq_true, decide_eq_true_eq] at h
         rw [h.2]; exact Nat.zero_le _
       · cases h
theorem nds_sz : ∀ (t : Nd), okT t = true → ∀ d : Int, (szT t : Int) ≤ 500 → d + dpT t ≤ 81 → ndsT t d = szT t := Nd.ind fun o a l ih hok d hs hd => by
 obtain ⟨hr, hp⟩ := okT_iff.1 hok
 have ha := right_act hr
 simp only [Nd.l, Nd.act] at hp ha
 rw [dpT] at hd
 rw [szT] at hs ⊢
 have key : ∀ (m : List Nd), (∀ x ∈ m, x ∈ l) → ∀ n : Int, 0 ≤ n → n + szL m ≤ 501 → ndsL m (d + 1) n = n + szL m := fun m => by
  induction m with
  | nil => intro _ n _ _; rw [ndsL, szL]; omega
  | cons x m ih2 =>
    intro hm n hn hb
    have hx := hm x (List.mem_cons_self ..)
    have e6 := dpL_mem hx
    have e7 := szL_mem hx
    rw [szL] at hb ⊢
    rw [ndsL, if_pos (by omega), ih x hx (hp x hx) (d + 1) (by omega) (by omega), ih2 (fun y hy => hm y (List.mem_cons_of_mem _ hy)) _ (by omega) (by omega)]
    omega
 rw [ndsT, if_neg (by omega), key l (fun _ h => h) 1 (by decide) (by omega)]
 omega
theorem grt_val {t : Nd} (h : valT t = true) : grtT t = false := by
 unfold grtT
 have h' := h
 unfold valT meaT at h'
 simp only [Bool.and_eq_true, decide_eq_true_eq] at h'
 rw [nds_sz t h'.1.1 1 (by omega) (by omega)]
 exact decide_eq_false (by omega)
set_option maxRecDepth 100000
theorem tAgg24_PuJ : AggT Tryz.prog 24 3 = true := by kernel_rfl
theorem tEl54_PuJ : ElT Tryz.prog 54 9 1 16 (.string ByteArray.empty) := ⟨Tryz.underlying54, by kernel_rfl, rfl, by decide⟩
theorem tFl24_0_PuJ : FldT Tryz.prog 24 0 0 = true := by kernel_rfl
theorem tFl24_1_PuJ : FldT Tryz.prog 24 1 1 = true := by kernel_rfl
theorem tFl24_2_PuJ : FldT Tryz.prog 24 2 2 = true := by kernel_rfl
theorem tMp87_PuJ : MpT Tryz.prog 87 9 4 .string (.bool false) := ⟨Tryz.underlying87, Tryz.underlying9, .inl rfl, by show ZeroT _ _ _; unfold ZeroT; kernel_rfl⟩
theorem tNa22_PuJ : NoAgg Tryz.prog 22 = true := by kernel_rfl
theorem tNa3_PuJ : NoAgg Tryz.prog 3 = true := by kernel_rfl
theorem tNa9_PuJ : NoAgg Tryz.prog 9 = true := by kernel_rfl
theorem tSl22_PuJ : SlT Tryz.prog 22 24 3 = true := by kernel_rfl
theorem tZr24_PuJ : ZeroT Tryz.prog 24 (.agg #[(.int .i64 0), (.string ByteArray.empty), (.slice none 0 0)]) := by unfold ZeroT; kernel_rfl
theorem sortStr_c : SortS Tryz.prog 52 := fun blk cap zs w hH hb hn => Tryz.slices_Sort_string blk 0 cap zs w hH hb hn
theorem sortStr0_c : SortI0 Tryz.prog 52 := Tryz.slices_Sort_string_none
theorem actL_snoc {l : List Nd} {k : Nat} {x : Nd} (h : l[k]? = some x) : actL (l.take (k + 1)) = actL (l.take k) ++ actT x := by
 have e : ∀ m : List Nd, actL m = m.flatMap actT := fun m => by
  induction m with
  | nil => rfl
  | cons y m ih => rw [actL, ih, List.flatMap_cons]
 rw [e, e, take_snoc h, List.flatMap_append, List.flatMap_singleton]
set_option maxHeartbeats 4000000 in
theorem tCollect_e : ∀ (t : Nd), okT t = true → szT t ≤ 1000000 → ∀ (ks : List ByteArray) (m V : Value), AFh False Tryz.prog 51 [(0, m, .val m), (1, V, pTr t)] [(1000, m, .omap (skv (setE ks)))] (fun v q h => h = [(1000, m, .omap (skv (setE (colS ks (actT t)))))]) := Nd.ind fun o a l ih hok hs ks m V => by
 have e0 : pTr (.mk o a l) = .agg [pInt o, pStr a, pTrs l] := rfl
 rw [e0]
 obtain ⟨hr, hp⟩ := okT_iff.1 hok
 have hsz := szT_eq (.mk o a l)
 have hlz := len_szL l
 simp only [Nd.l, Nd.op] at hp hsz
 obtain ⟨K, hK⟩ : ∃ K, K = if o = 1 then setK ks a else ks := ⟨_, rfl⟩
 have hres : colS ks (actT (.mk o a l)) = colS K (actL l) := by
  rw [hK, actT]
  split <;> rfl
 rw [hres]
 refine AFh.of_body 23 Tryz.func51 rfl Tryz.ntmps51 (Nat.le_of_ble_eq_true rfl) rfl ?_
 intro w0 M0 N0
 refine nav ?_
 (refine aC_region ?_ <;> refine s_boxa 3 3 fun h3 => ?_ <;> refine aL_end (nav ?_) <;> try dsimp only)
 (refine aC_region ?_ <;> refine xL 6 (q_fldo 3 tFl24_0_PuJ) ?_ <;> (refine yL 7 (q_ldo 3 tNa3_PuJ) fun v7 hv7 => ?_; cases hv7) <;> refine xL 8 q_eql ?_ <;> refine aL_end (nav ?_) <;> try dsimp only)
 (first | refine cCd ?_ ?_ | refine cC ?_ ?_) <;> intro hb8
 · first
   | exact Bool.noConfusion hb8
   | (
    refine nav ?_
    (refine aC_region ?_ <;> refine xL 9 q_move ?_ <;> refine xL 10 (q_fldo 3 tFl24_1_PuJ) ?_ <;> (refine yL 11 (q_ldo 3 tNa9_PuJ) fun v11 hv11 => ?_; cases hv11) <;> (refine s_mput 1000 tMp87_PuJ ?_; rw [setE_put, show setK ks a = K by rw [hK, if_pos (by assumption)]]) <;> refine aL_end (nav ?_) <;> try dsimp only)
    (refine aC_region ?_ <;> refine xL 12 (q_fldo 3 tFl24_2_PuJ) ?_ <;> (refine yL 13 (q_ldo 3 tNa22_PuJ) fun v13 hv13 => ?_; cases hv13) <;> refine xL 14 (q_len tSl22_PuJ) ?_ <;> refine xL 15 q_move ?_ <;> refine aL_end (nav ?_) <;> try dsimp only)
    refine aC_loop (ι := { q : Nat × List ByteArray // q.1 ≤ l.length ∧ q.2 = colS K (actL (l.take q.1)) }) (fun k => ⟨[(0, _, _), (13, _, _), (14, _, _), (15, .int .i64 k.1.1, pInt k.1.1)], [(1000, m, .omap (skv (setE k.1.2)))]⟩) (fun k => l.length - k.1.1) ⟨(0, K), Nat.zero_le _, by rw [List.take_zero]; rfl⟩ (fun a w H => H.weaken ⟨rfl, rfl, rfl, rfl, trivial⟩ ⟨rfl, trivial⟩) ?_
    rintro ⟨⟨i, S⟩, hi, hS⟩
    dsimp only
    dsimp only at hi hS
    refine nav ?_
    (refine aC_region ?_ <;> refine xL 16 q_lss ?_ <;> refine aL_end (nav ?_) <;> try dsimp only)
    (first | refine cCd ?_ ?_ | refine cC ?_ ?_) <;> intro hb16
    · first
      | exact Bool.noConfusion hb16
      | (
       obtain ⟨x, hx⟩ := get_some (show i < l.length by omega)
       have e1 : ((cTrs l).drop (i * 3)).take 3 = [pInt x.op, pStr x.act, pTrs x.l] := tr_drop hx
       have e2 := tr_fit hx
       have hxm := List.mem_of_getElem? hx
       have hxs := szL_mem hxm
       have hsn := actL_snoc hx
       refine nav ?_
       (refine aC_region ?_ <;> refine xL 17 (q_idxN tSl22_PuJ) ?_ <;> (refine yL 18 (q_lda tAgg24_PuJ) fun v18 hv18 => ?_; cases hv18) <;> refine s_alloc [(.int .i64 0), (.string ByteArray.empty), (.slice none 0 0)] 3 5 tZr24_PuJ fun h5 => ?_ <;> refine s_sta 5 tAgg24_PuJ ?_ <;> refine aL_end (nav ?_) <;> try dsimp only)
       (refine aC_region ?_ <;> refine xL 19 q_move ?_ <;> (refine yL 20 (q_ldao 5 tAgg24_PuJ) fun v20 hv20 => ?_; cases hv20) <;> (refine aL_heap [(1000, m, .omap (skv (setE S)))] ⟨rfl, trivial⟩ ?_; refine aL_ch [] 21 (Tryz.call51) (ih x hxm (hp x hxm) (by omega) S m v20) (fun v21 p21 h21 hR21 => ?_); subst hR21) <;> refine aL_end (nav ?_) <;> try dsimp only)
       (refine aC_region ?_ <;> refine xL 22 q_add ?_ <;> refine xL 15 q_move ?_ <;> refine aL_end (nav ?_) <;> try dsimp only)
       refine aN_again (
        ⟨(i + 1, colS S (actT x)), lt_of_get hx, by dsimp only; rw [hsn, colS_app, ← hS]⟩
        ) (by dsimp only; omega) ⟨rfl, rfl, rfl, rfl, trivial⟩ ⟨rfl, trivial⟩)
    · first
      | exact Bool.noConfusion hb16
      | (
       refine nav ?_
       have hS2 : S = colS K (actL l) := by rw [hS, List.take_of_length_le (by omega)]
       refine end_h0 [(1000, m, .omap (skv (setE S)))] (Tryz.results51) ⟨rfl, trivial⟩ ?_
       rw [hS2]))
 · first
   | exact Bool.noConfusion hb8
   | (
    rw [show ks = K by rw [hK, if_neg (by assumption)]]
    refine nav ?_
    (refine aC_region ?_ <;> refine xL 12 (q_fldo 3 tFl24_2_PuJ) ?_ <;> (refine yL 13 (q_ldo 3 tNa22_PuJ) fun v13 hv13 => ?_; cases hv13) <;> refine xL 14 (q_len tSl22_PuJ) ?_ <;> refine xL 15 q_move ?_ <;> refine aL_end (nav ?_) <;> try dsimp only)
    refine aC_loop (ι := { q : Nat × List ByteArray // q.1 ≤ l.length ∧ q.2 = colS K (actL (l.take q.1)) }) (fun k => ⟨[(0, _, _), (13, _, _), (14, _, _), (15, .int .i64 k.1.1, pInt k.1.1)], [(1000, m, .omap (skv (setE k.1.2)))]⟩) (fun k => l.length - k.1.1) ⟨(0, K), Nat.zero_le _, by rw [List.take_zero]; rfl⟩ (fun a w H => H.weaken ⟨rfl, rfl, rfl, rfl, trivial⟩ ⟨rfl, trivial⟩) ?_
    rintro ⟨⟨i, S⟩, hi, hS⟩
    dsimp only
    dsimp only at hi hS
    refine nav ?_
    (refine aC_region ?_ <;> refine xL 16 q_lss ?_ <;> refine aL_end (nav ?_) <;> try dsimp only)
    (first | refine cCd ?_ ?_ | refine cC ?_ ?_) <;> intro hb16
    · first
      | exact Bool.noConfusion hb16
      | (
       obtain ⟨x, hx⟩ := get_some (show i < l.length by omega)
       have e1 : ((cTrs l).drop (i * 3)).take 3 = [pInt x.op, pStr x.act, pTrs x.l] := tr_drop hx
       have e2 := tr_fit hx
       have hxm := List.mem_of_getElem? hx
       have hxs := szL_mem hxm
       have hsn := actL_snoc hx
       refine nav ?_
       (refine aC_region ?_ <;> refine xL 17 (q_idxN tSl22_PuJ) ?_ <;> (refine yL 18 (q_lda tAgg24_PuJ) fun v18 hv18 => ?_; cases hv18) <;> refine s_alloc [(.int .i64 0), (.string ByteArray.empty), (.slice none 0 0)] 3 5 tZr24_PuJ fun h5 => ?_ <;> refine s_sta 5 tAgg24_PuJ ?_ <;> refine aL_end (nav ?_) <;> try dsimp only)
       (refine aC_region ?_ <;> refine xL 19 q_move ?_ <;> (refine yL 20 (q_ldao 5 tAgg24_PuJ) fun v20 hv20 => ?_; cases hv20) <;> (refine aL_heap [(1000, m, .omap (skv (setE S)))] ⟨rfl, trivial⟩ ?_; refine aL_ch [] 21 (Tryz.call51) (ih x hxm (hp x hxm) (by omega) S m v20) (fun v21 p21 h21 hR21 => ?_); subst hR21) <;> refine aL_end (nav ?_) <;> try dsimp only)
       (refine aC_region ?_ <;> refine xL 22 q_add ?_ <;> refine xL 15 q_move ?_ <;> refine aL_end (nav ?_) <;> try dsimp only)
       refine aN_again (
        ⟨(i + 1, colS S (actT x)), lt_of_get hx, by dsimp only; rw [hsn, colS_app, ← hS]⟩
        ) (by dsimp only; omega) ⟨rfl, rfl, rfl, rfl, trivial⟩ ⟨rfl, trivial⟩)
    · first
      | exact Bool.noConfusion hb16
      | (
       refine nav ?_
       have hS2 : S = colS K (actL l) := by rw [hS, List.take_of_length_le (by omega)]
       refine end_h0 [(1000, m, .omap (skv (setE S)))] (Tryz.results51) ⟨rfl, trivial⟩ ?_
       rw [hS2]))
def decK : Value × Value → ByteArray
 | (.string s, _) => s
 | _ => ByteArray.empty
theorem dec_setE (ks : List ByteArray) : (skv (setE ks)).map decK = ks := by
 unfold skv setE
 rw [List.map_map, List.map_map]
 exact (List.map_congr_left fun s _ => rfl).trans (List.map_id ks)
theorem setE_mem {ks : List ByteArray} {k v : Value} (h : (k, v) ∈ skv (setE ks)) : ∃ s, s ∈ ks ∧ k = .string s ∧ v = .bool true := by
 unfold skv setE at h
 rw [List.map_map] at h
 obtain ⟨s, hs, e⟩ := List.mem_map.1 h
 cases e
 exact ⟨s, hs, rfl, rfl⟩
theorem setE_len (ks : List ByteArray) : (skv (setE ks)).length = ks.length := by unfold skv setE; rw [List.length_map, List.length_map]
theorem left_ltS {es : Array MapEntry} {seen : Array Nat} {e : MapEntry} {clock : Nat} (hW : WfM es clock) (he : e ∈ (leftOf es seen).toList) : (leftOf es (seen.push e.born)).size < (leftOf es seen).size := by
 have h := (left_next hW he).length_eq
 rw [List.length_cons, kvOf_len, kvOf_len] at h
 omega
theorem left_kvS {es : Array MapEntry} {seen : Array Nat} {e : MapEntry} (he : e ∈ (leftOf es seen).toList) : (e.key, e.val) ∈ kvOf es := List.mem_map.2 ⟨e, left_mem he, rfl⟩
theorem share_strl (e n : Nat) (l : List ByteArray) (h : n = l.length) : share (.own e 1 n (l.map pStr)) = pStrs l := by
 subst h
 rw [share, shares_eq, List.map_map]; rfl
set_option maxHeartbeats 4000000 in
theorem tActs_e (t : Nd) (hf : FitT t) : AF Tryz.prog 28 [pTr t] (· = .tup [pStrs (actR t).1, pInt (actR t).2]) := by
 have e0 : pTr t = .agg [pInt t.op, pStr t.act, pTrs t.l] := rfl
 have hV := tValid_e t hf
 rw [e0] at hV ⊢
 refine AF.of_body 30 Tryz.func28 rfl Tryz.ntmps28 (Nat.le_of_ble_eq_true rfl) ?_
 intro w0 M0 vs hl hv
 obtain ⟨v0, rfl⟩ := len1 hl
 clear hl hv
 refine nav ?_
 (refine aC_region ?_ <;> refine s_boxa 1 3 fun h1 => ?_ <;> refine xL 2 q_assign ?_ <;> refine xL 3 q_assign ?_ <;> refine aL_end (nav ?_) <;> try dsimp only)
 (refine aC_region ?_ <;> (refine yL 7 (q_ldao 1 tAgg24_PuJ) fun v7 hv7 => ?_; cases hv7) <;> (refine cS 8 (cA Tryz.call26 (hV)) fun v8 hv8 => ?_; cases hv8) <;> refine xL 9 q_not ?_ <;> refine aL_end (nav ?_) <;> try dsimp only)
 (first | refine cCd ?_ ?_ | refine cC ?_ ?_) <;> intro hb9
 · first
   | exact Bool.noConfusion hb9
   | (
    refine nav ?_
    (refine aC_region ?_ <;> refine xL 2 q_assign ?_ <;> refine xL 3 q_assign ?_ <;> refine aL_end (nav ?_) <;> try dsimp only)
    refine aR_ent (nilSlD (t := 2) rfl) fun _ => ?_
    refine ret_ss (Tryz.results28) rfl rfl ?_
    rw [show actR t = ([], 1) by unfold actR; rw [if_neg (by simpa using hb9)]]; rfl)
 · first
   | exact Bool.noConfusion hb9
   | (
    have hv : valT t = true := by simpa using hb9
    have hok := val_ok hv
    have hsz := val_sz hv
    obtain ⟨ks, hks⟩ : ∃ ks, ks = colS [] (actT t) := ⟨_, rfl⟩
    have hR : actR t = if ks.length ≤ 40 then (srtB ks, 0) else ([], 5) := by unfold actR; rw [if_pos hv, hks]
    have hnd : ks.Nodup := by rw [hks]; exact colS_nd _ _ List.nodup_nil
    refine nav ?_
    (refine aC_region ?_ <;> refine s_mkmap 10 fun h10 ho10 => ?_ <;> refine xL 4 q_assign ?_ <;> refine aL_end (nav ?_) <;> try dsimp only)
    refine aC_ent (relabel (l := 10) 1000 rfl rfl) fun _ => ?_
    (refine aC_region ?_ <;> refine xL 11 q_move ?_ <;> (refine yL 12 (q_ldao 1 tAgg24_PuJ) fun v12 hv12 => ?_; cases hv12) <;> (refine aL_heap [(1000, h10, .omap (skv (setE []))), (1, _, _)] ⟨rfl, rfl, trivial⟩ ?_; refine aL_ch [1] 13 (Tryz.call51) (tCollect_e t hok (by omega) [] h10 v12) (fun v13 p13 h13 hR13 => ?_); subst hR13; rw [← hks]) <;> refine aL_end (nav ?_) <;> try dsimp only)
    (refine aC_region ?_ <;> refine xL 14 q_move ?_ <;> refine xL 15 (q_mleno 1000 Tryz.underlying87) ?_ <;> refine xL 16 q_gtr ?_ <;> refine aL_end (nav ?_) <;> try dsimp only)
    (first | refine cCd ?_ ?_ | refine cC ?_ ?_) <;> intro hb16
    · first
      | exact Bool.noConfusion hb16
      | (
       refine nav ?_
       (refine aC_region ?_ <;> refine xL 2 q_assign ?_ <;> refine xL 3 q_assign ?_ <;> refine aL_end (nav ?_) <;> try dsimp only)
       refine aR_ent (nilSlD (t := 2) rfl) fun _ => ?_
       refine ret_ss (Tryz.results28) rfl rfl ?_
       rw [setE_len] at hb16
       rw [hR, if_neg (by omega)]; rfl)
    · first
      | exact Bool.noConfusion hb16
      | (
       rw [setE_len] at hb16
       rw [if_pos (by omega)] at hR
       refine nav ?_
       (refine aC_region ?_ <;> refine xL 5 q_assign ?_ <;> refine aL_end (nav ?_) <;> try dsimp only)
       refine aC_ent (En.freeze (l := 1000) (t := 4) rfl rfl) fun _ => ?_
       (refine aC_region ?_ <;> refine xL 17 q_move ?_ <;> refine aL_range 18 Tryz.underlying87 (fun b18 r18 c18 es18 hkv18 hWf18 => ?_) <;> refine aL_end (nav ?_) <;> try dsimp only)
       refine aC_ent (nilOwn 200 9 1 rfl) fun _ => ?_
       refine aC_loop (ι := { x : Value × Array Nat × List ByteArray // x.1.oneCell' = true ∧ (x.2.2 ++ (kvOf (leftOf es18 x.2.1)).map decK).Perm ks }) (fun k => ⟨[(18, _, _), (5, k.1.1, .val k.1.1)], [(18, itv r18, itP b18 r18 c18 es18 k.1.2.1), (200, k.1.1, .own 9 1 k.1.2.2.length (k.1.2.2.map pStr))]⟩) (fun k => (leftOf es18 k.1.2.1).size) ⟨(.slice none 0 0, #[], []), rfl, by rw [left_all, ← hkv18, dec_setE]; exact .refl _⟩ (fun a w H => H.weaken ⟨rfl, rfl, trivial⟩ ⟨rfl, rfl, trivial⟩) ?_
       rintro ⟨⟨hov, seen, L⟩, ho, hp⟩
       dsimp only
       dsimp only at ho hp
       have hLl : L.length ≤ 40 := by
        have := hp.length_eq
        rw [List.length_append] at this; omega
       have hLm : (L.map pStr).length = L.length := List.length_map _
       refine nav ?_
       (refine aC_region ?_ <;> refine aL_next 18 19 hWf18 (fun hlf18 => ?_) (fun e18 hle18 => ?_) <;> refine xL 20 q_extract ?_ <;> refine aL_end (nav ?_) <;> try dsimp only) <;> (
        (first | refine cCd ?_ ?_ | refine cC ?_ ?_) <;> intro hb20
        · first
          | exact Bool.noConfusion hb20
          | (
           refine nav ?_
           (refine aC_region ?_ <;> refine xL 21 (q_entry 18 hWf18 (left_mem hle18)) ?_ <;> refine xL 22 q_extract ?_ <;> refine xL 6 q_assign ?_ <;> refine aL_end (nav ?_) <;> try dsimp only)
           obtain ⟨s, hmem, hks, hvs⟩ := setE_mem (hkv18 ▸ left_kvS hle18)
           rw [hks]
           (refine aC_region ?_ <;> refine xL 23 q_move ?_ <;> refine xL 24 q_move ?_ <;> refine s_lit1 (kk := 1) 25 tEl54_PuJ fun h25 ho25 => ?_ <;> refine s_app 200 25 26 tEl54_PuJ fun h26 ho26 => ?_ <;> refine xL 5 q_assign ?_ <;> refine aL_end (nav ?_) <;> try dsimp only)
           refine aN_ent (relabel (l := 26) 200 rfl rfl) fun _ => ?_
           rw [show L.map pStr ++ [_] = (L ++ [s]).map pStr from (by rw [List.map_append]; rfl), show L.length + 1 = (L ++ [s]).length by simp]
           refine aN_again (
            ⟨(h26, seen.push e18.born, L ++ [s]), ho26, by
              refine .trans ?_ hp
              have h1 := (left_next hWf18 hle18).map decK
              rw [List.map_cons, hks, hvs] at h1
              show (L ++ [_] ++ _).Perm _
              rw [List.append_assoc]
              exact h1.symm.append_left L⟩
            ) (left_ltS hWf18 hle18) ⟨rfl, rfl, trivial⟩ ⟨rfl, rfl, trivial⟩)
        · first
          | exact Bool.noConfusion hb20
          | (
           refine nav ?_
           have hp0 : L.Perm ks := by
            rw [hlf18] at hp
            have h1 : kvOf (#[] : Array MapEntry) = [] := rfl
            rw [h1, List.map_nil, List.append_nil] at hp
            exact hp
           have hLL : (L.map toB).length = L.length := List.length_map _
           refine aC_ent (recast (l := 200) (p' := .own 9 1 (L.map toB).length ((L.map toB).map pEnc)) rfl (by rw [enc_toB, hLL])) fun _ => ?_
           (refine aC_region ?_ <;> refine xL 27 q_move ?_ <;> refine s_sortS (zs := L.map toB) 200 sortStr_c sortStr0_c (Tryz.call52) ?_ <;> refine aL_end (nav ?_) <;> try dsimp only)
           rw [srtB_enc, srtB_perm hp0]
           refine aC_ent (En.freeze (l := 200) (t := 5) rfl rfl) fun _ => ?_
           rw [share_strl _ _ _ (by rw [srtB_len, hLL, hp0.length_eq])]
           (refine aC_region ?_ <;> refine xL 29 q_move ?_ <;> refine xL 2 q_assign ?_ <;> refine xL 3 q_assign ?_ <;> refine aL_end (nav ?_) <;> try dsimp only)
           refine ret_ss (Tryz.results28) rfl rfl ?_
           rw [hR]))))
theorem tAgg24_PuK : AggT Tryz.prog 24 3 = true := by kernel_rfl
theorem tFl24_0_PuK : FldT Tryz.prog 24 0 0 = true := by kernel_rfl
theorem tFl24_2_PuK : FldT Tryz.prog 24 2 2 = true := by kernel_rfl
theorem tNa22_PuK : NoAgg Tryz.prog 22 = true := by kernel_rfl
theorem tNa3_PuK : NoAgg Tryz.prog 3 = true := by kernel_rfl
theorem tSl22_PuK : SlT Tryz.prog 22 24 3 = true := by kernel_rfl
theorem tZr24_PuK : ZeroT Tryz.prog 24 (.agg #[(.int .i64 0), (.string ByteArray.empty), (.slice none 0 0)]) := by unfold ZeroT; kernel_rfl
theorem str_at {l : List Nd} (h : StrT' l) {i : Nat} {x y : Nd} (hx : l[i]? = some x) (hy : l[i + 1]? = some y) : cmpT x y < 0 := by
 obtain ⟨h1, rfl⟩ := List.getElem?_eq_some_iff.1 hx
 obtain ⟨h2, rfl⟩ := List.getElem?_eq_some_iff.1 hy
 exact List.pairwise_iff_getElem.1 h i (i + 1) h1 h2 (Nat.lt_succ_self i)
theorem asc_at {l : List Nd} (h : AscT l) {i : Nat} {x y : Nd} (hx : l[i]? = some x) (hy : l[i + 1]? = some y) : cmpT x y ≤ 0 := by
 obtain ⟨h1, rfl⟩ := List.getElem?_eq_some_iff.1 hx
 obtain ⟨h2, rfl⟩ := List.getElem?_eq_some_iff.1 hy
 have h3 : leT l[i] l[i + 1] := List.pairwise_iff_getElem.1 h i (i + 1) h1 h2 (Nat.lt_succ_self i)
 unfold leT at h3
 have := cmpT_tri l[i] l[i + 1]
 omega
theorem c2_0 (A B : Nd) : (cTrs [A, B])[0 * 3 + 0]? = some (pInt A.op) := by rw [cTrs_eq]; simp only [List.flatMap_cons]; rfl
theorem c2_1 (A B : Nd) : (cTrs [A, B])[1 * 3 + 0]? = some (pInt B.op) := by rw [cTrs_eq]; simp only [List.flatMap_cons]; rfl
set_option maxHeartbeats 4000000 in
theorem w19Shaped_e : ∀ (t : Nd), NF t → valT t = true → AF Tryz.prog 30 [pTr t] (· = pBool true) := Nd.ind fun o a l ih hn hv => by
 have e0 : pTr (.mk o a l) = .agg [pInt o, pStr a, pTrs l] := rfl
 rw [e0]
 have hok := val_ok hv
 have hsz := val_sz hv
 have hf := fit_ok _ hok (by omega)
 have hll := len_szL l
 have hs2 := szT_eq (.mk o a l)
 have hr := right_ops hn.n.rt
 have n1 := hn.n.two
 have n2 := hn.n.ns
 have n3 := hn.n.xo
 have n4 := hn.n.an
 have n5 := hn.n.lp
 have hNp := hn.p
 have hvp : ∀ x ∈ l, valT x = true := fun x hx => val_part hv hx
 have hfp := hf.p
 simp only [Nd.l, Nd.op] at n1 n2 n3 n4 hNp hfp hs2 hr
 replace n5 : o = 6 → ∃ A B, l = [A, B] ∧ A.op ≠ 6 ∧ ¬ (A.op = 2 ∧ B.op = 2) := n5
 refine AF.of_body 112 Tryz.func30 rfl Tryz.ntmps30 (Nat.le_of_ble_eq_true rfl) ?_
 intro w0 M0 vs hl hv
 obtain ⟨v0, rfl⟩ := len1 hl
 clear hl hv
 refine nav ?_
 (refine aC_region ?_ <;> refine s_boxa 1 3 fun h1 => ?_ <;> refine xL 2 q_assign ?_ <;> refine aL_end (nav ?_) <;> try dsimp only)
 (refine aC_region ?_ <;> refine xL 7 (q_fldo 1 tFl24_2_PuK) ?_ <;> (refine yL 8 (q_ldo 1 tNa22_PuK) fun v8 hv8 => ?_; cases hv8) <;> refine xL 9 (q_len tSl22_PuK) ?_ <;> refine xL 10 q_move ?_ <;> refine aL_end (nav ?_) <;> try dsimp only)
 refine aC_loop (ι := { i : Nat // i ≤ l.length }) (fun k => ⟨[(1, _, _), (8, _, _), (9, _, _), (10, .int .i64 k.1, pInt k.1)], [(1, _, _)]⟩) (fun k => l.length - k.1) ⟨0, Nat.zero_le _⟩ (fun a w H => H.weaken ⟨rfl, rfl, rfl, rfl, trivial⟩ ⟨rfl, trivial⟩) ?_
 rintro ⟨i, hi⟩
 dsimp only
 refine nav ?_
 (refine aC_region ?_ <;> refine xL 11 q_lss ?_ <;> refine aL_end (nav ?_) <;> try dsimp only)
 (first | refine cCd ?_ ?_ | refine cC ?_ ?_) <;> intro hb11
 · first
   | exact Bool.noConfusion hb11
   | (
    obtain ⟨x, hx⟩ := get_some (show i < l.length by omega)
    have e1 : ((cTrs l).drop (i * 3)).take 3 = [pInt x.op, pStr x.act, pTrs x.l] := tr_drop hx
    have e2 := tr_fit hx
    have hxm := List.mem_of_getElem? hx
    have hS := ih x hxm (hNp x hxm) (hvp x hxm)
    have hxf := hfp x hxm
    have ex : pTr x = .agg [pInt x.op, pStr x.act, pTrs x.l] := rfl
    rw [ex] at hS
    have hx2 : o ≠ 6 → 2 ≤ l.length ∧ x.op ≠ o := fun h => n1 h x hxm
    have hx3 : o = 3 ∨ o = 5 → x.op ≠ 2 := fun h => n2 h x hxm
    refine nav ?_
    refine aC_mid2 (fun h4 : Value => ⟨[(1, padd (sbase h1) 0, .val (padd (sbase h1) 0)), (3, .int .i64 (i : Nat), pInt (i : Nat)), (4, padd (sbase h4) 0, .val (padd (sbase h4) 0)), (8, v8, pTrs l), (9, .int .i64 (l.length : Nat), .val (.int .i64 (l.length : Nat))), (10, .int .i64 (i : Nat), pInt (i : Nat))], [(1, h1, .own 24 3 1 [pInt o, pStr a, pTrs l]), (4, h4, .own 24 3 1 [pInt x.op, pStr x.act, pTrs x.l])]⟩) ?_ ?_
    · (refine aC_region ?_ <;> refine xL 12 q_move ?_ <;> refine xL 13 (q_idxN tSl22_PuK) ?_ <;> (refine yL 14 (q_lda tAgg24_PuK) fun v14 hv14 => ?_; cases hv14) <;> refine s_alloc [(.int .i64 0), (.string ByteArray.empty), (.slice none 0 0)] 3 4 tZr24_PuK fun h4 => ?_ <;> refine xL 3 q_assign ?_ <;> refine s_sta 4 tAgg24_PuK ?_ <;> refine aL_end (nav ?_) <;> try dsimp only)
      (refine aC_region ?_ <;> (refine yL 15 (q_ldao 4 tAgg24_PuK) fun v15 hv15 => ?_; cases hv15) <;> (refine cS 16 (cA Tryz.call30 (hS)) fun v16 hv16 => ?_; cases hv16) <;> refine xL 17 q_not ?_ <;> refine xL 18 q_move ?_ <;> refine xL 19 (q_fldo 1 tFl24_0_PuK) ?_ <;> (refine yL 20 (q_ldo 1 tNa3_PuK) fun v20 hv20 => ?_; cases hv20) <;> refine xL 21 q_neq ?_ <;> refine xL 22 q_move ?_ <;> (refine bLd 22 (fun hb22 => ?_) (fun hb22 => ?_) <;> (first | refine kL 23 ?_ | refine xL 23 (q_fldo 1 tFl24_2_PuK) ?_)) <;> (first | refine kL 24 ?_ | (refine yL 24 (q_ldo 1 tNa22_PuK) fun v24 hv24 => ?_; cases hv24)) <;> (first | refine kL 25 ?_ | refine xL 25 (q_len tSl22_PuK) ?_) <;> (first | refine kL 26 ?_ | refine xL 26 q_lss ?_) <;> (first | refine kL 27 ?_ | refine xL 27 q_move ?_) <;> (first | refine kL 28 ?_ | (refine bLd 27 (fun hb27 => ?_) (fun hb27 => ?_) <;> (first | refine kL 28 ?_ | refine xL 28 (q_fldo 4 tFl24_0_PuK) ?_))) <;> (first | refine kL 29 ?_ | (refine yL 29 (q_ldo 4 tNa3_PuK) fun v29 hv29 => ?_; cases hv29)) <;> (first | refine kL 30 ?_ | refine xL 30 (q_fldo 1 tFl24_0_PuK) ?_) <;> (first | refine kL 31 ?_ | (refine yL 31 (q_ldo 1 tNa3_PuK) fun v31 hv31 => ?_; cases hv31)) <;> (first | refine kL 32 ?_ | refine xL 32 q_eql ?_) <;> (first | refine kL 33 ?_ | refine xL 33 q_pick ?_) <;> refine xL 34 q_pick ?_ <;> refine xL 35 q_pick ?_ <;> refine xL 36 q_move ?_ <;> (first | refine kL 37 ?_ | refine xL 37 (q_fldo 1 tFl24_0_PuK) ?_ | (refine bLd 36 (fun hb36 => ?_) (fun hb36 => ?_) <;> (first | refine kL 37 ?_ | refine xL 37 (q_fldo 1 tFl24_0_PuK) ?_))) <;> (first | refine kL 38 ?_ | (refine yL 38 (q_ldo 1 tNa3_PuK) fun v38 hv38 => ?_; cases hv38)) <;> (first | refine kL 39 ?_ | refine xL 39 q_eql ?_) <;> (first | refine kL 40 ?_ | refine xL 40 q_move ?_) <;> (first | refine kL 41 ?_ | (refine bLd 40 (fun hb40 => ?_) (fun hb40 => ?_) <;> (first | refine kL 41 ?_ | refine xL 41 (q_fldo 1 tFl24_0_PuK) ?_))) <;> (first | refine kL 42 ?_ | (refine yL 42 (q_ldo 1 tNa3_PuK) fun v42 hv42 => ?_; cases hv42)) <;> (first | refine kL 43 ?_ | refine xL 43 q_eql ?_) <;> (first | refine kL 44 ?_ | refine xL 44 q_pick ?_) <;> (first | refine kL 45 ?_ | refine xL 45 q_move ?_) <;> (first | refine kL 46 ?_ | refine xL 46 (q_fldo 4 tFl24_0_PuK) ?_ | (refine bLd 45 (fun hb45 => ?_) (fun hb45 => ?_) <;> (first | refine kL 46 ?_ | refine xL 46 (q_fldo 4 tFl24_0_PuK) ?_))) <;> (first | refine kL 47 ?_ | (refine yL 47 (q_ldo 4 tNa3_PuK) fun v47 hv47 => ?_; cases hv47)) <;> (first | refine kL 48 ?_ | refine xL 48 q_eql ?_) <;> (first | refine kL 49 ?_ | refine xL 49 q_pick ?_) <;> refine xL 50 q_pick ?_ <;> refine aL_end (nav ?_) <;> try dsimp only) <;> (
       (first | refine cCd ?_ ?_ | refine cC ?_ ?_) <;> intro hb50
       · first
         | exact Bool.noConfusion hb50
         | (
          refine nav ?_
          (refine aC_region ?_ <;> refine xL 2 q_assign ?_ <;> refine aL_end (nav ?_) <;> try dsimp only)
          exfalso
          first
           | omega
           | (simp at hb18; done))
       · first
         | exact Bool.noConfusion hb50
         | (
          refine nav ?_
          exact aN_join h4 ⟨rfl, rfl, rfl, rfl, rfl, rfl, trivial⟩ ⟨rfl, rfl, trivial⟩))
    · rintro h4
      skip
      refine nav ?_
      (refine aC_region ?_ <;> refine xL 51 q_move ?_ <;> refine xL 52 q_eql ?_ <;> refine aL_end (nav ?_) <;> try dsimp only)
      (first | refine cCd ?_ ?_ | refine cC ?_ ?_) <;> intro hb52
      · first
        | exact Bool.noConfusion hb52
        | (
         refine nav ?_
         (refine aC_region ?_ <;> refine xL 84 q_add ?_ <;> refine xL 10 q_move ?_ <;> refine aL_end (nav ?_) <;> try dsimp only)
         refine aN_again (
          ⟨i + 1, by omega⟩
          ) (by dsimp only; omega) ⟨rfl, rfl, rfl, rfl, trivial⟩ ⟨rfl, trivial⟩)
      · first
        | exact Bool.noConfusion hb52
        | (
         obtain ⟨y, hy⟩ := get_some (show i - 1 < l.length by omega)
         have e3 := tr_drop hy
         have e4 := tr_fit hy
         have hym := List.mem_of_getElem? hy
         have hx' : l[i - 1 + 1]? = some x := by rw [Nat.sub_add_cancel (by omega)]; exact hx
         have hC := tCompare_e y x (hfp y hym) hxf
         rw [if_pos ⟨hvp y hym, hvp x hxm⟩, if_pos ⟨hvp y hym, hvp x hxm⟩] at hC
         have hc4 : o = 4 → cmpT y x < 0 := fun h => str_at (n3 h) hy hx'
         have hc5 : o = 5 → cmpT y x ≤ 0 := fun h => asc_at (n4 h) hy hx'
         rw [show pTr y = .agg [pInt y.op, pStr y.act, pTrs y.l] from rfl, ex] at hC
         generalize cmpT y x = cc at hC hc4 hc5
         refine nav ?_
         (refine aC_draw (fun i => ([] : List Nat).elem i) [1, 4] (by kernel_rfl) ?_ <;> refine xD 0 54 rfl (q_fldo 1 tFl24_2_PuK) ?_ <;> (refine yD 1 55 rfl (q_ldo 1 tNa22_PuK) fun v55 hv55 => ?_; cases hv55) <;> refine xD 2 56 rfl q_move ?_ <;> refine xD 3 57 rfl ((q_subE (c := ((i - 1 : Nat) : Int)))) ?_ <;> refine xD 4 58 rfl (q_idxN tSl22_PuK) ?_ <;> (refine yD 5 59 rfl (q_lda tAgg24_PuK) fun v59 hv59 => ?_; cases hv59) <;> (refine yE 6 60 rfl (q_ldao 4 tAgg24_PuK) fun v60 hv60 => ?_; cases hv60) <;> (refine aD_one 7 (by kernel_rfl) ?_) <;> (refine aW_callP (d := 61) rfl (cA (Tryz.call23) hC) fun v61a v61b hv61a hv61b => ?_; cases hv61a; cases hv61b) <;> refine xE 8 53 rfl q_move ?_ <;> refine xD 9 62 rfl q_extract ?_ <;> refine xD 10 63 rfl q_extract ?_ <;> refine xE 11 5 rfl q_assign ?_ <;> refine xE 12 6 rfl q_assign ?_ <;> refine aD_end (by kernel_rfl) (nav ?_) <;> try dsimp only)
         (refine aC_region ?_ <;> refine xL 64 q_move ?_ <;> refine xL 65 q_neq ?_ <;> refine xL 66 q_move ?_ <;> refine xL 67 (q_fldo 1 tFl24_0_PuK) ?_ <;> (refine yL 68 (q_ldo 1 tNa3_PuK) fun v68 hv68 => ?_; cases hv68) <;> refine xL 69 q_eql ?_ <;> refine xL 70 q_move ?_ <;> (refine bLd 70 (fun hb70 => ?_) (fun hb70 => ?_) <;> (first | refine kL 71 ?_ | refine xL 71 q_move ?_)) <;> (first | refine kL 72 ?_ | refine xL 72 q_geq ?_) <;> refine xL 73 q_pick ?_ <;> refine xL 74 q_pick ?_ <;> refine xL 75 q_move ?_ <;> (first | refine xL 76 (q_fldo 1 tFl24_0_PuK) ?_ | (refine bLd 75 (fun hb75 => ?_) (fun hb75 => ?_) <;> (first | refine kL 76 ?_ | refine xL 76 (q_fldo 1 tFl24_0_PuK) ?_))) <;> (first | refine kL 77 ?_ | (refine yL 77 (q_ldo 1 tNa3_PuK) fun v77 hv77 => ?_; cases hv77)) <;> (first | refine kL 78 ?_ | refine xL 78 q_eql ?_) <;> (first | refine kL 79 ?_ | refine xL 79 q_move ?_) <;> (first | refine kL 80 ?_ | (refine bLd 79 (fun hb79 => ?_) (fun hb79 => ?_) <;> (first | refine kL 80 ?_ | refine xL 80 q_move ?_))) <;> (first | refine kL 81 ?_ | refine xL 81 q_gtr ?_) <;> (first | refine kL 82 ?_ | refine xL 82 q_pick ?_) <;> refine xL 83 q_pick ?_ <;> refine aL_end (nav ?_) <;> try dsimp only) <;> (
          (first | refine cCd ?_ ?_ | refine cC ?_ ?_) <;> intro hb83
          · first
            | exact Bool.noConfusion hb83
            | (
             refine nav ?_
             (refine aC_region ?_ <;> refine xL 2 q_assign ?_ <;> refine aL_end (nav ?_) <;> try dsimp only)
             exfalso; omega)
          · first
            | exact Bool.noConfusion hb83
            | (
             refine nav ?_
             (refine aC_region ?_ <;> refine xL 84 q_add ?_ <;> refine xL 10 q_move ?_ <;> refine aL_end (nav ?_) <;> try dsimp only)
             refine aN_again (
              ⟨i + 1, by omega⟩
              ) (by dsimp only; omega) ⟨rfl, rfl, rfl, rfl, trivial⟩ ⟨rfl, trivial⟩))))
 · first
   | exact Bool.noConfusion hb11
   | (
    refine nav ?_
    (refine aC_region ?_ <;> refine xL 85 (q_fldo 1 tFl24_0_PuK) ?_ <;> (refine yL 86 (q_ldo 1 tNa3_PuK) fun v86 hv86 => ?_; cases hv86) <;> refine xL 87 q_neq ?_ <;> (refine xL 88 q_move ?_; refine bLd 88 (fun hb88 => ?_) (fun hb88 => ?_)) <;> (first | refine kL 89 ?_ | refine kL 89 ?_ | (obtain ⟨A, B, rfl, hA6, hAB⟩ := n5 (by omega); have g0 : (cTrs [A, B])[0 * 3 + 0]? = some (pInt A.op) := c2_0 A B; have g1 : (cTrs [A, B])[1 * 3 + 0]? = some (pInt B.op) := c2_1 A B; refine xL 89 (q_fldo 1 tFl24_2_PuK) ?_)) <;> (first | refine kL 90 ?_ | (refine yL 90 (q_ldo 1 tNa22_PuK) fun v90 hv90 => ?_; cases hv90)) <;> (first | refine kL 91 ?_ | refine xL 91 (q_idxN tSl22_PuK) ?_) <;> (first | refine kL 92 ?_ | refine xL 92 (q_fld tFl24_0_PuK) ?_) <;> (first | refine kL 93 ?_ | (refine yL 93 (q_ld tNa3_PuK) fun v93 hv93 => ?_; cases hv93)) <;> (first | refine kL 94 ?_ | refine xL 94 q_neq ?_) <;> (first | refine kL 95 ?_ | refine xL 95 q_move ?_) <;> (first | refine kL 96 ?_ | (refine bLd 95 (fun hb95 => ?_) (fun hb95 => ?_) <;> (first | refine kL 96 ?_ | refine xL 96 (q_fldo 1 tFl24_2_PuK) ?_))) <;> (first | refine kL 97 ?_ | (refine yL 97 (q_ldo 1 tNa22_PuK) fun v97 hv97 => ?_; cases hv97)) <;> (first | refine kL 98 ?_ | refine xL 98 (q_idxN tSl22_PuK) ?_) <;> (first | refine kL 99 ?_ | refine xL 99 (q_fld tFl24_0_PuK) ?_) <;> (first | refine kL 100 ?_ | (refine yL 100 (q_ld tNa3_PuK) fun v100 hv100 => ?_; cases hv100)) <;> (first | refine kL 101 ?_ | refine xL 101 q_neq ?_) <;> (first | refine kL 102 ?_ | refine xL 102 q_move ?_) <;> (first | refine kL 103 ?_ | (refine bLd 102 (fun hb102 => ?_) (fun hb102 => ?_) <;> (first | refine kL 103 ?_ | refine xL 103 (q_fldo 1 tFl24_2_PuK) ?_))) <;> (first | refine kL 104 ?_ | (refine yL 104 (q_ldo 1 tNa22_PuK) fun v104 hv104 => ?_; cases hv104)) <;> (first | refine kL 105 ?_ | refine xL 105 (q_idxN tSl22_PuK) ?_) <;> (first | refine kL 106 ?_ | refine xL 106 (q_fld tFl24_0_PuK) ?_) <;> (first | refine kL 107 ?_ | (refine yL 107 (q_ld tNa3_PuK) fun v107 hv107 => ?_; cases hv107)) <;> (first | refine kL 108 ?_ | refine xL 108 q_neq ?_) <;> (first | refine kL 109 ?_ | refine xL 109 q_pick ?_) <;> (first | refine kL 110 ?_ | refine xL 110 q_pick ?_) <;> refine xL 111 q_pick ?_ <;> refine xL 2 q_assign ?_ <;> refine aL_end (nav ?_) <;> try dsimp only) <;> (
     refine ret_shr (Tryz.results30) rfl ?_
     first
      | rfl
      | (exfalso; omega)
      | (rw [decide_eq_true (by omega)])))
theorem tAgg24_PuL : AggT Tryz.prog 24 3 = true := by kernel_rfl
theorem tEl22_PuL : ElT Tryz.prog 22 24 3 48 (.agg #[(.int .i64 0), (.string ByteArray.empty), (.slice none 0 0)]) := ⟨Tryz.underlying22, by kernel_rfl, rfl, by decide⟩
theorem tNa9_PuL : NoAgg Tryz.prog 9 = true := by kernel_rfl
theorem tSl54_PuL : SlT Tryz.prog 54 9 1 = true := by kernel_rfl
theorem tZr24_PuL : ZeroT Tryz.prog 24 (.agg #[(.int .i64 0), (.string ByteArray.empty), (.slice none 0 0)]) := by unfold ZeroT; kernel_rfl
theorem val_yes2 {p : Prop} [Decidable p] (h : p) : PV.val (.bool (decide p)) = pBool true := by rw [decide_eq_true h]
theorem eqStr_self (a : List ByteArray) : AF Tryz.prog 29 [pStrs a, pStrs a] (· = pBool true) := by
 refine AF.of_body 26 Tryz.func29 rfl Tryz.ntmps29 (Nat.le_of_ble_eq_true rfl) ?_
 intro w0 M0 vs hl hv
 obtain ⟨v0, v1, rfl⟩ := len2 hl
 clear hl hv
 refine aC_slen 0 rfl fun hlen => ?_
 refine nav ?_
 (refine aC_region ?_ <;> refine xL 4 q_assign ?_ <;> refine aL_end (nav ?_) <;> try dsimp only)
 (refine aC_region ?_ <;> refine xL 6 q_move ?_ <;> refine xL 7 (q_len tSl54_PuL) ?_ <;> refine xL 8 q_move ?_ <;> refine xL 9 (q_len tSl54_PuL) ?_ <;> refine xL 10 q_neq ?_ <;> refine aL_end (nav ?_) <;> try dsimp only)
 (first | refine cCd ?_ ?_ | refine cC ?_ ?_) <;> intro hb10
 · first
   | exact Bool.noConfusion hb10
   | (
    refine nav ?_
    (refine aC_region ?_ <;> refine xL 4 q_assign ?_ <;> refine aL_end (nav ?_) <;> try dsimp only)
    exfalso; omega)
 · first
   | exact Bool.noConfusion hb10
   | (
    refine nav ?_
    (refine aC_region ?_ <;> refine xL 11 q_move ?_ <;> refine xL 12 (q_len tSl54_PuL) ?_ <;> refine xL 13 q_move ?_ <;> refine aL_end (nav ?_) <;> try dsimp only)
    refine aC_loop (ι := { k : Nat // k ≤ a.length }) (fun k => ⟨[(0, _, _), (1, _, _), (12, _, _), (13, .int .i64 k.1, pInt k.1)], []⟩) (fun k => a.length - k.1) ⟨0, by omega⟩ (fun a w H => H.weaken ⟨rfl, rfl, rfl, rfl, trivial⟩ trivial) ?_
    rintro ⟨k, hk⟩
    dsimp only
    refine nav ?_
    (refine aC_region ?_ <;> refine xL 14 q_lss ?_ <;> refine aL_end (nav ?_) <;> try dsimp only)
    (first | refine cCd ?_ ?_ | refine cC ?_ ?_) <;> intro hb14
    · first
      | exact Bool.noConfusion hb14
      | (
       obtain ⟨x, hx⟩ := get_some (show k < a.length by omega)
       have e1 := map_at (f := pStr) hx
       refine nav ?_
       (refine aC_region ?_ <;> refine xL 15 q_move ?_ <;> refine xL 5 q_assign ?_ <;> refine aL_end (nav ?_) <;> try dsimp only)
       (refine aC_draw (fun i => ([] : List Nat).elem i) [] (by kernel_rfl) ?_ <;> refine xD 0 16 rfl q_move ?_ <;> refine xD 1 17 rfl q_move ?_ <;> refine xD 2 18 rfl (q_idxN tSl54_PuL) ?_ <;> (refine yD 3 19 rfl (q_ld tNa9_PuL) fun v19 hv19 => ?_; cases hv19) <;> refine xD 4 20 rfl q_move ?_ <;> refine xE 5 21 rfl q_move ?_ <;> refine xE 6 22 rfl (q_idxN tSl54_PuL) ?_ <;> (refine yE 7 23 rfl (q_ld tNa9_PuL) fun v23 hv23 => ?_; cases hv23) <;> refine xE 8 24 rfl q_sneq ?_ <;> refine aD_end (by kernel_rfl) (nav ?_) <;> try dsimp only)
       (first | refine cCd ?_ ?_ | refine cC ?_ ?_) <;> intro hb24
       · first
         | exact Bool.noConfusion hb24
         | (
          refine nav ?_
          (refine aC_region ?_ <;> refine xL 4 q_assign ?_ <;> refine aL_end (nav ?_) <;> try dsimp only)
          exfalso; simp at hb24)
       · first
         | exact Bool.noConfusion hb24
         | (
          refine nav ?_
          (refine aC_region ?_ <;> refine xL 25 q_add ?_ <;> refine xL 13 q_move ?_ <;> refine aL_end (nav ?_) <;> try dsimp only)
          refine aN_again (
           ⟨k + 1, lt_of_get hx⟩
           ) (by dsimp only; omega) ⟨rfl, rfl, rfl, rfl, trivial⟩ trivial))
    · first
      | exact Bool.noConfusion hb14
      | (
       refine nav ?_
       (refine aC_region ?_ <;> refine xL 4 q_assign ?_ <;> refine aL_end (nav ?_) <;> try dsimp only)
       exact ret_shr (Tryz.results29) rfl rfl))
set_option maxHeartbeats 8000000 in
theorem ptReduces_e (t : Nd) (hf : FitT t) : AF Tryz.prog 8 [pTr t] (· = pBool true) := by
 have hN := (tNormalX_e t hf).reread (norX_sh t) (rr_tup2 (norX_rr t))
 have hV := tValid_e t hf
 have hSz := tSize_e t hf
 have hA := tActs_e t hf
 have hfn := norN_fit hf
 have hNo := w19None_e (norN t) hfn
 have he : (norX t).2 = 0 ∨ (norX t).2 = 1 ∨ (norX t).2 = 5 := by
  unfold norX
  split
  · split
    · exact .inl rfl
    · exact .inr (.inr rfl)
  · exact .inr (.inl rfl)
 have h0 : (norX t).2 = 0 → valT t = true ∧ valT (norT t) = true ∧ norN t = norT t := fun h => by
  unfold norX at h
  unfold norN
  split at h
  · rename_i h1
    split at h
    · rename_i h2
      exact ⟨h1, h2, by rw [if_pos h1, if_pos h2]⟩
    · cases h
  · cases h
 have h15 : ((norX t).2 = 1 → valT t = false) ∧ ((norX t).2 = 5 → valT t = true) := by
  unfold norX
  split
  · rename_i h1
    exact ⟨fun h => by (split at h <;> cases h), fun _ => h1⟩
  · rename_i h1
    exact ⟨fun _ => by simpa using h1, fun h => by cases h⟩
 have hz : (norX t).2 ≠ 0 → sameT (norN t) nd0 = true := fun h => sameT_iff.2 (by
  unfold norX at h
  unfold norN
  split
  · rename_i h1
    split
    · rename_i h2
      rw [if_pos h1, if_pos h2] at h
      exact absurd rfl h
    · rfl
  · rfl)
 generalize (norX t).2 = e at *
 generalize sameT (norN t) nd0 = sm at *
 have e0 : pTr t = .agg [pInt t.op, pStr t.act, pTrs t.l] := rfl
 rw [e0] at hN hV hSz hA ⊢
 refine AF.of_body 98 Tryz.func8 rfl Tryz.ntmps8 (Nat.le_of_ble_eq_true rfl) ?_
 intro w0 M0 vs hl hv
 obtain ⟨v0, rfl⟩ := len1 hl
 clear hl hv
 refine nav ?_
 (refine aC_region ?_ <;> refine s_boxa 1 3 fun h1 => ?_ <;> refine xL 2 q_assign ?_ <;> refine aL_end (nav ?_) <;> try dsimp only)
 (refine aC_region ?_ <;> (refine cS 11 (cA Tryz.call9 (w19Awake_e)) fun v11 hv11 => ?_; cases hv11) <;> refine xL 12 q_not ?_ <;> refine aL_end (nav ?_) <;> try dsimp only)
 (first | refine cCd ?_ ?_ | refine cC ?_ ?_) <;> intro hb12
 · first
   | exact Bool.noConfusion hb12
   | (
    refine nav ?_
    (refine aC_region ?_ <;> refine xL 2 q_assign ?_ <;> refine aL_end (nav ?_) <;> try dsimp only)
    exfalso; simp at hb12)
 · first
   | exact Bool.noConfusion hb12
   | (
    refine nav ?_
    (refine aC_region ?_ <;> (refine yL 13 (q_ldao 1 tAgg24_PuL) fun v13 hv13 => ?_; cases hv13) <;> (refine s_lita (kk := 3) (xs := [_]) (cs := [[_, _, _]]) 14 tEl22_PuL fun h14 ho14 => ?_; refine aL_ent (En.freeze (l := 14) (t := 14) rfl rfl) fun _ => ?_; refine aL_ent (reslot (t := 14) (p' := pTrs [t]) rfl (one_trs t)) fun _ => ?_) <;> (refine cS 15 (cA Tryz.call10 (w19Great_e [t] (Nat.le_of_ble_eq_true rfl) (fun x hx => by rw [List.mem_singleton] at hx; subst hx; exact hf))) fun v15 hv15 => ?_; cases hv15) <;> refine aL_end (nav ?_) <;> try dsimp only)
    (first | refine cCd ?_ ?_ | refine cC ?_ ?_) <;> intro hb15
    · first
      | exact Bool.noConfusion hb15
      | (
       refine nav ?_
       (refine aC_region ?_ <;> refine xL 2 q_assign ?_ <;> refine aL_end (nav ?_) <;> try dsimp only)
       exact ret_shr (Tryz.results8) rfl rfl)
    · first
      | exact Bool.noConfusion hb15
      | (
       refine nav ?_
       (refine aC_region ?_ <;> (refine yL 17 (q_ldao 1 tAgg24_PuL) fun v17 hv17 => ?_; cases hv17) <;> (refine cP 18 (cA Tryz.call16 (hN)) fun va18 vb18 hva18 hvb18 => ?_; cases hvb18) <;> refine xL 16 q_move ?_ <;> refine xL 19 q_extract ?_ <;> refine xL 20 q_extract ?_ <;> refine s_alloc [(.int .i64 0), (.string ByteArray.empty), (.slice none 0 0)] 3 3 tZr24_PuL fun h3 => ?_ <;> refine s_sta 3 tAgg24_PuL ?_ <;> refine xL 4 q_assign ?_ <;> refine aL_end (nav ?_) <;> try dsimp only)
       (refine aC_region ?_ <;> refine xL 21 q_move ?_ <;> refine xL 22 q_neq ?_ <;> refine aL_end (nav ?_) <;> try dsimp only)
       (first | refine cCd ?_ ?_ | refine cC ?_ ?_) <;> intro hb22
       · first
         | exact Bool.noConfusion hb22
         | (
          refine nav ?_
          (refine aC_region ?_ <;> (refine yL 23 (q_ldao 3 tAgg24_PuL) fun v23 hv23 => ?_; cases hv23) <;> (refine cS 24 (cA Tryz.call20 (hNo)) fun v24 hv24 => ?_; cases hv24) <;> refine xL 25 q_move ?_ <;> (refine bL 25 (fun hb25 => ?_) (fun hb25 => ?_) <;> (first | refine kL 26 ?_ | refine xL 26 q_move ?_)) <;> (first | refine kL 27 ?_ | refine xL 27 q_eql ?_) <;> (first | refine kL 28 ?_ | refine xL 28 q_move ?_) <;> (first | refine kL 29 ?_ | (refine bLd 28 (fun hb28 => ?_) (fun hb28 => ?_) <;> (first | refine kL 29 ?_ | (refine yL 29 (q_ldao 1 tAgg24_PuL) fun v29 hv29 => ?_; cases hv29)))) <;> (first | refine kL 30 ?_ | (refine cS 30 (cA Tryz.call26 (hV)) fun v30 hv30 => ?_; cases hv30)) <;> (first | refine kL 31 ?_ | refine xL 31 q_not ?_) <;> (first | refine kL 32 ?_ | refine xL 32 q_pick ?_) <;> (first | refine kL 33 ?_ | refine xL 33 q_move ?_) <;> (first | refine kL 34 ?_ | refine xL 34 q_move ?_ | (refine bL 33 (fun hb33 => ?_) (fun hb33 => ?_) <;> (first | refine kL 34 ?_ | refine xL 34 q_move ?_))) <;> (first | refine kL 35 ?_ | refine xL 35 q_eql ?_) <;> (first | refine kL 36 ?_ | refine xL 36 q_move ?_) <;> (first | refine kL 37 ?_ | (refine bLd 36 (fun hb36 => ?_) (fun hb36 => ?_) <;> (first | refine kL 37 ?_ | (refine yL 37 (q_ldao 1 tAgg24_PuL) fun v37 hv37 => ?_; cases hv37)))) <;> (first | refine kL 38 ?_ | (refine cS 38 (cA Tryz.call26 (hV)) fun v38 hv38 => ?_; cases hv38)) <;> (first | refine kL 39 ?_ | refine xL 39 q_pick ?_) <;> (first | refine kL 40 ?_ | refine xL 40 q_pick ?_) <;> refine xL 41 q_pick ?_ <;> refine xL 2 q_assign ?_ <;> refine aL_end (nav ?_) <;> try dsimp only) <;> (
           refine ret_shr (Tryz.results8) rfl ?_
           have hz' := hz hb22
           obtain ⟨h1, h5⟩ := h15
           first
            | rfl
            | (exfalso; omega)
            | (rw [h1 (by omega)]; first | done | rfl)
            | (rw [h5 (by omega)]; first | done | rfl)
            | (exfalso; rw [h1 (by omega)] at hb33; cases hb33; done)
            | (exfalso; rw [hz'] at hb25; cases hb25; done)))
       · first
         | exact Bool.noConfusion hb22
         | (
          have hee : e = 0 := by omega
          obtain ⟨hv, hvn, hnn⟩ := h0 hee
          clear h0 h15 hz he hNo
          have hokn := val_ok hvn
          have hNF := nor_nf t (val_ok hv)
          rw [hnn] at hfn ⊢
          have hgn : (([norT t] : List Nd).any grtT) = false := by simp [grt_val hvn]
          have hG := w19Great_e [norT t] (Nat.le_of_ble_eq_true rfl) (fun x hx => by rw [List.mem_singleton] at hx; subst hx; exact hfn)
          rw [hgn] at hG
          have hVn := rtValid_e (norT t) hfn
          rw [hvn] at hVn
          have hNn : norX (norT t) = (pTr (norT t), 0) := by unfold norX; rw [nor_nor (val_ok hv), if_pos hvn, if_pos hvn]
          have hN2 := tNormalX_e (norT t) hfn
          rw [hNn] at hN2
          have hSn := rtSame_e (norT t) (norT t) hfn hfn
          rw [sameT_iff.2 rfl] at hSn
          have hZn := tSize_e (norT t) hfn
          rw [if_pos hvn] at hZn
          rw [if_pos hv] at hSz
          have hle := sz_nor t
          have hAn := tActs_e (norT t) hfn
          rw [actR_nor hv hvn] at hAn
          have hacts : (actR t).2 = 0 ∨ (actR t).2 = 5 := by
           unfold actR
           rw [if_pos hv]
           split
           · exact .inl rfl
           · exact .inr rfl
          have hSh := w19Shaped_e (norT t) hNF hvn
          generalize (actR t).1 = al at *
          generalize (actR t).2 = ae at *
          have hEq := eqStr_self al
          clear hnn hokn hNF hgn hNn
          have en : pTr (norT t) = .agg [pInt (norT t).op, pStr (norT t).act, pTrs (norT t).l] := rfl
          have ot := one_trs (norT t)
          generalize norT t = n at *
          rw [en] at hVn hN2 hSn hZn hAn hSh
          refine nav ?_
          (refine aC_region ?_ <;> (refine yL 42 (q_ldao 3 tAgg24_PuL) fun v42 hv42 => ?_; cases hv42) <;> (refine s_lita (kk := 3) (xs := [_]) (cs := [[_, _, _]]) 43 tEl22_PuL fun h43 ho43 => ?_; refine aL_ent (En.freeze (l := 43) (t := 43) rfl rfl) fun _ => ?_; refine aL_ent (reslot (t := 43) (p' := pTrs [n]) rfl ot) fun _ => ?_) <;> (refine cS 44 (cA Tryz.call10 (hG)) fun v44 hv44 => ?_; cases hv44) <;> refine xL 45 q_move ?_ <;> (refine yL 46 (q_ldao 3 tAgg24_PuL) fun v46 hv46 => ?_; cases hv46) <;> (refine cS 47 (cA Tryz.call19 (hVn)) fun v47 hv47 => ?_; cases hv47) <;> refine xL 48 q_not ?_ <;> refine xL 49 q_pick ?_ <;> refine aL_end (nav ?_) <;> try dsimp only) <;> (
           (first | refine cCd ?_ ?_ | refine cC ?_ ?_) <;> intro hb49
           · first
             | exact Bool.noConfusion hb49
             | (
              refine nav ?_
              (refine aC_region ?_ <;> refine xL 2 q_assign ?_ <;> refine aL_end (nav ?_) <;> try dsimp only)
              exfalso; simp at hb45)
           · first
             | exact Bool.noConfusion hb49
             | (
              refine nav ?_
              (refine aC_region ?_ <;> (refine yL 51 (q_ldao 3 tAgg24_PuL) fun v51 hv51 => ?_; cases hv51) <;> (refine cP 52 (cA Tryz.call16 (hN2)) fun va52 vb52 hva52 hvb52 => ?_; cases hvb52) <;> refine xL 50 q_move ?_ <;> refine xL 53 q_extract ?_ <;> refine xL 54 q_extract ?_ <;> refine s_alloc [(.int .i64 0), (.string ByteArray.empty), (.slice none 0 0)] 3 5 tZr24_PuL fun h5 => ?_ <;> refine s_sta 5 tAgg24_PuL ?_ <;> refine xL 6 q_assign ?_ <;> refine aL_end (nav ?_) <;> try dsimp only)
              (refine aC_draw (fun i => ([] : List Nat).elem i) [1, 3, 5] (by kernel_rfl) ?_ <;> refine xE 0 55 rfl q_move ?_ <;> refine xE 1 56 rfl q_neq ?_ <;> refine xE 2 57 rfl q_move ?_ <;> (refine yD 3 58 rfl (q_ldao 5 tAgg24_PuL) fun v58 hv58 => ?_; cases hv58) <;> (refine yD 4 59 rfl (q_ldao 3 tAgg24_PuL) fun v59 hv59 => ?_; cases hv59) <;> (refine aD_one 5 (by kernel_rfl) ?_) <;> (first | (refine aW_call (d := 60) rfl (cA (Tryz.call15) hSn) fun v60 hv60 => ?_; cases hv60) | (refine aW_run rfl fun w9 M9 N9 DQ back => ?_; refine kL 60 ?_; refine aL_end (back _ (nrm ?_)))) <;> refine xD 6 61 rfl q_not ?_ <;> refine xE 7 62 rfl q_pick ?_ <;> refine xE 8 63 rfl q_move ?_ <;> (refine yD 9 64 rfl (q_ldao 3 tAgg24_PuL) fun v64 hv64 => ?_; cases hv64) <;> (refine yD 11 66 rfl (q_ldao 1 tAgg24_PuL) fun v66 hv66 => ?_; cases hv66) <;> (refine aD_one 10 (by kernel_rfl) ?_) <;> (first | (refine aW_call (d := 65) rfl (cA (Tryz.call27) hZn) fun v65 hv65 => ?_; cases hv65) | (refine aW_run rfl fun w9 M9 N9 DQ back => ?_; refine kL 65 ?_; refine aL_end (back _ (nrm ?_)))) <;> (refine aD_one 12 (by kernel_rfl) ?_) <;> (first | (refine aW_call (d := 67) rfl (cA (Tryz.call27) hSz) fun v67 hv67 => ?_; cases hv67) | (refine aW_run rfl fun w9 M9 N9 DQ back => ?_; refine kL 67 ?_; refine aL_end (back _ (nrm ?_)))) <;> refine xD 13 68 rfl q_gtr ?_ <;> refine xE 14 69 rfl q_pick ?_ <;> refine aD_end (by kernel_rfl) (nav ?_) <;> try dsimp only) <;> (
               (first | refine cCd ?_ ?_ | refine cC ?_ ?_) <;> intro hb69
               · first
                 | exact Bool.noConfusion hb69
                 | (
                  refine nav ?_
                  (refine aC_region ?_ <;> refine xL 2 q_assign ?_ <;> refine aL_end (nav ?_) <;> try dsimp only)
                  exfalso; omega)
               · first
                 | exact Bool.noConfusion hb69
                 | (
                  refine nav ?_
                  (refine aC_region ?_ <;> (refine yL 71 (q_ldao 3 tAgg24_PuL) fun v71 hv71 => ?_; cases hv71) <;> (refine cP 72 (cA Tryz.call28 (hAn)) fun va72 vb72 hva72 hvb72 => ?_; cases hvb72) <;> refine xL 70 q_move ?_ <;> refine xL 73 q_extract ?_ <;> refine xL 74 q_extract ?_ <;> refine xL 7 q_assign ?_ <;> refine xL 8 q_assign ?_ <;> refine aL_end (nav ?_) <;> try dsimp only)
                  (refine aC_region ?_ <;> (refine yL 76 (q_ldao 1 tAgg24_PuL) fun v76 hv76 => ?_; cases hv76) <;> (refine cP 77 (cA Tryz.call28 (hA)) fun va77 vb77 hva77 hvb77 => ?_; cases hvb77) <;> refine xL 75 q_move ?_ <;> refine xL 78 q_extract ?_ <;> refine xL 79 q_extract ?_ <;> refine xL 9 q_assign ?_ <;> refine xL 10 q_assign ?_ <;> refine aL_end (nav ?_) <;> try dsimp only)
                  (refine aC_region ?_ <;> refine xL 80 q_move ?_ <;> refine xL 81 q_neq ?_ <;> refine xL 82 q_move ?_ <;> (refine bLd 82 (fun hb82 => ?_) (fun hb82 => ?_) <;> (first | refine kL 83 ?_ | refine xL 83 q_move ?_)) <;> (first | refine kL 84 ?_ | refine xL 84 q_neq ?_) <;> refine xL 85 q_pick ?_ <;> refine aL_end (nav ?_) <;> try dsimp only) <;> (
                   (first | refine cCd ?_ ?_ | refine cC ?_ ?_) <;> intro hb85
                   · first
                     | exact Bool.noConfusion hb85
                     | (
                      refine nav ?_
                      (refine aC_region ?_ <;> refine xL 86 q_move ?_ <;> refine xL 87 q_eql ?_ <;> refine xL 88 q_move ?_ <;> (refine bLd 88 (fun hb88 => ?_) (fun hb88 => ?_) <;> (first | refine kL 89 ?_ | refine xL 89 q_move ?_)) <;> (first | refine kL 90 ?_ | refine xL 90 q_eql ?_) <;> refine xL 91 q_pick ?_ <;> refine xL 2 q_assign ?_ <;> refine aL_end (nav ?_) <;> try dsimp only) <;> (
                       refine ret_shr (Tryz.results8) rfl ?_
                       first
                        | rfl
                        | (exfalso; omega)
                        | exact val_yes2 (by omega)))
                   · first
                     | exact Bool.noConfusion hb85
                     | (
                      refine nav ?_
                      (refine aC_region ?_ <;> refine xL 92 q_move ?_ <;> refine xL 93 q_move ?_ <;> (refine cS 94 (cA Tryz.call29 (hEq)) fun v94 hv94 => ?_; cases hv94) <;> refine xL 95 q_not ?_ <;> refine aL_end (nav ?_) <;> try dsimp only)
                      (first | refine cCd ?_ ?_ | refine cC ?_ ?_) <;> intro hb95
                      · first
                        | exact Bool.noConfusion hb95
                        | (
                         refine nav ?_
                         (refine aC_region ?_ <;> refine xL 2 q_assign ?_ <;> refine aL_end (nav ?_) <;> try dsimp only)
                         exfalso; simp at hb95)
                      · first
                        | exact Bool.noConfusion hb95
                        | (
                         refine nav ?_
                         (refine aC_region ?_ <;> (refine yL 96 (q_ldao 3 tAgg24_PuL) fun v96 hv96 => ?_; cases hv96) <;> (refine cS 97 (cA Tryz.call30 (hSh)) fun v97 hv97 => ?_; cases hv97) <;> refine xL 2 q_assign ?_ <;> refine aL_end (nav ?_) <;> try dsimp only)
                         exact ret_shr Tryz.results8 rfl rfl))))))))))
end Go.Proofs.YtbfilfhgcihhoaaGreatDoor
