/-
  Walks: the reference's valid graphs (layer 17) and views of graphs (layer 36).
  Walks: the reference's views of graphs (layer 36).
  Walks: which cuts are cuts of a graph, as the reference says (layer 36).
  Walks: slices.Concat over counts; which graphs are small enough for the laws of the cut chapter.
-/
import Derived.Test.YtoanjgpdepaciaaGreatLc
import Derived.Test.YtoanjgpdepaciaaGreatLp
import Derived.Test.YtoanjgpdepaciaaGreatEngb
import Derived.Test.YtoanjgpdepaciaaGreatLa
namespace Go.Proofs.YtoanjgpdepaciaaGreat
open Go.RowKit Go.Cb Go.En
set_option linter.all false
set_option maxRecDepth 100000

theorem tAgg68_LbH : AggT Tryz.prog 68 3 = true := by kernel_rfl
theorem tEl36_LbH : ElT Tryz.prog 36 9 1 16 (.string ByteArray.empty) := ⟨Tryz.underlying36, by kernel_rfl, rfl, by decide⟩
theorem tFl25_0_LbH : FldT Tryz.prog 25 0 0 = true := by kernel_rfl
theorem tFl25_1_LbH : FldT Tryz.prog 25 1 1 = true := by kernel_rfl
theorem tFl25_2_LbH : FldT Tryz.prog 25 2 2 = true := by kernel_rfl
theorem tFl25_3_LbH : FldT Tryz.prog 25 3 3 = true := by kernel_rfl
theorem tFl62_0_LbH : FldT Tryz.prog 62 0 0 = true := by kernel_rfl
theorem tFl62_1_LbH : FldT Tryz.prog 62 1 1 = true := by kernel_rfl
theorem tFl68_0_LbH : FldT Tryz.prog 68 0 0 = true := by kernel_rfl
theorem tFl68_1_LbH : FldT Tryz.prog 68 1 1 = true := by kernel_rfl
theorem tFl68_2_LbH : FldT Tryz.prog 68 2 2 = true := by kernel_rfl
theorem tNa22_LbH : NoAgg Tryz.prog 22 = true := by kernel_rfl
theorem tNa23_LbH : NoAgg Tryz.prog 23 = true := by kernel_rfl
theorem tNa3_LbH : NoAgg Tryz.prog 3 = true := by kernel_rfl
theorem tNa9_LbH : NoAgg Tryz.prog 9 = true := by kernel_rfl
theorem tSl22_LbH : SlT Tryz.prog 22 62 2 = true := by kernel_rfl
theorem tSl23_LbH : SlT Tryz.prog 23 68 3 = true := by kernel_rfl
theorem tZr68_LbH : ZeroT Tryz.prog 68 (.agg #[(.string ByteArray.empty), (.string ByteArray.empty), (.int .i64 0)]) := by unfold ZeroT; kernel_rfl

theorem r17names_e (l : List Cnt) (hl0 : l.length ≤ 1000000) : AF Tryz.prog 61 [pCnts l] (· = pStrs (cnames l)) := by
  refine AF.of_body 20 Tryz.func61 rfl Tryz.ntmps61 (Nat.le_of_ble_eq_true rfl) ?_
  intro w0 M0 vs hl hv
  obtain ⟨v0, rfl⟩ := len1 hl
  clear hl hv
  refine nav ?_
  (refine aC_region ?_
    <;> refine xL 2 q_assign ?_
    <;> refine aL_end (nav ?_) <;> try dsimp only)
  (refine aC_region ?_
    <;> refine xL 3 q_assign ?_
    <;> refine aL_end (nav ?_) <;> try dsimp only)
  (refine aC_region ?_
    <;> refine xL 4 q_assign ?_
    <;> refine aL_end (nav ?_) <;> try dsimp only)
  refine aC_ent (nilOwn 200 9 1 rfl) fun _ => ?_
  refine aC_loop (ι := { x : Nat × Value // x.1 ≤ l.length }) (fun k => ⟨[(0, _, _), (3, k.1.2, .val k.1.2), (4, .int .i64 k.1.1, pInt k.1.1)], [(200, k.1.2, .own 9 1 k.1.1 ((cnames (l.take k.1.1)).map pStr))]⟩) (fun k => l.length - k.1.1) ⟨(0, .slice none 0 0), by omega⟩ (fun a w H => H.weaken ⟨rfl, rfl, rfl, trivial⟩ ⟨rfl, trivial⟩) ?_
  rintro ⟨⟨k, h3⟩, hk⟩
  dsimp only
  dsimp only at hk
  refine nav ?_
  (refine aC_region ?_
    <;> refine xL 5 q_move ?_
    <;> refine xL 6 q_move ?_
    <;> refine xL 7 (q_len tSl22_LbH) ?_
    <;> refine xL 8 q_lss ?_
    <;> refine aL_end (nav ?_) <;> try dsimp only)
  first | refine cCd (fun hb8 => ?_) (fun hb8 => ?_) | refine cC (fun hb8 => ?_) (fun hb8 => ?_)
  · first
    | exact Bool.noConfusion hb8
    | (
     obtain ⟨x, hx⟩ := get_some (show k < l.length by omega)
     have e1 : (l.flatMap cCnt)[k * 2 + 0]? = some (pStr x.name) := flat_at cCnt_len hx (by decide)
     have e3 : ((cnames (l.take k)).map pStr).length = k := by simp [cnames]; omega
     refine nav ?_
     (refine aC_region ?_
       <;> refine xL 11 q_move ?_
       <;> refine xL 12 q_move ?_
       <;> refine xL 13 q_move ?_
       <;> refine xL 14 (q_idxN tSl22_LbH) ?_
       <;> refine xL 15 (q_fld tFl62_0_LbH) ?_
       <;> (refine yL 16 (q_ld tNa9_LbH) fun v16 hv16 => ?_; cases hv16)
       <;> refine s_lit1 (kk := 1) 17 tEl36_LbH fun h17 ho17 => ?_
       <;> refine s_app 200 17 18 tEl36_LbH fun h18 ho18 => ?_
       <;> refine xL 3 q_assign ?_
       <;> refine aL_end (nav ?_) <;> try dsimp only)
     (refine aC_region ?_
       <;> refine xL 9 q_move ?_
       <;> refine xL 10 q_add ?_
       <;> refine xL 4 q_assign ?_
       <;> refine aL_end (nav ?_) <;> try dsimp only)
     refine aN_ent (relabel (l := 18) 200 rfl rfl) fun _ => ?_
     rw [show (cnames (l.take k)).map pStr ++ [pStr x.name] = (cnames (l.take (k + 1))).map pStr by rw [cnames_take hx, List.map_append]; rfl]
     refine aN_again (
       ⟨(k + 1, h18), by show k + 1 ≤ l.length; omega⟩
       ) (by dsimp only; omega) ⟨rfl, rfl, rfl, trivial⟩ ⟨rfl, trivial⟩)
  · first
    | exact Bool.noConfusion hb8
    | (
     refine nav ?_
     (refine aC_region ?_
       <;> refine xL 19 q_move ?_
       <;> refine xL 2 q_assign ?_
       <;> refine aL_end (nav ?_) <;> try dsimp only)
     refine aR_ent (En.freeze (l := 200) (t := 2) rfl rfl) fun _ => ?_
     refine ret_shr (Tryz.results61) rfl ?_
     obtain rfl : k = l.length := by omega
     rw [List.take_length, share_strs]
     unfold pStrs cnames; rw [List.length_map])
theorem r17number_e (n : Int) : AF Tryz.prog 64 [pInt n] (· = pBool (countedB n)) := by
  refine AF.of_body 9 Tryz.func64 rfl Tryz.ntmps64 (Nat.le_of_ble_eq_true rfl) ?_
  intro w0 M0 vs hl hv
  obtain ⟨v0, rfl⟩ := len1 hl
  obtain rfl := hv 0 _ _ rfl rfl
  clear hl hv
  refine nav ?_
  (refine aC_region ?_
    <;> refine xL 2 q_assign ?_
    <;> refine aL_end (nav ?_) <;> try dsimp only)
  (refine aC_region ?_
    <;> refine xL 3 q_move ?_
    <;> refine xL 4 q_geq ?_
    <;> refine xL 5 q_move ?_
    <;> (refine bLd 5 (fun hb5 => ?_) (fun hb5 => ?_) <;> (first | refine kL 6 ?_ | refine xL 6 q_move ?_))
    <;> (first | refine kL 7 ?_ | refine xL 7 q_leq ?_)
    <;> refine xL 8 q_pick ?_
    <;> refine xL 2 q_assign ?_
    <;> refine aL_end (nav ?_) <;> try dsimp only) <;> (
   refine ret_shr (Tryz.results64) rfl (bool_val ?_)
   simp only [countedB, Bool.and_eq_true, decide_eq_true_eq, true_iff, false_iff, Bool.false_eq_true] <;> omega)
def countsB (l : List Cnt) (acts : List ByteArray) : Bool := l.all (fun c => countedB c.n && hasStr acts c.name) && chainB (fun a b => strLt a.name b.name) l
theorem ix_none {l : List ByteArray} {s : ByteArray} (h : idx (fun x => strEq x s) l < 0) : hasStr l s = false := by
  have := idx_any (fun x => strEq x s) l
  unfold hasStr; rw [← this]; exact decide_eq_false (by omega)
theorem ix_some {l : List ByteArray} {s : ByteArray} (h : ¬ idx (fun x => strEq x s) l < 0) : hasStr l s = true := by
  have := idx_any (fun x => strEq x s) l
  unfold hasStr; rw [← this]; exact decide_eq_true (by omega)
theorem r17counts_e (l : List Cnt) (acts : List ByteArray) : AF Tryz.prog 63 [pCnts l, pStrs acts] (· = pBool (countsB l acts)) := by
  refine AF.of_body 47 Tryz.func63 rfl Tryz.ntmps63 (Nat.le_of_ble_eq_true rfl) ?_
  intro w0 M0 vs hl hv
  obtain ⟨v0, v1, rfl⟩ := len2 hl
  clear hl hv
  refine aC_slen 0 rfl fun hlen => ?_
  refine nav ?_
  (refine aC_region ?_
    <;> refine xL 4 q_assign ?_
    <;> refine aL_end (nav ?_) <;> try dsimp only)
  (refine aC_region ?_
    <;> refine xL 5 q_assign ?_
    <;> refine aL_end (nav ?_) <;> try dsimp only)
  refine aC_loop (ι := { k : Nat // k ≤ l.length ∧ ∀ j x, j < k → l[j]? = some x → (countedB x.n && hasStr acts x.name) = true ∧ ∀ y, 1 ≤ j → l[j - 1]? = some y → strLt y.name x.name = true }) (fun k => ⟨[(0, _, _), (1, _, _), (5, .int .i64 k.1, pInt k.1)], []⟩) (fun k => l.length - k.1) ⟨0, by omega, by omega⟩ (fun a w H => H.weaken ⟨rfl, rfl, rfl, trivial⟩ trivial) ?_
  rintro ⟨k, hk, hp⟩
  dsimp only
  refine nav ?_
  (refine aC_region ?_
    <;> refine xL 6 q_move ?_
    <;> refine xL 7 q_move ?_
    <;> refine xL 8 (q_len tSl22_LbH) ?_
    <;> refine xL 9 q_lss ?_
    <;> refine aL_end (nav ?_) <;> try dsimp only)
  first | refine cCd (fun hb9 => ?_) (fun hb9 => ?_) | refine cC (fun hb9 => ?_) (fun hb9 => ?_)
  · first
    | exact Bool.noConfusion hb9
    | (
     obtain ⟨x, hx⟩ := get_some (show k < l.length by omega)
     obtain ⟨y, hy⟩ := get_some (show k - 1 < l.length by omega)
     have e1 : (l.flatMap cCnt)[k * 2 + 0]? = some (pStr x.name) := flat_at cCnt_len hx (by decide)
     have e2 : (l.flatMap cCnt)[k * 2 + 1]? = some (pInt x.n) := flat_at cCnt_len hx (by decide)
     have e3 : (l.flatMap cCnt)[((k : Int) - 1).toNat * 2 + 0]? = some (pStr y.name) := by rw [show ((k : Int) - 1).toNat * 2 + 0 = (k - 1) * 2 + 0 by omega]; exact flat_at cCnt_len hy (by decide)
     refine nav ?_
     (refine aC_draw (fun i => ([] : List Nat).elem i) [] (by kernel_rfl) ?_
       <;> refine xD 0 12 rfl q_move ?_
       <;> refine xE 1 13 rfl q_move ?_
       <;> refine xE 2 14 rfl (q_idxN tSl22_LbH) ?_
       <;> refine xE 3 15 rfl (q_fld tFl62_1_LbH) ?_
       <;> (refine yE 4 16 rfl (q_ld tNa3_LbH) fun v16 hv16 => ?_; cases hv16)
       <;> (refine aD_one 5 (by kernel_rfl) ?_)
       <;> (refine aW_run rfl fun w9 M9 N9 DQ back => ?_)
       <;> (refine cS 17 (cA Tryz.call64 (r17number_e x.n)) fun v17 hv17 => ?_; cases hv17)
       <;> refine aL_end (back _ (nrm ?_))
       <;> refine xE 6 18 rfl q_not ?_
       <;> refine xE 7 19 rfl q_move ?_
       <;> (refine bD 19 (fun hb19 => ?_) (fun hb19 => ?_) <;> (first | refine kD 8 20 rfl ?_ | refine xD 8 20 rfl q_move ?_))
       <;> (first | refine kD 9 21 rfl ?_ | refine xD 9 21 rfl q_move ?_)
       <;> (first | refine kD 10 22 rfl ?_ | refine xD 10 22 rfl q_move ?_)
       <;> (first | refine kD 11 23 rfl ?_ | refine xD 11 23 rfl (q_idxN tSl22_LbH) ?_)
       <;> (first | refine kD 12 24 rfl ?_ | refine xD 12 24 rfl (q_fld tFl62_0_LbH) ?_)
       <;> (first | refine kD 13 25 rfl ?_ | (refine yD 13 25 rfl (q_ld tNa9_LbH) fun v25 hv25 => ?_; cases hv25))
       <;> (refine aD_one 14 (by kernel_rfl) ?_)
       <;> (refine aW_run rfl fun w9 M9 N9 DQ back => ?_)
       <;> (first | refine kL 26 ?_ | (refine cS 26 (cA Tryz.call65 (rIndex_e acts x.name)) fun v26 hv26 => ?_; cases hv26))
       <;> refine aL_end (back _ (nrm ?_))
       <;> (first | refine kD 15 27 rfl ?_ | refine xD 15 27 rfl q_lss ?_)
       <;> refine xE 16 28 rfl q_pick ?_
       <;> refine xE 17 29 rfl q_move ?_
       <;> (first | refine kD 18 30 rfl ?_ | (refine bDd 29 (fun hb29 => ?_) (fun hb29 => ?_) <;> (first | refine kD 18 30 rfl ?_ | refine xD 18 30 rfl q_move ?_)))
       <;> (first | refine kD 19 31 rfl ?_ | refine xD 19 31 rfl q_gtr ?_)
       <;> (first | refine kD 20 32 rfl ?_ | refine xD 20 32 rfl q_move ?_)
       <;> (first | refine kD 21 33 rfl ?_ | (refine bDd 32 (fun hb32 => ?_) (fun hb32 => ?_) <;> (first | refine kD 21 33 rfl ?_ | refine xD 21 33 rfl q_move ?_)))
       <;> (first | refine kD 22 34 rfl ?_ | refine xD 22 34 rfl q_move ?_)
       <;> (first | refine kD 23 35 rfl ?_ | refine xD 23 35 rfl q_sub ?_)
       <;> (first | refine kD 24 36 rfl ?_ | refine xD 24 36 rfl (q_idx tSl22_LbH) ?_)
       <;> (first | refine kD 25 37 rfl ?_ | refine xD 25 37 rfl (q_fld tFl62_0_LbH) ?_)
       <;> (first | refine kD 26 38 rfl ?_ | (refine yD 26 38 rfl (q_ld tNa9_LbH) fun v38 hv38 => ?_; cases hv38))
       <;> (first | refine kD 27 39 rfl ?_ | refine xD 27 39 rfl q_move ?_)
       <;> (first | refine kD 28 40 rfl ?_ | refine xD 28 40 rfl q_move ?_)
       <;> (first | refine kD 29 41 rfl ?_ | refine xD 29 41 rfl (q_idxN tSl22_LbH) ?_)
       <;> (first | refine kD 30 42 rfl ?_ | refine xD 30 42 rfl (q_fld tFl62_0_LbH) ?_)
       <;> (first | refine kD 31 43 rfl ?_ | (refine yD 31 43 rfl (q_ld tNa9_LbH) fun v43 hv43 => ?_; cases hv43))
       <;> (first | refine kD 32 44 rfl ?_ | refine xD 32 44 rfl q_sgeq ?_)
       <;> (first | refine kD 33 45 rfl ?_ | refine xD 33 45 rfl q_pick ?_)
       <;> refine xE 34 46 rfl q_pick ?_
       <;> refine aD_end (by kernel_rfl) (nav ?_)
       <;> try dsimp only) <;> (
      first | refine cCd (fun hb46 => ?_) (fun hb46 => ?_) | refine cC (fun hb46 => ?_) (fun hb46 => ?_)
      · first
        | exact Bool.noConfusion hb46
        | (
         refine nav ?_
         (refine aC_region ?_
           <;> refine xL 4 q_assign ?_
           <;> refine aL_end (nav ?_) <;> try dsimp only)
         refine ret_shr (Tryz.results63) rfl ?_
         unfold countsB
         first
           | rw [all_stop hx (show (countedB x.n && hasStr acts x.name) = false by rw [show countedB x.n = false by simpa using hb19]; rfl)]; rfl
           | rw [all_stop hx (show (countedB x.n && hasStr acts x.name) = false by rw [ix_none hb29]; simp)]; rfl
           | rw [chainB_stop (by omega) hy hx (by simpa [strLt] using hb46)]; simp)
      · first
        | exact Bool.noConfusion hb46
        | (
         refine nav ?_
         (refine aC_region ?_
           <;> refine xL 10 q_move ?_
           <;> refine xL 11 q_add ?_
           <;> refine xL 5 q_assign ?_
           <;> refine aL_end (nav ?_) <;> try dsimp only)
         refine aN_again (
           ⟨k + 1, by omega, fun j z hj hz => by
             by_cases e : j = k
             · subst e; rw [hx] at hz; cases hz
               refine ⟨by rw [show countedB x.n = true by simpa using hb19, ix_some hb29]; rfl, fun y' h1 hy' => ?_⟩
               rw [hy] at hy'; cases hy'
               first | omega | simpa [strLt] using hb46
             · exact hp j z (by omega) hz⟩
           ) (by dsimp only; omega) ⟨rfl, rfl, rfl, trivial⟩ trivial)))
  · first
    | exact Bool.noConfusion hb9
    | (
     refine nav ?_
     (refine aC_region ?_
       <;> refine xL 4 q_assign ?_
       <;> refine aL_end (nav ?_) <;> try dsimp only)
     refine ret_shr (Tryz.results63) rfl ?_
     have h1 : l.all (fun c => countedB c.n && hasStr acts c.name) = true := all_end fun j x hj => (hp j x (by have := lt_of_get hj; omega) hj).1
     have h2 : chainB (fun a b : Cnt => strLt a.name b.name) l = true := chainB_end fun j x y h1 hy hx => (hp j x (by have := lt_of_get hx; omega) hx).2 y h1 hy
     unfold countsB; rw [h1, h2]; rfl)
theorem chain_map {α β : Type} {r : β → β → Bool} {f : α → β} : ∀ l : List α, chainB r (l.map f) = chainB (fun a b => r (f a) (f b)) l
  | [] => rfl
  | [a] => rfl
  | a :: b :: l => by rw [List.map_cons, List.map_cons, chainB, chainB, ← List.map_cons, chain_map (b :: l)]
theorem hasStr_self {l : List ByteArray} {s : ByteArray} (h : s ∈ l) : hasStr l s = true := by unfold hasStr; rw [List.any_eq_true]; exact ⟨s, h, strEq_iff.2 rfl⟩
theorem countsB_eq (l : List Cnt) (acts : List ByteArray) : countsB l acts = (ascB (cnames l) acts && l.all fun c => countedB c.n) := by
  unfold countsB ascB cnames
  rw [chain_map, List.all_map, Bool.eq_iff_iff]
  simp only [Bool.and_eq_true, List.all_eq_true, Function.comp_def]
  constructor
  · rintro ⟨h1, h2⟩; exact ⟨⟨h2, fun x hx => (h1 x hx).2⟩, fun x hx => (h1 x hx).1⟩
  · rintro ⟨⟨h1, h2⟩, h3⟩; exact ⟨fun x hx => ⟨h3 x hx, h2 x hx⟩, h1⟩
theorem counts_acts {l : List Cnt} (h : alphaB (cnames l) = true) : countsB l (cnames l) = l.all fun c => countedB c.n := by
  rw [countsB_eq]
  have : ascB (cnames l) (cnames l) = true := by
    unfold ascB
    unfold alphaB at h
    simp only [Bool.and_eq_true] at h
    rw [h.2, Bool.true_and, List.all_eq_true]
    exact fun x hx => hasStr_self hx
  rw [this, Bool.true_and]
theorem flwCmp_bad1 {y x : Flw} (h : (!(strLt y.src x.src || strEq y.src x.src)) = true) : flwLt y x = false := by
  unfold flwLt flwCmp
  rw [cmpStr_gt h]; rfl
theorem flwCmp_bad2 {y x : Flw} (h : strEq y.src x.src = true) (h2 : strLt y.dst x.dst = false) : flwLt y x = false := by
  unfold flwLt flwCmp
  rw [if_pos (cmpStr_zero.2 (strEq_iff.1 h))]
  refine decide_eq_false fun h3 => ?_
  rw [cmpStr_neg, h2] at h3; cases h3
theorem flwCmp_ok1 {y x : Flw} (h : (!(strLt y.src x.src || strEq y.src x.src)) = false) (h2 : strEq y.src x.src = false) : flwLt y x = true := by
  rw [h2, Bool.or_false, Bool.not_eq_false'] at h
  unfold flwLt flwCmp
  rw [cmpStr_lt h]; rfl
theorem flwCmp_ok2 {y x : Flw} (h : strEq y.src x.src = true) (h2 : strLt y.dst x.dst = true) : flwLt y x = true := by
  unfold flwLt flwCmp
  rw [if_pos (cmpStr_zero.2 (strEq_iff.1 h)), cmpStr_lt h2]; rfl
set_option maxHeartbeats 1000000 in
theorem r17Valid_e (g : Dfg) (hf : fitD g) (ha : g.acts.length ≤ 1000000) : AF Tryz.prog 19 [pDfg g] (· = pBool (dfgOk g)) := by
  refine AF.of_body 101 Tryz.func19 rfl Tryz.ntmps19 (Nat.le_of_ble_eq_true rfl) ?_
  intro w0 M0 vs hl hv
  obtain ⟨v0, rfl⟩ := len1 hl
  clear hl hv
  refine nav ?_
  (refine aC_region ?_
    <;> refine s_boxa 1 4 fun h1 => ?_
    <;> refine xL 2 q_assign ?_
    <;> refine aL_end (nav ?_) <;> try dsimp only)
  (refine aC_region ?_
    <;> refine xL 6 (q_fldo 1 tFl25_0_LbH) ?_
    <;> (refine yL 7 (q_ldo 1 tNa22_LbH) fun v7 hv7 => ?_; cases hv7)
    <;> (refine cS 8 (cA Tryz.call61 (r17names_e g.acts ha)) fun v8 hv8 => ?_; cases hv8)
    <;> refine xL 3 q_assign ?_
    <;> refine aL_end (nav ?_) <;> try dsimp only)
  (refine aC_region ?_
    <;> refine xL 9 q_move ?_
    <;> (refine cS 10 (cA Tryz.call62 (rAlphabet_e (cnames g.acts) (fun s hs => by obtain ⟨c, hc, rfl⟩ := List.mem_map.1 hs; exact (hf.1.2 c hc).1))) fun v10 hv10 => ?_; cases hv10)
    <;> refine xL 11 q_not ?_
    <;> refine xL 12 q_move ?_
    <;> (refine bL 12 (fun hb12 => ?_) (fun hb12 => ?_) <;> (first | refine kL 13 ?_ | refine xL 13 (q_fldo 1 tFl25_0_LbH) ?_))
    <;> (first | refine kL 14 ?_ | (refine yL 14 (q_ldo 1 tNa22_LbH) fun v14 hv14 => ?_; cases hv14))
    <;> (first | refine kL 15 ?_ | refine xL 15 q_move ?_)
    <;> (first | refine kL 16 ?_ | (refine cS 16 (cA Tryz.call63 (r17counts_e g.acts (cnames g.acts))) fun v16 hv16 => ?_; cases hv16))
    <;> (first | refine kL 17 ?_ | refine xL 17 q_not ?_)
    <;> refine xL 18 q_pick ?_
    <;> refine xL 19 q_move ?_
    <;> (first | refine kL 20 ?_ | (refine bL 19 (fun hb19 => ?_) (fun hb19 => ?_) <;> (first | refine kL 20 ?_ | refine xL 20 (q_fldo 1 tFl25_1_LbH) ?_)))
    <;> (first | refine kL 21 ?_ | (refine yL 21 (q_ldo 1 tNa22_LbH) fun v21 hv21 => ?_; cases hv21))
    <;> (first | refine kL 22 ?_ | refine xL 22 q_move ?_)
    <;> (first | refine kL 23 ?_ | (refine cS 23 (cA Tryz.call63 (r17counts_e g.starts (cnames g.acts))) fun v23 hv23 => ?_; cases hv23))
    <;> (first | refine kL 24 ?_ | refine xL 24 q_not ?_)
    <;> refine xL 25 q_pick ?_
    <;> refine xL 26 q_move ?_
    <;> (first | refine kL 27 ?_ | (refine bL 26 (fun hb26 => ?_) (fun hb26 => ?_) <;> (first | refine kL 27 ?_ | refine xL 27 (q_fldo 1 tFl25_2_LbH) ?_)))
    <;> (first | refine kL 28 ?_ | (refine yL 28 (q_ldo 1 tNa22_LbH) fun v28 hv28 => ?_; cases hv28))
    <;> (first | refine kL 29 ?_ | refine xL 29 q_move ?_)
    <;> (first | refine kL 30 ?_ | (refine cS 30 (cA Tryz.call63 (r17counts_e g.ends (cnames g.acts))) fun v30 hv30 => ?_; cases hv30))
    <;> (first | refine kL 31 ?_ | refine xL 31 q_not ?_)
    <;> refine xL 32 q_pick ?_
    <;> refine aL_end (nav ?_) <;> try dsimp only) <;> (
   first | refine cCd (fun hb32 => ?_) (fun hb32 => ?_) | refine cC (fun hb32 => ?_) (fun hb32 => ?_)
   · first
     | exact Bool.noConfusion hb32
     | (
      refine nav ?_
      (refine aC_region ?_
        <;> refine xL 2 q_assign ?_
        <;> refine aL_end (nav ?_) <;> try dsimp only)
      refine ret_shr (Tryz.results19) rfl ?_
      rw [show dfgOk g = false from ?_]
      rw [← Bool.not_eq_true]; intro hd
      unfold dfgOk at hd
      simp only [Bool.and_eq_true] at hd
      obtain ⟨⟨⟨⟨⟨⟨⟨h1, h2⟩, h3⟩, h4⟩, h5⟩, h6⟩, h7⟩, h8⟩ := hd
      first
        | (simp [h1] at hb12; done)
        | (simp [counts_acts h1, h4] at hb19; done)
        | (simp [countsB_eq, h2, h5] at hb26; done)
        | (simp [countsB_eq, h3, h6] at hb32; done))
   · first
     | exact Bool.noConfusion hb32
     | (
      refine nav ?_
      (refine aC_region ?_
        <;> refine xL 4 q_assign ?_
        <;> refine aL_end (nav ?_) <;> try dsimp only)
      have h1 : alphaB (cnames g.acts) = true := by simpa using hb12
      have h4 : g.acts.all (fun c => countedB c.n) = true := by rw [← counts_acts h1]; simpa using hb19
      have h25 : ascB (cnames g.starts) (cnames g.acts) = true ∧ g.starts.all (fun c => countedB c.n) = true := by
        have : countsB g.starts (cnames g.acts) = true := by simpa using hb26
        rw [countsB_eq, Bool.and_eq_true] at this; exact this
      have h36 : ascB (cnames g.ends) (cnames g.acts) = true ∧ g.ends.all (fun c => countedB c.n) = true := by
        have : countsB g.ends (cnames g.acts) = true := by simpa using hb32
        rw [countsB_eq, Bool.and_eq_true] at this; exact this
      have hfl := hf.2.2.2.1
      refine aC_loop (ι := { k : Nat // k ≤ g.follows.length ∧ ∀ j x, j < k → g.follows[j]? = some x → flwOk (cnames g.acts) x = true ∧ ∀ y, 1 ≤ j → g.follows[j - 1]? = some y → flwLt y x = true }) (fun k => ⟨[(1, _, _), (3, _, _), (4, .int .i64 k.1, pInt k.1)], [(1, _, _)]⟩) (fun k => g.follows.length - k.1) ⟨0, by omega, by omega⟩ (fun a w H => H.weaken ⟨rfl, rfl, rfl, trivial⟩ ⟨rfl, trivial⟩) ?_
      rintro ⟨k, hk, hp⟩
      dsimp only
      refine nav ?_
      (refine aC_region ?_
        <;> refine xL 33 q_move ?_
        <;> refine xL 34 (q_fldo 1 tFl25_3_LbH) ?_
        <;> (refine yL 35 (q_ldo 1 tNa23_LbH) fun v35 hv35 => ?_; cases hv35)
        <;> refine xL 36 (q_len tSl23_LbH) ?_
        <;> refine xL 37 q_lss ?_
        <;> refine aL_end (nav ?_) <;> try dsimp only)
      first | refine cCd (fun hb37 => ?_) (fun hb37 => ?_) | refine cC (fun hb37 => ?_) (fun hb37 => ?_)
      · first
        | exact Bool.noConfusion hb37
        | (
         obtain ⟨x, hx⟩ := get_some (show k < g.follows.length by omega)
         obtain ⟨y, hy⟩ := get_some (show k - 1 < g.follows.length by omega)
         have e1 := flat_drop cFlw_len g.follows k x hx
         have e2 := flat_fit cFlw_len hx
         have e3 : (g.follows.flatMap cFlw)[((k : Int) - 1).toNat * 3 + 0]? = some (pStr y.src) := by rw [show ((k : Int) - 1).toNat * 3 + 0 = (k - 1) * 3 + 0 by omega]; exact flat_at cFlw_len hy (by decide)
         have e4 : (g.follows.flatMap cFlw)[((k : Int) - 1).toNat * 3 + 1]? = some (pStr y.dst) := by rw [show ((k : Int) - 1).toNat * 3 + 1 = (k - 1) * 3 + 1 by omega]; exact flat_at cFlw_len hy (by decide)
         refine nav ?_
         (refine aC_region ?_
           <;> refine xL 40 (q_fldo 1 tFl25_3_LbH) ?_
           <;> (refine yL 41 (q_ldo 1 tNa23_LbH) fun v41 hv41 => ?_; cases hv41)
           <;> refine xL 42 q_move ?_
           <;> refine xL 43 (q_idxN tSl23_LbH) ?_
           <;> (refine yL 44 (q_lda tAgg68_LbH) fun v44 hv44 => ?_; cases hv44)
           <;> refine s_alloc [(.string ByteArray.empty), (.string ByteArray.empty), (.int .i64 0)] 3 5 tZr68_LbH fun h5 => ?_
           <;> refine s_sta 5 tAgg68_LbH ?_
           <;> refine aL_end (nav ?_) <;> try dsimp only)
         (refine aC_region ?_
           <;> refine xL 45 (q_fldo 5 tFl68_2_LbH) ?_
           <;> (refine yL 46 (q_ldo 5 tNa3_LbH) fun v46 hv46 => ?_; cases hv46)
           <;> (refine cS 47 (cA Tryz.call64 (r17number_e x.n)) fun v47 hv47 => ?_; cases hv47)
           <;> refine xL 48 q_not ?_
           <;> refine xL 49 q_move ?_
           <;> (refine bL 49 (fun hb49 => ?_) (fun hb49 => ?_) <;> (first | refine kL 50 ?_ | refine xL 50 q_move ?_))
           <;> (first | refine kL 51 ?_ | refine xL 51 (q_fldo 5 tFl68_0_LbH) ?_)
           <;> (first | refine kL 52 ?_ | (refine yL 52 (q_ldo 5 tNa9_LbH) fun v52 hv52 => ?_; cases hv52))
           <;> (first | refine kL 53 ?_ | (refine cS 53 (cA Tryz.call65 (rIndex_e (cnames g.acts) x.src)) fun v53 hv53 => ?_; cases hv53))
           <;> (first | refine kL 54 ?_ | refine xL 54 q_lss ?_)
           <;> refine xL 55 q_pick ?_
           <;> refine xL 56 q_move ?_
           <;> (first | refine kL 57 ?_ | (refine bLd 56 (fun hb56 => ?_) (fun hb56 => ?_) <;> (first | refine kL 57 ?_ | refine xL 57 q_move ?_)))
           <;> (first | refine kL 58 ?_ | refine xL 58 (q_fldo 5 tFl68_1_LbH) ?_)
           <;> (first | refine kL 59 ?_ | (refine yL 59 (q_ldo 5 tNa9_LbH) fun v59 hv59 => ?_; cases hv59))
           <;> (first | refine kL 60 ?_ | (refine cS 60 (cA Tryz.call65 (rIndex_e (cnames g.acts) x.dst)) fun v60 hv60 => ?_; cases hv60))
           <;> (first | refine kL 61 ?_ | refine xL 61 q_lss ?_)
           <;> refine xL 62 q_pick ?_
           <;> refine aL_end (nav ?_) <;> try dsimp only) <;> (
          first | refine cCd (fun hb62 => ?_) (fun hb62 => ?_) | refine cC (fun hb62 => ?_) (fun hb62 => ?_)
          · first
            | exact Bool.noConfusion hb62
            | (
             refine nav ?_
             (refine aC_region ?_
               <;> refine xL 2 q_assign ?_
               <;> refine aL_end (nav ?_) <;> try dsimp only)
             refine ret_shr (Tryz.results19) rfl ?_
             rw [dfg_no (.inr (.inr (.inr (.inr (.inr (.inr (.inl (all_stop hx (show flwOk (cnames g.acts) x = false from ?_)))))))))]
             unfold flwOk
             first
               | rw [show countedB x.n = false by simpa using hb49]; rfl
               | rw [ix_none hb56]; simp
               | rw [ix_none hb62]; simp)
          · first
            | exact Bool.noConfusion hb62
            | (
             refine nav ?_
             have hok : flwOk (cnames g.acts) x = true := by unfold flwOk; rw [show countedB x.n = true by simpa using hb49, ix_some hb56, ix_some hb62]; rfl
             (refine aC_draw (fun i => ([] : List Nat).elem i) [1, 5] (by kernel_rfl) ?_
               <;> refine xE 0 63 rfl q_move ?_
               <;> refine xE 1 64 rfl q_gtr ?_
               <;> refine xE 2 65 rfl q_move ?_
               <;> (refine bDd 65 (fun hb65 => ?_) (fun hb65 => ?_) <;> (first | refine kD 3 66 rfl ?_ | refine xD 3 66 rfl (q_fldo 1 tFl25_3_LbH) ?_))
               <;> (first | refine kD 4 67 rfl ?_ | (refine yD 4 67 rfl (q_ldo 1 tNa23_LbH) fun v67 hv67 => ?_; cases hv67))
               <;> (first | refine kD 5 68 rfl ?_ | refine xD 5 68 rfl q_move ?_)
               <;> (first | refine kD 6 69 rfl ?_ | refine xD 6 69 rfl q_sub ?_)
               <;> (first | refine kD 7 70 rfl ?_ | refine xD 7 70 rfl (q_idx tSl23_LbH) ?_)
               <;> (first | refine kD 8 71 rfl ?_ | refine xD 8 71 rfl (q_fld tFl68_0_LbH) ?_)
               <;> (first | refine kD 9 72 rfl ?_ | (refine yD 9 72 rfl (q_ld tNa9_LbH) fun v72 hv72 => ?_; cases hv72))
               <;> (first | refine kD 10 73 rfl ?_ | refine xD 10 73 rfl (q_fldo 5 tFl68_0_LbH) ?_)
               <;> (first | refine kD 11 74 rfl ?_ | (refine yD 11 74 rfl (q_ldo 5 tNa9_LbH) fun v74 hv74 => ?_; cases hv74))
               <;> (first | refine kD 12 75 rfl ?_ | refine xD 12 75 rfl q_sgtr ?_)
               <;> (first | refine kD 13 76 rfl ?_ | refine xD 13 76 rfl q_move ?_)
               <;> (first | refine kD 14 77 rfl ?_ | (refine bD 76 (fun hb76 => ?_) (fun hb76 => ?_) <;> (first | refine kD 14 77 rfl ?_ | refine xD 14 77 rfl (q_fldo 1 tFl25_3_LbH) ?_)))
               <;> (first | refine kD 15 78 rfl ?_ | (refine yD 15 78 rfl (q_ldo 1 tNa23_LbH) fun v78 hv78 => ?_; cases hv78))
               <;> (first | refine kD 16 79 rfl ?_ | refine xD 16 79 rfl q_move ?_)
               <;> (first | refine kD 17 80 rfl ?_ | refine xD 17 80 rfl q_sub ?_)
               <;> (first | refine kD 18 81 rfl ?_ | refine xD 18 81 rfl (q_idx tSl23_LbH) ?_)
               <;> (first | refine kD 19 82 rfl ?_ | refine xD 19 82 rfl (q_fld tFl68_0_LbH) ?_)
               <;> (first | refine kD 20 83 rfl ?_ | (refine yD 20 83 rfl (q_ld tNa9_LbH) fun v83 hv83 => ?_; cases hv83))
               <;> (first | refine kD 21 84 rfl ?_ | refine xD 21 84 rfl (q_fldo 5 tFl68_0_LbH) ?_)
               <;> (first | refine kD 22 85 rfl ?_ | (refine yD 22 85 rfl (q_ldo 5 tNa9_LbH) fun v85 hv85 => ?_; cases hv85))
               <;> (first | refine kD 23 86 rfl ?_ | refine xD 23 86 rfl q_seql ?_)
               <;> (first | refine kD 24 87 rfl ?_ | refine xD 24 87 rfl q_move ?_)
               <;> (first | refine kD 25 88 rfl ?_ | (refine bD 87 (fun hb87 => ?_) (fun hb87 => ?_) <;> (first | refine kD 25 88 rfl ?_ | refine xD 25 88 rfl (q_fldo 1 tFl25_3_LbH) ?_)))
               <;> (first | refine kD 26 89 rfl ?_ | (refine yD 26 89 rfl (q_ldo 1 tNa23_LbH) fun v89 hv89 => ?_; cases hv89))
               <;> (first | refine kD 27 90 rfl ?_ | refine xD 27 90 rfl q_move ?_)
               <;> (first | refine kD 28 91 rfl ?_ | refine xD 28 91 rfl q_sub ?_)
               <;> (first | refine kD 29 92 rfl ?_ | refine xD 29 92 rfl (q_idx tSl23_LbH) ?_)
               <;> (first | refine kD 30 93 rfl ?_ | refine xD 30 93 rfl (q_fld tFl68_1_LbH) ?_)
               <;> (first | refine kD 31 94 rfl ?_ | (refine yD 31 94 rfl (q_ld tNa9_LbH) fun v94 hv94 => ?_; cases hv94))
               <;> (first | refine kD 32 95 rfl ?_ | refine xD 32 95 rfl (q_fldo 5 tFl68_1_LbH) ?_)
               <;> (first | refine kD 33 96 rfl ?_ | (refine yD 33 96 rfl (q_ldo 5 tNa9_LbH) fun v96 hv96 => ?_; cases hv96))
               <;> (first | refine kD 34 97 rfl ?_ | refine xD 34 97 rfl q_sgeq ?_)
               <;> (first | refine kD 35 98 rfl ?_ | refine xD 35 98 rfl q_pick ?_)
               <;> (first | refine kD 36 99 rfl ?_ | refine xD 36 99 rfl q_pick ?_)
               <;> refine xE 37 100 rfl q_pick ?_
               <;> refine aD_end (by kernel_rfl) (nav ?_)
               <;> try dsimp only) <;> (
              first | refine cCd (fun hb100 => ?_) (fun hb100 => ?_) | refine cC (fun hb100 => ?_) (fun hb100 => ?_)
              · first
                | exact Bool.noConfusion hb100
                | (
                 refine nav ?_
                 (refine aC_region ?_
                   <;> refine xL 2 q_assign ?_
                   <;> refine aL_end (nav ?_) <;> try dsimp only)
                 refine ret_shr (Tryz.results19) rfl ?_
                 rw [dfg_no (.inr (.inr (.inr (.inr (.inr (.inr (.inr (chainB_stop (by omega) hy hx (show flwLt y x = false from ?_)))))))))]
                 first
                   | exact flwCmp_bad1 hb76
                   | exact flwCmp_bad2 hb87 (by simpa [strLt] using hb100))
              · first
                | exact Bool.noConfusion hb100
                | (
                 refine nav ?_
                 (refine aC_region ?_
                   <;> refine xL 38 q_move ?_
                   <;> refine xL 39 q_add ?_
                   <;> refine xL 4 q_assign ?_
                   <;> refine aL_end (nav ?_) <;> try dsimp only)
                 refine aN_again (
                   ⟨k + 1, by omega, fun j z hj hz => by
                     by_cases e : j = k
                     · subst e; rw [hx] at hz; cases hz
                       refine ⟨hok, fun y' h1 hy' => ?_⟩
                       rw [hy] at hy'; cases hy'
                       first
                         | omega
                         | exact flwCmp_ok2 hb87 (by simpa [strLt] using hb100)
                         | exact flwCmp_ok1 hb76 hb87
                     · exact hp j z (by omega) hz⟩
                   ) (by dsimp only; omega) ⟨rfl, rfl, rfl, trivial⟩ ⟨rfl, trivial⟩)))))
      · first
        | exact Bool.noConfusion hb37
        | (
         refine nav ?_
         (refine aC_region ?_
           <;> refine xL 2 q_assign ?_
           <;> refine aL_end (nav ?_) <;> try dsimp only)
         refine ret_shr (Tryz.results19) rfl ?_
         have h7 : g.follows.all (flwOk (cnames g.acts)) = true := all_end fun j x hj => (hp j x (by have := lt_of_get hj; omega) hj).1
         have h8 : chainB flwLt g.follows = true := chainB_end fun j x y h1 hy hx => (hp j x (by have := lt_of_get hx; omega) hx).2 y h1 hy
         unfold dfgOk; rw [h1, h25.1, h25.2, h36.1, h36.2, h4, h7, h8]; rfl)))
end Go.Proofs.YtoanjgpdepaciaaGreat

namespace Go.Proofs.YtoanjgpdepaciaaGreat
open Go.RowKit Go.Cb Go.En
set_option linter.all false
set_option maxRecDepth 100000

theorem tAgg86_LbI : AggT Tryz.prog 86 5 = true := by kernel_rfl
theorem tEl36_LbI : ElT Tryz.prog 36 9 1 16 (.string ByteArray.empty) := ⟨Tryz.underlying36, by kernel_rfl, rfl, by decide⟩
theorem tEl77_LbI : ElT Tryz.prog 77 78 1 24 (.slice none 0 0) := ⟨Tryz.underlying77, by kernel_rfl, rfl, by decide⟩
theorem tEl78_LbI : ElT Tryz.prog 78 4 1 1 (.bool false) := ⟨Tryz.underlying78, by kernel_rfl, rfl, by decide⟩
theorem tFl25_0_LbI : FldT Tryz.prog 25 0 0 = true := by kernel_rfl
theorem tFl25_1_LbI : FldT Tryz.prog 25 1 1 = true := by kernel_rfl
theorem tFl25_2_LbI : FldT Tryz.prog 25 2 2 = true := by kernel_rfl
theorem tFl25_3_LbI : FldT Tryz.prog 25 3 3 = true := by kernel_rfl
theorem tFl62_0_LbI : FldT Tryz.prog 62 0 0 = true := by kernel_rfl
theorem tFl68_0_LbI : FldT Tryz.prog 68 0 0 = true := by kernel_rfl
theorem tFl68_1_LbI : FldT Tryz.prog 68 1 1 = true := by kernel_rfl
theorem tFl86_0_LbI : FldT Tryz.prog 86 0 0 = true := by kernel_rfl
theorem tFl86_1_LbI : FldT Tryz.prog 86 1 1 = true := by kernel_rfl
theorem tFl86_2_LbI : FldT Tryz.prog 86 2 2 = true := by kernel_rfl
theorem tFl86_3_LbI : FldT Tryz.prog 86 3 3 = true := by kernel_rfl
theorem tFl86_4_LbI : FldT Tryz.prog 86 4 4 = true := by kernel_rfl
theorem tNa22_LbI : NoAgg Tryz.prog 22 = true := by kernel_rfl
theorem tNa23_LbI : NoAgg Tryz.prog 23 = true := by kernel_rfl
theorem tNa36_LbI : NoAgg Tryz.prog 36 = true := by kernel_rfl
theorem tNa4_LbI : NoAgg Tryz.prog 4 = true := by kernel_rfl
theorem tNa77_LbI : NoAgg Tryz.prog 77 = true := by kernel_rfl
theorem tNa78_LbI : NoAgg Tryz.prog 78 = true := by kernel_rfl
theorem tNa9_LbI : NoAgg Tryz.prog 9 = true := by kernel_rfl
theorem tSl22_LbI : SlT Tryz.prog 22 62 2 = true := by kernel_rfl
theorem tSl23_LbI : SlT Tryz.prog 23 68 3 = true := by kernel_rfl
theorem tSl36_LbI : SlT Tryz.prog 36 9 1 = true := by kernel_rfl
theorem tSl77_LbI : SlT Tryz.prog 77 78 1 = true := by kernel_rfl
theorem tSl78_LbI : SlT Tryz.prog 78 4 1 = true := by kernel_rfl
theorem tSz36_LbI : (Tryz.prog.info? 36).map (·.size) = some 1 := by kernel_rfl
theorem tSz4_LbI : (Tryz.prog.info? 4).map (·.size) = some 1 := by kernel_rfl
theorem tSz77_LbI : (Tryz.prog.info? 77).map (·.size) = some 1 := by kernel_rfl
theorem tSz78_LbI : (Tryz.prog.info? 78).map (·.size) = some 1 := by kernel_rfl
theorem tZr86_LbI : ZeroT Tryz.prog 86 (.agg #[(.slice none 0 0), (.slice none 0 0), (.slice none 0 0), (.slice none 0 0), (.slice none 0 0)]) := by unfold ZeroT; kernel_rfl

def cView (l : List ByteArray) (n : Nat) (E R : Nat → Nat → Bool) (S F : Nat → Bool) : List PV := [pStrs l, pMat n E, pMat n R, pBools n S, pBools n F]
theorem rIndexN_e (l : List ByteArray) (s : ByteArray) (h : hasStr l s = true) : AF Tryz.prog 65 [pStrs l, pStr s] (· = pInt (ixN l s : Nat)) := (rIndex_e l s).mono fun p hp => by rw [hp, (ixN_of h).1]
theorem vsnoc_at {α : Type} {k : Nat} {f : Nat → α} {x : α} : (vec k f ++ [x])[k]? = some x := by
  rw [List.getElem?_append_right (by rw [vec_len]; exact Nat.le_refl _), vec_len, Nat.sub_self]; rfl
theorem vsnoc_set {α : Type} {k : Nat} {f : Nat → α} {x : α} : (vec k f ++ [x]).set k (f k) = vec (k + 1) f := by
  rw [List.set_append_right _ _ (by rw [vec_len]; exact Nat.le_refl _), vec_len, Nat.sub_self, vec_snoc]; rfl
set_option maxHeartbeats 2000000 in
theorem rOf_e (g : Dfg) (hg : dfgOk g = true) (hfl : g.follows.length ≤ 140737488355328) (hsl : g.starts.length ≤ 140737488355328) (hel : g.ends.length ≤ 140737488355328) : AF Tryz.prog 48 [pDfg g] (· = .agg (cView (cnames g.acts) g.acts.length (edgeF (cnames g.acts) g.follows) (reachB g.acts.length (edgeF (cnames g.acts) g.follows)) (markF (cnames g.acts) g.starts) (markF (cnames g.acts) g.ends))) := by
  obtain ⟨hn40, hst, hen, hfo⟩ := dfg_parts hg
  have hna : (cnames g.acts).length = g.acts.length := by simp [cnames]
  refine AF.of_body 192 Tryz.func48 rfl Tryz.ntmps48 (Nat.le_of_ble_eq_true rfl) ?_
  intro w0 M0 vs hl hv
  obtain ⟨v0, rfl⟩ := len1 hl
  clear hl hv
  refine nav ?_
  (refine aC_region ?_
    <;> refine s_boxa 1 4 fun h1 => ?_
    <;> refine s_alloc [(.slice none 0 0), (.slice none 0 0), (.slice none 0 0), (.slice none 0 0), (.slice none 0 0)] 5 2 tZr86_LbI fun h2 => ?_
    <;> refine aL_end (nav ?_) <;> try dsimp only)
  (refine aC_region ?_
    <;> refine s_alloc [(.slice none 0 0), (.slice none 0 0), (.slice none 0 0), (.slice none 0 0), (.slice none 0 0)] 5 3 tZr86_LbI fun h3 => ?_
    <;> refine aL_end (nav ?_) <;> try dsimp only)
  (refine aC_region ?_
    <;> refine xL 4 q_assign ?_
    <;> refine aL_end (nav ?_) <;> try dsimp only)
  refine aC_ent (nilOwn 200 9 1 rfl) fun _ => ?_
  refine aC_loop (ι := { x : Nat × Value // x.1 ≤ g.acts.length }) (fun k => ⟨[(1, _, _), (2, _, _), (3, _, _), (4, .int .i64 k.1.1, pInt k.1.1)], [(1, _, _), (2, _, _), (3, h3, .own 86 5 1 [.val k.1.2, .val (.slice none 0 0), .val (.slice none 0 0), .val (.slice none 0 0), .val (.slice none 0 0)]), (200, k.1.2, .own 9 1 k.1.1 ((cnames (g.acts.take k.1.1)).map pStr))]⟩) (fun k => g.acts.length - k.1.1) ⟨(0, .slice none 0 0), by omega⟩ (fun a w H => H.weaken ⟨rfl, rfl, rfl, rfl, trivial⟩ ⟨rfl, rfl, rfl, rfl, trivial⟩) ?_
  rintro ⟨⟨k, h33⟩, hk⟩
  dsimp only
  dsimp only at hk
  refine nav ?_
  (refine aC_region ?_
    <;> refine xL 16 q_move ?_
    <;> refine xL 17 (q_fldo 1 tFl25_0_LbI) ?_
    <;> (refine yL 18 (q_ldo 1 tNa22_LbI) fun v18 hv18 => ?_; cases hv18)
    <;> refine xL 19 (q_len tSl22_LbI) ?_
    <;> refine xL 20 q_lss ?_
    <;> refine aL_end (nav ?_) <;> try dsimp only)
  first | refine cCd (fun hb20 => ?_) (fun hb20 => ?_) | refine cC (fun hb20 => ?_) (fun hb20 => ?_)
  · first
    | exact Bool.noConfusion hb20
    | (
     obtain ⟨x, hx⟩ := get_some (show k < g.acts.length by omega)
     have e1 : (g.acts.flatMap cCnt)[k * 2 + 0]? = some (pStr x.name) := flat_at cCnt_len hx (by decide)
     have e3 : ((cnames (g.acts.take k)).map pStr).length = k := by simp [cnames]; omega
     refine nav ?_
     (refine aC_draw (fun i => ([11] : List Nat).elem i) [1, 3] (by kernel_rfl) ?_
       <;> refine xD 0 23 rfl (q_fldo 3 tFl86_0_LbI) ?_
       <;> (refine yD 1 24 rfl (q_ldo 3 tNa36_LbI) fun v24 hv24 => ?_; cases hv24)
       <;> refine xD 2 25 rfl (q_fldo 1 tFl25_0_LbI) ?_
       <;> (refine yD 3 26 rfl (q_ldo 1 tNa22_LbI) fun v26 hv26 => ?_; cases hv26)
       <;> refine xE 4 27 rfl q_move ?_
       <;> refine xE 5 28 rfl (q_idxN tSl22_LbI) ?_
       <;> refine xE 6 29 rfl (q_fld tFl62_0_LbI) ?_
       <;> (refine yE 7 30 rfl (q_ld tNa9_LbI) fun v30 hv30 => ?_; cases hv30)
       <;> (refine aD_one 8 (by kernel_rfl) ?_)
       <;> (refine aW_run rfl fun w9 M9 N9 DQ back => ?_)
       <;> refine s_lit1 (kk := 1) 31 tEl36_LbI fun h31 ho31 => ?_
       <;> refine aL_end (back _ (nrm ?_))
       <;> (refine aD_one 9 (by kernel_rfl) ?_)
       <;> (refine aW_run rfl fun w9 M9 N9 DQ back => ?_)
       <;> refine s_app 200 31 32 tEl36_LbI fun h32 ho32 => ?_
       <;> refine aL_end (back _ (nrm ?_))
       <;> refine xE 10 33 rfl (q_fldo 3 tFl86_0_LbI) ?_
       <;> (refine aD_one 11 (by kernel_rfl) ?_)
       <;> (refine aW_last rfl rfl (by kernel_rfl) fun DQ back => ?_)
       <;> refine s_st 3 tNa36_LbI tSz36_LbI ?_
       <;> refine aL_end (back _ (nav ?_))
       <;> try dsimp only)
     (refine aC_region ?_
       <;> refine xL 21 q_move ?_
       <;> refine xL 22 q_add ?_
       <;> refine xL 4 q_assign ?_
       <;> refine aL_end (nav ?_) <;> try dsimp only)
     refine aN_ent (relabel (l := 32) 200 rfl rfl) fun _ => ?_
     rw [show (cnames (g.acts.take k)).map pStr ++ [pStr x.name] = (cnames (g.acts.take (k + 1))).map pStr by rw [cnames_take hx, List.map_append]; rfl]
     refine aN_again (
       ⟨(k + 1, h32), by show k + 1 ≤ g.acts.length; omega⟩
       ) (by dsimp only; omega) ⟨rfl, rfl, rfl, rfl, trivial⟩ ⟨rfl, rfl, rfl, rfl, trivial⟩)
  · first
    | exact Bool.noConfusion hb20
    | (
     refine nav ?_
     rw [show k = g.acts.length by omega, List.take_length]
     (refine aC_region ?_
       <;> refine xL 34 (q_fldo 3 tFl86_0_LbI) ?_
       <;> (refine yL 35 (q_ldo 3 tNa36_LbI) fun v35 hv35 => ?_; cases hv35)
       <;> refine xL 36 (q_leno 200 tSl36_LbI) ?_
       <;> refine xL 5 q_assign ?_
       <;> refine aL_end (nav ?_) <;> try dsimp only)
     refine aC_mid (fun x : Value × Value => ⟨[(1, padd (sbase h1) 0, .val (padd (sbase h1) 0)), (2, padd (sbase h2) 0, .val (padd (sbase h2) 0)), (3, padd (sbase h3) 0, .val (padd (sbase h3) 0)), (5, .int .i64 g.acts.length, pInt g.acts.length)], [(1, h1, .own 25 4 1 [pCnts g.acts, pCnts g.starts, pCnts g.ends, pFlws g.follows]), (2, h2, .own 86 5 1 [.val (.slice none 0 0), .val (.slice none 0 0), .val (.slice none 0 0), .val (.slice none 0 0), .val (.slice none 0 0)]), (3, h3, .own 86 5 1 [.val h33, .val (.slice none 0 0), .val (.slice none 0 0), .val x.1, .val x.2]), (200, h33, .own 9 1 g.acts.length ((cnames g.acts).map pStr)), (38, x.1, .own 4 1 g.acts.length (List.replicate g.acts.length (.val (.bool false)))), (40, x.2, .own 4 1 g.acts.length (List.replicate g.acts.length (.val (.bool false))))]⟩) ?_ ?_
     · (refine aC_draw (fun i => ([] : List Nat).elem i) [] (by kernel_rfl) ?_
         <;> refine xD 0 37 rfl q_move ?_
         <;> refine xD 2 39 rfl q_move ?_
         <;> (refine aD_two 1 3 (by kernel_rfl) ?_ ?_; rotate_right; (focus ((refine aW_run rfl fun w9 M9 N9 DQ back => ?_) <;> refine s_make 40 tEl78_LbI fun h40 ho40 => ?_ <;> refine aL_end (back _ (nrm ?_)) <;> (refine aD_one 1 (by kernel_rfl) ?_) <;> (refine aW_run rfl fun w9 M9 N9 DQ back => ?_) <;> refine s_make 38 tEl78_LbI fun h38 ho38 => ?_ <;> refine aL_end (back _ (nrm ?_)) <;> (refine aD_one 4 (by kernel_rfl) ?_) <;> (refine aW_run rfl fun w9 M9 N9 DQ back => ?_) <;> refine xL 41 (q_fldo 3 tFl86_3_LbI) ?_ <;> refine aL_end (back _ (nrm ?_)) <;> (refine aD_one 5 (by kernel_rfl) ?_) <;> (refine aW_run rfl fun w9 M9 N9 DQ back => ?_) <;> refine s_st 3 tNa78_LbI tSz78_LbI ?_ <;> refine aL_end (back _ (nrm ?_)) <;> (refine aD_one 6 (by kernel_rfl) ?_) <;> (refine aW_run rfl fun w9 M9 N9 DQ back => ?_) <;> refine xL 42 (q_fldo 3 tFl86_4_LbI) ?_ <;> refine aL_end (back _ (nrm ?_)) <;> (refine aD_one 7 (by kernel_rfl) ?_) <;> (refine aW_run rfl fun w9 M9 N9 DQ back => ?_) <;> refine s_st 3 tNa78_LbI tSz78_LbI ?_ <;> refine aL_end (back _ (nrm ?_)) <;> refine aD_end (by kernel_rfl) (nav ?_))); rotate_right; (focus ((refine aW_run rfl fun w9 M9 N9 DQ back => ?_) <;> refine s_make 38 tEl78_LbI fun h38 ho38 => ?_ <;> refine aL_end (back _ (nrm ?_)) <;> (refine aD_two 3 4 (by kernel_rfl) ?_ ?_; rotate_right; (focus ((refine aW_run rfl fun w9 M9 N9 DQ back => ?_) <;> refine xL 41 (q_fldo 3 tFl86_3_LbI) ?_ <;> refine aL_end (back _ (nrm ?_)) <;> (refine aD_two 3 5 (by kernel_rfl) ?_ ?_; rotate_right; (focus ((refine aW_run rfl fun w9 M9 N9 DQ back => ?_) <;> refine s_st 3 tNa78_LbI tSz78_LbI ?_ <;> refine aL_end (back _ (nrm ?_)) <;> (refine aD_one 3 (by kernel_rfl) ?_) <;> (refine aW_run rfl fun w9 M9 N9 DQ back => ?_) <;> refine s_make 40 tEl78_LbI fun h40 ho40 => ?_ <;> refine aL_end (back _ (nrm ?_)) <;> (refine aD_one 6 (by kernel_rfl) ?_) <;> (refine aW_run rfl fun w9 M9 N9 DQ back => ?_) <;> refine xL 42 (q_fldo 3 tFl86_4_LbI) ?_ <;> refine aL_end (back _ (nrm ?_)) <;> (refine aD_one 7 (by kernel_rfl) ?_) <;> (refine aW_run rfl fun w9 M9 N9 DQ back => ?_) <;> refine s_st 3 tNa78_LbI tSz78_LbI ?_ <;> refine aL_end (back _ (nrm ?_)) <;> refine aD_end (by kernel_rfl) (nav ?_))); rotate_right; (focus ((refine aW_run rfl fun w9 M9 N9 DQ back => ?_) <;> refine s_make 40 tEl78_LbI fun h40 ho40 => ?_ <;> refine aL_end (back _ (nrm ?_)) <;> (refine aD_one 5 (by kernel_rfl) ?_) <;> (refine aW_run rfl fun w9 M9 N9 DQ back => ?_) <;> refine s_st 3 tNa78_LbI tSz78_LbI ?_ <;> refine aL_end (back _ (nrm ?_)) <;> (refine aD_one 6 (by kernel_rfl) ?_) <;> (refine aW_run rfl fun w9 M9 N9 DQ back => ?_) <;> refine xL 42 (q_fldo 3 tFl86_4_LbI) ?_ <;> refine aL_end (back _ (nrm ?_)) <;> (refine aD_one 7 (by kernel_rfl) ?_) <;> (refine aW_run rfl fun w9 M9 N9 DQ back => ?_) <;> refine s_st 3 tNa78_LbI tSz78_LbI ?_ <;> refine aL_end (back _ (nrm ?_)) <;> refine aD_end (by kernel_rfl) (nav ?_)))))); rotate_right; (focus ((refine aW_run rfl fun w9 M9 N9 DQ back => ?_) <;> refine s_make 40 tEl78_LbI fun h40 ho40 => ?_ <;> refine aL_end (back _ (nrm ?_)) <;> (refine aD_one 4 (by kernel_rfl) ?_) <;> (refine aW_run rfl fun w9 M9 N9 DQ back => ?_) <;> refine xL 41 (q_fldo 3 tFl86_3_LbI) ?_ <;> refine aL_end (back _ (nrm ?_)) <;> (refine aD_one 5 (by kernel_rfl) ?_) <;> (refine aW_run rfl fun w9 M9 N9 DQ back => ?_) <;> refine s_st 3 tNa78_LbI tSz78_LbI ?_ <;> refine aL_end (back _ (nrm ?_)) <;> (refine aD_one 6 (by kernel_rfl) ?_) <;> (refine aW_run rfl fun w9 M9 N9 DQ back => ?_) <;> refine xL 42 (q_fldo 3 tFl86_4_LbI) ?_ <;> refine aL_end (back _ (nrm ?_)) <;> (refine aD_one 7 (by kernel_rfl) ?_) <;> (refine aW_run rfl fun w9 M9 N9 DQ back => ?_) <;> refine s_st 3 tNa78_LbI tSz78_LbI ?_ <;> refine aL_end (back _ (nrm ?_)) <;> refine aD_end (by kernel_rfl) (nav ?_)))))))
         <;> try dsimp only) <;> (
        exact aN_join (h38, h40) ⟨rfl, rfl, rfl, rfl, trivial⟩ ⟨rfl, rfl, rfl, rfl, rfl, rfl, trivial⟩)
     · rintro ⟨h38, h40⟩
       dsimp only
       refine aC_ent (freezeCell (l := 3) (l' := 200) (j := 0) rfl rfl rfl rfl) fun _ => ?_
       rw [share_strs, ← hna]
       rw [show (PV.sl (cnames g.acts).length ((cnames g.acts).map pStr)) = pStrs (cnames g.acts) from rfl]
       rw [hna]
       rw [show List.replicate g.acts.length (PV.val (.bool false)) = vec g.acts.length (fun i => pBool (markF (cnames g.acts) [] i)) from vec_const _ _]
       refine nav ?_
       (refine aC_region ?_
         <;> refine xL 6 q_assign ?_
         <;> refine aL_end (nav ?_) <;> try dsimp only)
       refine aC_loop (ι := { k : Nat // k ≤ g.starts.length }) (fun k => ⟨[(1, _, _), (2, _, _), (3, _, _), (5, _, _), (6, .int .i64 k.1, pInt k.1)], [(1, _, _), (2, _, _), (3, _, _), (40, _, _), (38, h38, oBools 4 g.acts.length (markF (cnames g.acts) (g.starts.take k.1)))]⟩) (fun k => g.starts.length - k.1) ⟨0, by omega⟩ (fun a w H => H.weaken ⟨rfl, rfl, rfl, rfl, rfl, trivial⟩ ⟨rfl, rfl, rfl, rfl, rfl, trivial⟩) ?_
       rintro ⟨k, hk⟩
       dsimp only
       refine nav ?_
       (refine aC_region ?_
         <;> refine xL 43 q_move ?_
         <;> refine xL 44 (q_fldo 1 tFl25_1_LbI) ?_
         <;> (refine yL 45 (q_ldo 1 tNa22_LbI) fun v45 hv45 => ?_; cases hv45)
         <;> refine xL 46 (q_len tSl22_LbI) ?_
         <;> refine xL 47 q_lss ?_
         <;> refine aL_end (nav ?_) <;> try dsimp only)
       first | refine cCd (fun hb47 => ?_) (fun hb47 => ?_) | refine cC (fun hb47 => ?_) (fun hb47 => ?_)
       · first
         | exact Bool.noConfusion hb47
         | (
          obtain ⟨x, hx⟩ := get_some (show k < g.starts.length by omega)
          have e1 : (g.starts.flatMap cCnt)[k * 2 + 0]? = some (pStr x.name) := flat_at cCnt_len hx (by decide)
          have hxa := hst x (List.mem_of_getElem? hx)
          have ha := (ixN_of hxa).2
          rw [hna] at ha
          have e5 := vec_len g.acts.length (fun j => pBool (markF (cnames g.acts) (g.starts.take k) j))
          refine nav ?_
          (refine aC_draw (fun i => ([12] : List Nat).elem i) [1, 3, 38] (by kernel_rfl) ?_
            <;> refine xD 0 50 rfl (q_fldo 3 tFl86_3_LbI) ?_
            <;> (refine yD 1 51 rfl (q_ldo 3 tNa78_LbI) fun v51 hv51 => ?_; cases hv51)
            <;> refine xD 2 52 rfl (q_fldo 3 tFl86_0_LbI) ?_
            <;> (refine yD 3 53 rfl (q_ldo 3 tNa36_LbI) fun v53 hv53 => ?_; cases hv53)
            <;> refine xD 4 54 rfl (q_fldo 1 tFl25_1_LbI) ?_
            <;> (refine yD 5 55 rfl (q_ldo 1 tNa22_LbI) fun v55 hv55 => ?_; cases hv55)
            <;> refine xE 6 56 rfl q_move ?_
            <;> refine xE 7 57 rfl (q_idxN tSl22_LbI) ?_
            <;> refine xE 8 58 rfl (q_fld tFl62_0_LbI) ?_
            <;> (refine yE 9 59 rfl (q_ld tNa9_LbI) fun v59 hv59 => ?_; cases hv59)
            <;> (refine aD_one 10 (by kernel_rfl) ?_)
            <;> (refine aW_call (d := 60) rfl (cA Tryz.call65 (rIndexN_e (cnames g.acts) x.name hxa)) fun v60 hv60 => ?_; cases hv60)
            <;> refine xE 11 61 rfl (q_idxoN 38 tSl78_LbI) ?_
            <;> (refine aD_one 12 (by kernel_rfl) ?_)
            <;> (refine aW_last rfl rfl (by kernel_rfl) fun DQ back => ?_)
            <;> refine s_st 38 tNa4_LbI tSz4_LbI ?_
            <;> refine aL_end (back _ (nav ?_))
            <;> try dsimp only)
          (refine aC_region ?_
            <;> refine xL 48 q_move ?_
            <;> refine xL 49 q_add ?_
            <;> refine xL 6 q_assign ?_
            <;> refine aL_end (nav ?_) <;> try dsimp only)
          rw [bools_step (f' := markF (cnames g.acts) (g.starts.take (k + 1))) fun i _ => mark_step hx i]
          refine aN_again (
            ⟨k + 1, by omega⟩
            ) (by dsimp only; omega) ⟨rfl, rfl, rfl, rfl, rfl, trivial⟩ ⟨rfl, rfl, rfl, rfl, rfl, trivial⟩)
       · first
         | exact Bool.noConfusion hb47
         | (
          refine nav ?_
          (refine aC_region ?_
            <;> refine xL 7 q_assign ?_
            <;> refine aL_end (nav ?_) <;> try dsimp only)
          rw [show k = g.starts.length by omega, List.take_length]
          refine aC_loop (ι := { k : Nat // k ≤ g.ends.length }) (fun k => ⟨[(1, _, _), (2, _, _), (3, _, _), (5, _, _), (7, .int .i64 k.1, pInt k.1)], [(1, _, _), (2, _, _), (3, _, _), (38, _, _), (40, h40, oBools 4 g.acts.length (markF (cnames g.acts) (g.ends.take k.1)))]⟩) (fun k => g.ends.length - k.1) ⟨0, by omega⟩ (fun a w H => H.weaken ⟨rfl, rfl, rfl, rfl, rfl, trivial⟩ ⟨rfl, rfl, rfl, rfl, rfl, trivial⟩) ?_
          rintro ⟨k, hk⟩
          dsimp only
          refine nav ?_
          (refine aC_region ?_
            <;> refine xL 62 q_move ?_
            <;> refine xL 63 (q_fldo 1 tFl25_2_LbI) ?_
            <;> (refine yL 64 (q_ldo 1 tNa22_LbI) fun v64 hv64 => ?_; cases hv64)
            <;> refine xL 65 (q_len tSl22_LbI) ?_
            <;> refine xL 66 q_lss ?_
            <;> refine aL_end (nav ?_) <;> try dsimp only)
          first | refine cCd (fun hb66 => ?_) (fun hb66 => ?_) | refine cC (fun hb66 => ?_) (fun hb66 => ?_)
          · first
            | exact Bool.noConfusion hb66
            | (
             obtain ⟨x, hx⟩ := get_some (show k < g.ends.length by omega)
             have e1 : (g.ends.flatMap cCnt)[k * 2 + 0]? = some (pStr x.name) := flat_at cCnt_len hx (by decide)
             have hxa := hen x (List.mem_of_getElem? hx)
             have ha := (ixN_of hxa).2
             rw [hna] at ha
             have e5 := vec_len g.acts.length (fun j => pBool (markF (cnames g.acts) (g.ends.take k) j))
             refine nav ?_
             (refine aC_draw (fun i => ([12] : List Nat).elem i) [1, 3, 40] (by kernel_rfl) ?_
               <;> refine xD 0 69 rfl (q_fldo 3 tFl86_4_LbI) ?_
               <;> (refine yD 1 70 rfl (q_ldo 3 tNa78_LbI) fun v70 hv70 => ?_; cases hv70)
               <;> refine xD 2 71 rfl (q_fldo 3 tFl86_0_LbI) ?_
               <;> (refine yD 3 72 rfl (q_ldo 3 tNa36_LbI) fun v72 hv72 => ?_; cases hv72)
               <;> refine xD 4 73 rfl (q_fldo 1 tFl25_2_LbI) ?_
               <;> (refine yD 5 74 rfl (q_ldo 1 tNa22_LbI) fun v74 hv74 => ?_; cases hv74)
               <;> refine xE 6 75 rfl q_move ?_
               <;> refine xE 7 76 rfl (q_idxN tSl22_LbI) ?_
               <;> refine xE 8 77 rfl (q_fld tFl62_0_LbI) ?_
               <;> (refine yE 9 78 rfl (q_ld tNa9_LbI) fun v78 hv78 => ?_; cases hv78)
               <;> (refine aD_one 10 (by kernel_rfl) ?_)
               <;> (refine aW_call (d := 79) rfl (cA Tryz.call65 (rIndexN_e (cnames g.acts) x.name hxa)) fun v79 hv79 => ?_; cases hv79)
               <;> refine xE 11 80 rfl (q_idxoN 40 tSl78_LbI) ?_
               <;> (refine aD_one 12 (by kernel_rfl) ?_)
               <;> (refine aW_last rfl rfl (by kernel_rfl) fun DQ back => ?_)
               <;> refine s_st 40 tNa4_LbI tSz4_LbI ?_
               <;> refine aL_end (back _ (nav ?_))
               <;> try dsimp only)
             (refine aC_region ?_
               <;> refine xL 67 q_move ?_
               <;> refine xL 68 q_add ?_
               <;> refine xL 7 q_assign ?_
               <;> refine aL_end (nav ?_) <;> try dsimp only)
             rw [bools_step (f' := markF (cnames g.acts) (g.ends.take (k + 1))) fun i _ => mark_step hx i]
             refine aN_again (
               ⟨k + 1, by omega⟩
               ) (by dsimp only; omega) ⟨rfl, rfl, rfl, rfl, rfl, trivial⟩ ⟨rfl, rfl, rfl, rfl, rfl, trivial⟩)
          · first
            | exact Bool.noConfusion hb66
            | (
             refine nav ?_
             (refine aC_region ?_
               <;> refine xL 8 q_assign ?_
               <;> refine aL_end (nav ?_) <;> try dsimp only)
             rw [show k = g.ends.length by omega, List.take_length]
             refine aC_ent (nilOwn 201 78 1 rfl) fun _ => ?_
             refine aC_ent (nilOwn 202 78 1 rfl) fun _ => ?_
             refine aC_loop (ι := { x : Nat × Value × Value // x.1 ≤ g.acts.length }) (fun k => ⟨[(1, _, _), (2, _, _), (3, _, _), (5, _, _), (8, .int .i64 k.1.1, pInt k.1.1)], [(1, _, _), (2, _, _), (38, _, _), (40, _, _), (3, h3, .own 86 5 1 [pStrs (cnames g.acts), .val k.1.2.1, .val k.1.2.2, .val h38, .val h40]), (201, k.1.2.1, .own 78 1 k.1.1 (vec k.1.1 fun _ => oBools 4 g.acts.length (fun _ => false))), (202, k.1.2.2, .own 78 1 k.1.1 (vec k.1.1 fun _ => oBools 4 g.acts.length (fun _ => false)))]⟩) (fun k => g.acts.length - k.1.1) ⟨(0, .slice none 0 0, .slice none 0 0), by omega⟩ (fun a w H => H.weaken ⟨rfl, rfl, rfl, rfl, rfl, trivial⟩ ⟨rfl, rfl, rfl, rfl, rfl, rfl, rfl, trivial⟩) ?_
             rintro ⟨⟨k, ha, hb⟩, hk⟩
             dsimp only
             dsimp only at hk
             refine nav ?_
             (refine aC_region ?_
               <;> refine xL 81 q_move ?_
               <;> refine xL 82 q_move ?_
               <;> refine xL 83 q_lss ?_
               <;> refine aL_end (nav ?_) <;> try dsimp only)
             first | refine cCd (fun hb83 => ?_) (fun hb83 => ?_) | refine cC (fun hb83 => ?_) (fun hb83 => ?_)
             · first
               | exact Bool.noConfusion hb83
               | (
                have hlt : k < g.acts.length := by omega
                have e1 := vec_len k (fun _ => oBools 4 g.acts.length (fun _ => false))
                refine nav ?_
                (refine aC_draw (fun i => ([7] : List Nat).elem i) [3] (by kernel_rfl) ?_
                  <;> refine xD 0 86 rfl (q_fldo 3 tFl86_1_LbI) ?_
                  <;> (refine yD 1 87 rfl (q_ldo 3 tNa77_LbI) fun v87 hv87 => ?_; cases hv87)
                  <;> refine xE 2 88 rfl q_move ?_
                  <;> (refine aD_one 3 (by kernel_rfl) ?_)
                  <;> (refine aW_run rfl fun w9 M9 N9 DQ back => ?_)
                  <;> refine s_make 89 tEl78_LbI fun h89 ho89 => ?_
                  <;> refine aL_end (back _ (nrm ?_))
                  <;> (refine aD_one 4 (by kernel_rfl) ?_)
                  <;> (refine aW_run rfl fun w9 M9 N9 DQ back => ?_)
                  <;> refine s_lit1 (kk := 1) 90 tEl77_LbI fun h90 ho90 => ?_
                  <;> refine aL_end (back _ (nrm ?_))
                  <;> (refine aD_one 5 (by kernel_rfl) ?_)
                  <;> (refine aW_run rfl fun w9 M9 N9 DQ back => ?_)
                  <;> refine s_app 201 90 91 tEl77_LbI fun h91 ho91 => ?_
                  <;> refine aL_end (back _ (nrm ?_))
                  <;> refine xE 6 92 rfl (q_fldo 3 tFl86_1_LbI) ?_
                  <;> (refine aD_one 7 (by kernel_rfl) ?_)
                  <;> (refine aW_last rfl rfl (by kernel_rfl) fun DQ back => ?_)
                  <;> refine s_st 3 tNa77_LbI tSz77_LbI ?_
                  <;> refine aL_end (back _ (nav ?_))
                  <;> try dsimp only)
                (refine aC_draw (fun i => ([7] : List Nat).elem i) [3] (by kernel_rfl) ?_
                  <;> refine xD 0 93 rfl (q_fldo 3 tFl86_2_LbI) ?_
                  <;> (refine yD 1 94 rfl (q_ldo 3 tNa77_LbI) fun v94 hv94 => ?_; cases hv94)
                  <;> refine xE 2 95 rfl q_move ?_
                  <;> (refine aD_one 3 (by kernel_rfl) ?_)
                  <;> (refine aW_run rfl fun w9 M9 N9 DQ back => ?_)
                  <;> refine s_make 96 tEl78_LbI fun h96 ho96 => ?_
                  <;> refine aL_end (back _ (nrm ?_))
                  <;> (refine aD_one 4 (by kernel_rfl) ?_)
                  <;> (refine aW_run rfl fun w9 M9 N9 DQ back => ?_)
                  <;> refine s_lit1 (kk := 1) 97 tEl77_LbI fun h97 ho97 => ?_
                  <;> refine aL_end (back _ (nrm ?_))
                  <;> (refine aD_one 5 (by kernel_rfl) ?_)
                  <;> (refine aW_run rfl fun w9 M9 N9 DQ back => ?_)
                  <;> refine s_app 202 97 98 tEl77_LbI fun h98 ho98 => ?_
                  <;> refine aL_end (back _ (nrm ?_))
                  <;> refine xE 6 99 rfl (q_fldo 3 tFl86_2_LbI) ?_
                  <;> (refine aD_one 7 (by kernel_rfl) ?_)
                  <;> (refine aW_last rfl rfl (by kernel_rfl) fun DQ back => ?_)
                  <;> refine s_st 3 tNa77_LbI tSz77_LbI ?_
                  <;> refine aL_end (back _ (nav ?_))
                  <;> try dsimp only)
                (refine aC_region ?_
                  <;> refine xL 84 q_move ?_
                  <;> refine xL 85 q_add ?_
                  <;> refine xL 8 q_assign ?_
                  <;> refine aL_end (nav ?_) <;> try dsimp only)
                refine aN_ent (fold (l := 91) (l' := 89) (j := k) rfl vsnoc_at rfl rfl) fun _ => ?_
                refine aN_ent (fold (l := 98) (l' := 96) (j := k) rfl vsnoc_at rfl rfl) fun _ => ?_
                rw [show List.replicate g.acts.length (PV.val (.bool false)) = vec g.acts.length (fun i => pBool false) from vec_const _ _]
                rw [vsnoc_set (f := fun _ => oBools 4 g.acts.length (fun _ => false)), vsnoc_set (f := fun _ => oBools 4 g.acts.length (fun _ => false))]
                refine aN_ent (relabel (l := 91) 201 rfl rfl) fun _ => ?_
                refine aN_ent (relabel (l := 98) 202 rfl rfl) fun _ => ?_
                refine aN_again (
                  ⟨(k + 1, h91, h98), by show k + 1 ≤ g.acts.length; omega⟩
                  ) (by dsimp only; omega) ⟨rfl, rfl, rfl, rfl, rfl, trivial⟩ ⟨rfl, rfl, rfl, rfl, rfl, rfl, rfl, trivial⟩)
             · first
               | exact Bool.noConfusion hb83
               | (
                refine nav ?_
                (refine aC_region ?_
                  <;> refine xL 9 q_assign ?_
                  <;> refine aL_end (nav ?_) <;> try dsimp only)
                rw [show k = g.acts.length by omega]
                refine aC_ent (spread (l := 201) 203 rfl rfl) fun Hs => ?_
                obtain ⟨Hs, hHs⟩ := Hs
                rw [vec_len] at hHs
                dsimp only
                refine aC_ent (spread (l := 202) 204 rfl rfl) fun Gs => ?_
                obtain ⟨Gs, hGs⟩ := Gs
                rw [vec_len] at hGs
                dsimp only
                refine aC_loop (ι := { k : Nat // k ≤ g.follows.length }) (fun k => ⟨[(1, _, _), (2, _, _), (3, _, _), (5, _, _), (9, .int .i64 k.1, pInt k.1)], [(1, _, _), (2, _, _), (3, _, _), (38, _, _), (40, _, _), (201, _, _), (202, _, _), (203, .agg Hs.toArray, .agg (vec g.acts.length fun i => oBools 4 g.acts.length (edgeF (cnames g.acts) (g.follows.take k.1) i))), (204, .agg Gs.toArray, .agg (vec g.acts.length fun i => oBools 4 g.acts.length (edgeF (cnames g.acts) (g.follows.take k.1) i)))]⟩) (fun k => g.follows.length - k.1) ⟨0, by omega⟩ (fun a w H => H.weaken ⟨rfl, rfl, rfl, rfl, rfl, trivial⟩ ⟨rfl, rfl, rfl, rfl, rfl, rfl, rfl, rfl, rfl, trivial⟩) ?_
                rintro ⟨k, hk⟩
                dsimp only
                refine nav ?_
                (refine aC_region ?_
                  <;> refine xL 100 q_move ?_
                  <;> refine xL 101 (q_fldo 1 tFl25_3_LbI) ?_
                  <;> (refine yL 102 (q_ldo 1 tNa23_LbI) fun v102 hv102 => ?_; cases hv102)
                  <;> refine xL 103 (q_len tSl23_LbI) ?_
                  <;> refine xL 104 q_lss ?_
                  <;> refine aL_end (nav ?_) <;> try dsimp only)
                first | refine cCd (fun hb104 => ?_) (fun hb104 => ?_) | refine cC (fun hb104 => ?_) (fun hb104 => ?_)
                · first
                  | exact Bool.noConfusion hb104
                  | (
                   obtain ⟨x, hx⟩ := get_some (show k < g.follows.length by omega)
                   have e1 : (g.follows.flatMap cFlw)[k * 3 + 0]? = some (pStr x.src) := flat_at cFlw_len hx (by decide)
                   have e2 : (g.follows.flatMap cFlw)[k * 3 + 1]? = some (pStr x.dst) := flat_at cFlw_len hx (by decide)
                   have hxa := (hfo x (List.mem_of_getElem? hx)).1
                   have hxb := (hfo x (List.mem_of_getElem? hx)).2
                   have ha := (ixN_of hxa).2
                   have hb := (ixN_of hxb).2
                   rw [hna] at ha hb
                   obtain ⟨ra, hra⟩ := get_some (show ixN (cnames g.acts) x.src < Hs.length by omega)
                   obtain ⟨rb, hrb⟩ := get_some (show ixN (cnames g.acts) x.src < Gs.length by omega)
                   have e3 := hs_at hra
                   have e3' := hs_at hrb
                   have e4 := fam_row (e := 4) (edgeF (cnames g.acts) (g.follows.take k)) ha
                   have e5 := vec_len g.acts.length (fun j => pBool (edgeF (cnames g.acts) (g.follows.take k) (ixN (cnames g.acts) x.src) j))
                   refine nav ?_
                   (refine aC_draw (fun i => ([] : List Nat).elem i) [1, 3] (by kernel_rfl) ?_
                     <;> refine xD 0 107 rfl (q_fldo 3 tFl86_0_LbI) ?_
                     <;> (refine yD 1 108 rfl (q_ldo 3 tNa36_LbI) fun v108 hv108 => ?_; cases hv108)
                     <;> refine xD 2 109 rfl (q_fldo 1 tFl25_3_LbI) ?_
                     <;> (refine yD 3 110 rfl (q_ldo 1 tNa23_LbI) fun v110 hv110 => ?_; cases hv110)
                     <;> refine xD 4 111 rfl q_move ?_
                     <;> refine xD 5 112 rfl (q_idxN tSl23_LbI) ?_
                     <;> refine xD 6 113 rfl (q_fld tFl68_0_LbI) ?_
                     <;> (refine yD 7 114 rfl (q_ld tNa9_LbI) fun v114 hv114 => ?_; cases hv114)
                     <;> refine xD 9 116 rfl (q_fldo 3 tFl86_0_LbI) ?_
                     <;> (refine yD 10 117 rfl (q_ldo 3 tNa36_LbI) fun v117 hv117 => ?_; cases hv117)
                     <;> refine xD 11 118 rfl (q_fldo 1 tFl25_3_LbI) ?_
                     <;> (refine yD 12 119 rfl (q_ldo 1 tNa23_LbI) fun v119 hv119 => ?_; cases hv119)
                     <;> refine xD 13 120 rfl q_move ?_
                     <;> refine xD 14 121 rfl (q_idxN tSl23_LbI) ?_
                     <;> refine xD 15 122 rfl (q_fld tFl68_1_LbI) ?_
                     <;> (refine yD 16 123 rfl (q_ld tNa9_LbI) fun v123 hv123 => ?_; cases hv123)
                     <;> (refine aD_one 8 (by kernel_rfl) ?_)
                     <;> (refine aW_call (d := 115) rfl (cA Tryz.call65 (rIndexN_e (cnames g.acts) x.src hxa)) fun v115 hv115 => ?_; cases hv115)
                     <;> (refine aD_one 17 (by kernel_rfl) ?_)
                     <;> (refine aW_call (d := 124) rfl (cA Tryz.call65 (rIndexN_e (cnames g.acts) x.dst hxb)) fun v124 hv124 => ?_; cases hv124)
                     <;> refine xE 18 10 rfl q_assign ?_
                     <;> refine xE 19 11 rfl q_assign ?_
                     <;> refine aD_end (by kernel_rfl) (nav ?_)
                     <;> try dsimp only)
                   (refine aC_region ?_
                     <;> refine xL 125 (q_fldo 3 tFl86_1_LbI) ?_
                     <;> (refine yL 126 (q_ldo 3 tNa77_LbI) fun v126 hv126 => ?_; cases hv126)
                     <;> refine xL 127 q_move ?_
                     <;> refine xL 128 (q_idxoN 201 tSl77_LbI) ?_
                     <;> (refine yL 129 (q_ldo 201 tNa78_LbI) fun v129 hv129 => ?_; cases hv129)
                     <;> refine xL 130 q_move ?_
                     <;> refine xL 131 (q_idxf 203 tSl78_LbI) ?_
                     <;> refine s_stf 203 tNa4_LbI tSz4_LbI ?_
                     <;> refine aL_end (nav ?_) <;> try dsimp only)
                   (refine aC_region ?_
                     <;> refine xL 132 (q_fldo 3 tFl86_2_LbI) ?_
                     <;> (refine yL 133 (q_ldo 3 tNa77_LbI) fun v133 hv133 => ?_; cases hv133)
                     <;> refine xL 134 q_move ?_
                     <;> refine xL 135 (q_idxoN 202 tSl77_LbI) ?_
                     <;> (refine yL 136 (q_ldo 202 tNa78_LbI) fun v136 hv136 => ?_; cases hv136)
                     <;> refine xL 137 q_move ?_
                     <;> refine xL 138 (q_idxf 204 tSl78_LbI) ?_
                     <;> refine s_stf 204 tNa4_LbI tSz4_LbI ?_
                     <;> refine aL_end (nav ?_) <;> try dsimp only)
                   (refine aC_region ?_
                     <;> refine xL 105 q_move ?_
                     <;> refine xL 106 q_add ?_
                     <;> refine xL 9 q_assign ?_
                     <;> refine aL_end (nav ?_) <;> try dsimp only)
                   rw [mat_step (e := 0) (f' := edgeF (cnames g.acts) (g.follows.take (k + 1))) fun i j _ _ => edge_step hx i j]
                   refine aN_again (
                     ⟨k + 1, by omega⟩
                     ) (by dsimp only; omega) ⟨rfl, rfl, rfl, rfl, rfl, trivial⟩ ⟨rfl, rfl, rfl, rfl, rfl, rfl, rfl, rfl, rfl, trivial⟩)
                · first
                  | exact Bool.noConfusion hb104
                  | (
                   refine nav ?_
                   (refine aC_region ?_
                     <;> refine xL 12 q_assign ?_
                     <;> refine aL_end (nav ?_) <;> try dsimp only)
                   rw [show k = g.follows.length by omega, List.take_length]
                   refine aC_loop (ι := { x : (Nat → Nat → Bool) × Bool // Grows g.acts.length (edgeF (cnames g.acts) g.follows) x.1 ∧ (x.2 = false → Closed g.acts.length (edgeF (cnames g.acts) g.follows) x.1) }) (fun k => ⟨[(1, _, _), (2, _, _), (3, _, _), (5, _, _), (12, .bool k.1.2, pBool k.1.2)], [(1, _, _), (2, _, _), (3, _, _), (38, _, _), (40, _, _), (201, _, _), (202, _, _), (203, _, _), (204, .agg Gs.toArray, .agg (vec g.acts.length fun i => oBools 4 g.acts.length (k.1.1 i)))]⟩) (fun k => cntM g.acts.length k.1.1 + (if k.1.2 then 1 else 0)) ⟨(edgeF (cnames g.acts) g.follows, true), Grows.init _ _, fun h => Bool.noConfusion h⟩ (fun a w H => H.weaken ⟨rfl, rfl, rfl, rfl, rfl, trivial⟩ ⟨rfl, rfl, rfl, rfl, rfl, rfl, rfl, rfl, rfl, trivial⟩) ?_
                   rintro ⟨⟨R0, ag0⟩, hgr, hcl⟩
                   dsimp only
                   dsimp only at hgr hcl
                   refine nav ?_
                   (refine aC_region ?_
                     <;> refine xL 139 q_move ?_
                     <;> refine aL_end (nav ?_) <;> try dsimp only)
                   first | refine cCd (fun hb139 => ?_) (fun hb139 => ?_) | refine cC (fun hb139 => ?_) (fun hb139 => ?_)
                   · first
                     | exact Bool.noConfusion hb139
                     | (
                      refine nav ?_
                      (refine aC_region ?_
                        <;> refine xL 12 q_assign ?_
                        <;> refine aL_end (nav ?_) <;> try dsimp only)
                      (refine aC_region ?_
                        <;> refine xL 13 q_assign ?_
                        <;> refine aL_end (nav ?_) <;> try dsimp only)
                      refine aC_loop (ι := { x : (Nat → Nat → Bool) × Bool × Nat // x.2.2 ≤ g.acts.length ∧ Pass g.acts.length (edgeF (cnames g.acts) g.follows) R0 x.1 x.2.1 x.2.2 0 0 }) (fun k => ⟨[(1, _, _), (2, _, _), (3, _, _), (5, _, _), (12, .bool k.1.2.1, pBool k.1.2.1), (13, .int .i64 k.1.2.2, pInt k.1.2.2)], [(1, _, _), (2, _, _), (3, _, _), (38, _, _), (40, _, _), (201, _, _), (202, _, _), (203, _, _), (204, .agg Gs.toArray, .agg (vec g.acts.length fun i => oBools 4 g.acts.length (k.1.1 i)))]⟩) (fun k => g.acts.length - k.1.2.2) ⟨(R0, false, 0), Nat.zero_le _, Pass.start hgr⟩ (fun a w H => H.weaken ⟨rfl, rfl, rfl, rfl, rfl, rfl, trivial⟩ ⟨rfl, rfl, rfl, rfl, rfl, rfl, rfl, rfl, rfl, trivial⟩) ?_
                      rintro ⟨⟨R1, ag1, a⟩, ha, hp1⟩
                      dsimp only
                      dsimp only at ha hp1
                      refine nav ?_
                      (refine aC_region ?_
                        <;> refine xL 140 q_move ?_
                        <;> refine xL 141 q_move ?_
                        <;> refine xL 142 q_lss ?_
                        <;> refine aL_end (nav ?_) <;> try dsimp only)
                      first | refine cCd (fun hb142 => ?_) (fun hb142 => ?_) | refine cC (fun hb142 => ?_) (fun hb142 => ?_)
                      · first
                        | exact Bool.noConfusion hb142
                        | (
                         refine nav ?_
                         (refine aC_region ?_
                           <;> refine xL 14 q_assign ?_
                           <;> refine aL_end (nav ?_) <;> try dsimp only)
                         refine aC_loop (ι := { x : (Nat → Nat → Bool) × Bool × Nat // x.2.2 ≤ g.acts.length ∧ Pass g.acts.length (edgeF (cnames g.acts) g.follows) R0 x.1 x.2.1 a x.2.2 0 }) (fun k => ⟨[(1, _, _), (2, _, _), (3, _, _), (5, _, _), (13, _, _), (12, .bool k.1.2.1, pBool k.1.2.1), (14, .int .i64 k.1.2.2, pInt k.1.2.2)], [(1, _, _), (2, _, _), (3, _, _), (38, _, _), (40, _, _), (201, _, _), (202, _, _), (203, _, _), (204, .agg Gs.toArray, .agg (vec g.acts.length fun i => oBools 4 g.acts.length (k.1.1 i)))]⟩) (fun k => g.acts.length - k.1.2.2) ⟨(R1, ag1, 0), Nat.zero_le _, hp1⟩ (fun a w H => H.weaken ⟨rfl, rfl, rfl, rfl, rfl, rfl, rfl, trivial⟩ ⟨rfl, rfl, rfl, rfl, rfl, rfl, rfl, rfl, rfl, trivial⟩) ?_
                         rintro ⟨⟨R2, ag2, b⟩, hb, hp2⟩
                         dsimp only
                         dsimp only at hb hp2
                         refine nav ?_
                         (refine aC_region ?_
                           <;> refine xL 145 q_move ?_
                           <;> refine xL 146 q_move ?_
                           <;> refine xL 147 q_lss ?_
                           <;> refine aL_end (nav ?_) <;> try dsimp only)
                         first | refine cCd (fun hb147 => ?_) (fun hb147 => ?_) | refine cC (fun hb147 => ?_) (fun hb147 => ?_)
                         · first
                           | exact Bool.noConfusion hb147
                           | (
                            refine nav ?_
                            (refine aC_region ?_
                              <;> refine xL 15 q_assign ?_
                              <;> refine aL_end (nav ?_) <;> try dsimp only)
                            refine aC_loop (ι := { x : (Nat → Nat → Bool) × Bool × Nat // x.2.2 ≤ g.acts.length ∧ Pass g.acts.length (edgeF (cnames g.acts) g.follows) R0 x.1 x.2.1 a b x.2.2 }) (fun k => ⟨[(1, _, _), (2, _, _), (3, _, _), (5, _, _), (13, _, _), (14, _, _), (12, .bool k.1.2.1, pBool k.1.2.1), (15, .int .i64 k.1.2.2, pInt k.1.2.2)], [(1, _, _), (2, _, _), (3, _, _), (38, _, _), (40, _, _), (201, _, _), (202, _, _), (203, _, _), (204, .agg Gs.toArray, .agg (vec g.acts.length fun i => oBools 4 g.acts.length (k.1.1 i)))]⟩) (fun k => g.acts.length - k.1.2.2) ⟨(R2, ag2, 0), Nat.zero_le _, hp2⟩ (fun a w H => H.weaken ⟨rfl, rfl, rfl, rfl, rfl, rfl, rfl, rfl, trivial⟩ ⟨rfl, rfl, rfl, rfl, rfl, rfl, rfl, rfl, rfl, trivial⟩) ?_
                            rintro ⟨⟨R, ag, c⟩, hc, hp⟩
                            dsimp only
                            dsimp only at hc hp
                            refine nav ?_
                            (refine aC_region ?_
                              <;> refine xL 150 q_move ?_
                              <;> refine xL 151 q_move ?_
                              <;> refine xL 152 q_lss ?_
                              <;> refine aL_end (nav ?_) <;> try dsimp only)
                            first | refine cCd (fun hb152 => ?_) (fun hb152 => ?_) | refine cC (fun hb152 => ?_) (fun hb152 => ?_)
                            · first
                              | exact Bool.noConfusion hb152
                              | (
                               have han : a < g.acts.length := by omega
                               have hbn : b < g.acts.length := by omega
                               have hcn : c < g.acts.length := by omega
                               obtain ⟨ra, hra⟩ := get_some (show a < Gs.length by omega)
                               obtain ⟨rb, hrb⟩ := get_some (show b < Gs.length by omega)
                               have e1 := hs_at hra
                               have e2 := hs_at hrb
                               have e3 := fam_row (e := 4) R han
                               have e4 := fam_row (e := 4) R hbn
                               have e5 := vec_at1 (fun j => pBool (R a j)) hbn
                               have e6 := vec_at1 (fun j => pBool (R b j)) hcn
                               have e7 := vec_at1 (fun j => pBool (R a j)) hcn
                               have e8 := vec_len g.acts.length (fun j => pBool (R a j))
                               refine nav ?_
                               (refine aC_region ?_
                                 <;> refine xL 155 (q_fldo 3 tFl86_2_LbI) ?_
                                 <;> (refine yL 156 (q_ldo 3 tNa77_LbI) fun v156 hv156 => ?_; cases hv156)
                                 <;> refine xL 157 q_move ?_
                                 <;> refine xL 158 (q_idxoN 202 tSl77_LbI) ?_
                                 <;> (refine yL 159 (q_ldo 202 tNa78_LbI) fun v159 hv159 => ?_; cases hv159)
                                 <;> refine xL 160 q_move ?_
                                 <;> refine xL 161 (q_idxf 204 tSl78_LbI) ?_
                                 <;> (refine yL 162 (q_ldf 204 tNa4_LbI) fun v162 hv162 => ?_; cases hv162)
                                 <;> refine xL 163 q_move ?_
                                 <;> (refine bL 163 (fun hb163 => ?_) (fun hb163 => ?_) <;> (first | refine kL 164 ?_ | refine xL 164 (q_fldo 3 tFl86_2_LbI) ?_))
                                 <;> (first | refine kL 165 ?_ | (refine yL 165 (q_ldo 3 tNa77_LbI) fun v165 hv165 => ?_; cases hv165))
                                 <;> (first | refine kL 166 ?_ | refine xL 166 q_move ?_)
                                 <;> (first | refine kL 167 ?_ | refine xL 167 (q_idxoN 202 tSl77_LbI) ?_)
                                 <;> (first | refine kL 168 ?_ | (refine yL 168 (q_ldo 202 tNa78_LbI) fun v168 hv168 => ?_; cases hv168))
                                 <;> (first | refine kL 169 ?_ | refine xL 169 q_move ?_)
                                 <;> (first | refine kL 170 ?_ | refine xL 170 (q_idxf 204 tSl78_LbI) ?_)
                                 <;> (first | refine kL 171 ?_ | (refine yL 171 (q_ldf 204 tNa4_LbI) fun v171 hv171 => ?_; cases hv171))
                                 <;> refine xL 172 q_pick ?_
                                 <;> refine xL 173 q_move ?_
                                 <;> (first | refine kL 174 ?_ | (refine bL 173 (fun hb173 => ?_) (fun hb173 => ?_) <;> (first | refine kL 174 ?_ | refine xL 174 (q_fldo 3 tFl86_2_LbI) ?_)))
                                 <;> (first | refine kL 175 ?_ | (refine yL 175 (q_ldo 3 tNa77_LbI) fun v175 hv175 => ?_; cases hv175))
                                 <;> (first | refine kL 176 ?_ | refine xL 176 q_move ?_)
                                 <;> (first | refine kL 177 ?_ | refine xL 177 (q_idxoN 202 tSl77_LbI) ?_)
                                 <;> (first | refine kL 178 ?_ | (refine yL 178 (q_ldo 202 tNa78_LbI) fun v178 hv178 => ?_; cases hv178))
                                 <;> (first | refine kL 179 ?_ | refine xL 179 q_move ?_)
                                 <;> (first | refine kL 180 ?_ | refine xL 180 (q_idxf 204 tSl78_LbI) ?_)
                                 <;> (first | refine kL 181 ?_ | (refine yL 181 (q_ldf 204 tNa4_LbI) fun v181 hv181 => ?_; cases hv181))
                                 <;> (first | refine kL 182 ?_ | refine xL 182 q_not ?_)
                                 <;> refine xL 183 q_pick ?_
                                 <;> refine aL_end (nav ?_) <;> try dsimp only) <;> (
                                first | refine cCd (fun hb183 => ?_) (fun hb183 => ?_) | refine cC (fun hb183 => ?_) (fun hb183 => ?_)
                                · first
                                  | exact Bool.noConfusion hb183
                                  | (
                                   refine nav ?_
                                   (refine aC_region ?_
                                     <;> refine xL 184 (q_fldo 3 tFl86_2_LbI) ?_
                                     <;> (refine yL 185 (q_ldo 3 tNa77_LbI) fun v185 hv185 => ?_; cases hv185)
                                     <;> refine xL 186 q_move ?_
                                     <;> refine xL 187 (q_idxoN 202 tSl77_LbI) ?_
                                     <;> (refine yL 188 (q_ldo 202 tNa78_LbI) fun v188 hv188 => ?_; cases hv188)
                                     <;> refine xL 189 q_move ?_
                                     <;> refine xL 190 (q_idxf 204 tSl78_LbI) ?_
                                     <;> refine s_stf 204 tNa4_LbI tSz4_LbI ?_
                                     <;> refine aL_end (nav ?_) <;> try dsimp only)
                                   (refine aC_region ?_
                                     <;> refine xL 12 q_assign ?_
                                     <;> refine aL_end (nav ?_) <;> try dsimp only)
                                   (refine aC_region ?_
                                     <;> refine xL 153 q_move ?_
                                     <;> refine xL 154 q_add ?_
                                     <;> refine xL 15 q_assign ?_
                                     <;> refine aL_end (nav ?_) <;> try dsimp only)
                                   try rw [fam_set]
                                   first
                                     | (exact aN_again (
                                         ⟨(setM R a c, true, c + 1), by show c + 1 ≤ g.acts.length; omega, hp.mark han hbn hcn hb163 hb173 (by simpa using hb183)⟩
                                         ) (by show g.acts.length - (c + 1) < g.acts.length - c; omega) ⟨rfl, rfl, rfl, rfl, rfl, rfl, rfl, rfl, trivial⟩ ⟨rfl, rfl, rfl, rfl, rfl, rfl, rfl, rfl, rfl, trivial⟩)
                                     | (exact aN_again (
                                         ⟨(R, ag, c + 1), by show c + 1 ≤ g.acts.length; omega, hp.skip (fun g1 g2 => by
                                           first
                                             | (simpa using hb183)
                                             | (rw [hb163] at g1; exact absurd g1 (by decide))
                                             | (rw [hb173] at g2; exact absurd g2 (by decide)))⟩
                                         ) (by show g.acts.length - (c + 1) < g.acts.length - c; omega) ⟨rfl, rfl, rfl, rfl, rfl, rfl, rfl, rfl, trivial⟩ ⟨rfl, rfl, rfl, rfl, rfl, rfl, rfl, rfl, rfl, trivial⟩))
                                · first
                                  | exact Bool.noConfusion hb183
                                  | (
                                   refine nav ?_
                                   (refine aC_region ?_
                                     <;> refine xL 153 q_move ?_
                                     <;> refine xL 154 q_add ?_
                                     <;> refine xL 15 q_assign ?_
                                     <;> refine aL_end (nav ?_) <;> try dsimp only)
                                   try rw [fam_set]
                                   first
                                     | (exact aN_again (
                                         ⟨(setM R a c, true, c + 1), by show c + 1 ≤ g.acts.length; omega, hp.mark han hbn hcn hb163 hb173 (by simpa using hb183)⟩
                                         ) (by show g.acts.length - (c + 1) < g.acts.length - c; omega) ⟨rfl, rfl, rfl, rfl, rfl, rfl, rfl, rfl, trivial⟩ ⟨rfl, rfl, rfl, rfl, rfl, rfl, rfl, rfl, rfl, trivial⟩)
                                     | (exact aN_again (
                                         ⟨(R, ag, c + 1), by show c + 1 ≤ g.acts.length; omega, hp.skip (fun g1 g2 => by
                                           first
                                             | (simpa using hb183)
                                             | (rw [hb163] at g1; exact absurd g1 (by decide))
                                             | (rw [hb173] at g2; exact absurd g2 (by decide)))⟩
                                         ) (by show g.acts.length - (c + 1) < g.acts.length - c; omega) ⟨rfl, rfl, rfl, rfl, rfl, rfl, rfl, rfl, trivial⟩ ⟨rfl, rfl, rfl, rfl, rfl, rfl, rfl, rfl, rfl, trivial⟩))))
                            · first
                              | exact Bool.noConfusion hb152
                              | (
                               refine nav ?_
                               (refine aC_region ?_
                                 <;> refine xL 148 q_move ?_
                                 <;> refine xL 149 q_add ?_
                                 <;> refine xL 14 q_assign ?_
                                 <;> refine aL_end (nav ?_) <;> try dsimp only)
                               refine aN_again (
                                 ⟨(R, ag, b + 1), by show b + 1 ≤ g.acts.length; omega, hp.row (by omega)⟩
                                 ) (by show g.acts.length - (b + 1) < g.acts.length - b; omega) ⟨rfl, rfl, rfl, rfl, rfl, rfl, rfl, trivial⟩ ⟨rfl, rfl, rfl, rfl, rfl, rfl, rfl, rfl, rfl, trivial⟩))
                         · first
                           | exact Bool.noConfusion hb147
                           | (
                            refine nav ?_
                            (refine aC_region ?_
                              <;> refine xL 143 q_move ?_
                              <;> refine xL 144 q_add ?_
                              <;> refine xL 13 q_assign ?_
                              <;> refine aL_end (nav ?_) <;> try dsimp only)
                            refine aN_again (
                              ⟨(R2, ag2, a + 1), by show a + 1 ≤ g.acts.length; omega, hp2.plane (by omega)⟩
                              ) (by show g.acts.length - (a + 1) < g.acts.length - a; omega) ⟨rfl, rfl, rfl, rfl, rfl, rfl, trivial⟩ ⟨rfl, rfl, rfl, rfl, rfl, rfl, rfl, rfl, rfl, trivial⟩))
                      · first
                        | exact Bool.noConfusion hb142
                        | (
                         refine nav ?_
                         refine aN_again (
                           ⟨(R1, ag1), hp1.gr, fun hg => by subst hg; exact hp1.closed (by omega)⟩
                           ) (by show cntM g.acts.length R1 + (if ag1 then 1 else 0) < cntM g.acts.length R0 + (if ag0 then 1 else 0); rw [show ag0 = true from hb139]; exact hp1.less) ⟨rfl, rfl, rfl, rfl, rfl, trivial⟩ ⟨rfl, rfl, rfl, rfl, rfl, rfl, rfl, rfl, rfl, trivial⟩))
                   · first
                     | exact Bool.noConfusion hb139
                     | (
                      refine nav ?_
                      refine aC_ent (gather (l := 201) (l' := 203) rfl rfl rfl rfl) fun _ => ?_
                      refine aC_ent (gather (l := 202) (l' := 204) rfl rfl rfl rfl) fun _ => ?_
                      refine aC_ent (freezeCell (l := 3) (l' := 201) (j := 1) rfl rfl rfl rfl) fun _ => ?_
                      refine aC_ent (freezeCell (l := 3) (l' := 202) (j := 2) rfl rfl rfl rfl) fun _ => ?_
                      refine aC_ent (freezeCell (l := 3) (l' := 38) (j := 3) rfl rfl rfl rfl) fun _ => ?_
                      refine aC_ent (freezeCell (l := 3) (l' := 40) (j := 4) rfl rfl rfl rfl) fun _ => ?_
                      (refine aC_region ?_
                        <;> (refine yL 191 (q_ldao 3 tAgg86_LbI) fun v191 hv191 => ?_; cases hv191)
                        <;> refine s_sta 2 tAgg86_LbI ?_
                        <;> refine aL_end (nav ?_) <;> try dsimp only)
                      refine ret_cell (k := 5) 2 (by kernel_rfl) (Tryz.results48) rfl rfl (Nat.le_of_ble_eq_true rfl) (by decide) rfl ?_
                      have hR := grows_reach hgr (hcl hb139)
                      unfold cView
                      rw [← hR]
                      show PV.agg [pStrs (cnames g.acts), share (oMat 78 4 _ _), share (oMat 78 4 _ R0), share (oBools 4 _ _), share (oBools 4 _ _)] = _
                      rw [share_mat, share_mat, share_bools, share_bools]))))))
end Go.Proofs.YtoanjgpdepaciaaGreat

namespace Go.Proofs.YtoanjgpdepaciaaGreat
open Go.RowKit Go.Cb Go.En
set_option linter.all false
set_option maxRecDepth 100000

theorem tFl86_0_LbJ : FldT Tryz.prog 86 0 0 = true := by kernel_rfl
theorem tFl86_1_LbJ : FldT Tryz.prog 86 1 1 = true := by kernel_rfl
theorem tFl86_3_LbJ : FldT Tryz.prog 86 3 3 = true := by kernel_rfl
theorem tFl86_4_LbJ : FldT Tryz.prog 86 4 4 = true := by kernel_rfl
theorem tNa36_LbJ : NoAgg Tryz.prog 36 = true := by kernel_rfl
theorem tNa4_LbJ : NoAgg Tryz.prog 4 = true := by kernel_rfl
theorem tNa77_LbJ : NoAgg Tryz.prog 77 = true := by kernel_rfl
theorem tNa78_LbJ : NoAgg Tryz.prog 78 = true := by kernel_rfl
theorem tSl36_LbJ : SlT Tryz.prog 36 9 1 = true := by kernel_rfl
theorem tSl77_LbJ : SlT Tryz.prog 77 78 1 = true := by kernel_rfl
theorem tSl78_LbJ : SlT Tryz.prog 78 4 1 = true := by kernel_rfl
theorem loops_f1 {n : Nat} {E : Nat → Nat → Bool} {S F : Nat → Bool} {a b : Nat} (h : E a b = true) (h2 : F a = false) : loopsB n E S F a b = false := by unfold loopsB endsB; rw [h, h2]; simp
theorem loops_f2 {n : Nat} {E : Nat → Nat → Bool} {S F : Nat → Bool} {a b i : Nat} (hi : i < n) (h : E a b = true) (h2 : F i = true) (h3 : E i b = false) : loopsB n E S F a b = false := by
  unfold loopsB endsB; rw [h, allB_stop hi (by rw [h2, h3]; rfl)]; simp
theorem loops_f3 {n : Nat} {E : Nat → Nat → Bool} {S F : Nat → Bool} {a b : Nat} (h : E b a = true) (h2 : S a = false) : loopsB n E S F a b = false := by unfold loopsB begsB; rw [h, h2]; simp
theorem loops_f4 {n : Nat} {E : Nat → Nat → Bool} {S F : Nat → Bool} {a b i : Nat} (hi : i < n) (h : E b a = true) (h2 : S i = true) (h3 : E b i = false) : loopsB n E S F a b = false := by
  unfold loopsB begsB; rw [h, allB_stop hi (by rw [h2, h3]; rfl)]; simp
def goodL (E : Nat → Nat → Bool) (S F : Nat → Bool) (a b j : Nat) : Prop := (E a b = true → F a = true ∧ (F j = true → E j b = true)) ∧ (E b a = true → S a = true ∧ (S j = true → E b j = true))
theorem loops_t {n : Nat} {E : Nat → Nat → Bool} {S F : Nat → Bool} {a b : Nat} (ha : a < n) (h : ∀ j, j < n → goodL E S F a b j) : loopsB n E S F a b = true := by
  unfold loopsB endsB begsB
  have h1 := h a ha
  rw [Bool.and_eq_true]
  constructor
  · cases he : E a b with
    | false => rfl
    | true =>
      rw [(h1.1 he).1, allB_end fun j hj => ?_]; · rfl
      have := ((h j hj).1 he).2
      cases hf : F j with
      | false => rfl
      | true => rw [this hf]; rfl
  · cases he : E b a with
    | false => rfl
    | true =>
      rw [(h1.2 he).1, allB_end fun j hj => ?_]; · rfl
      have := ((h j hj).2 he).2
      cases hf : S j with
      | false => rfl
      | true => rw [this hf]; rfl
set_option maxHeartbeats 1000000 in
theorem rLoops_e (l : List ByteArray) (n : Nat) (E R : Nat → Nat → Bool) (S F : Nat → Bool) (a b : Nat) (hl : l.length = n) (hn : n ≤ 1000) (ha : a < n) (hb : b < n) : AF Tryz.prog 107 [.agg (cView l n E R S F), pInt a, pInt b] (· = pBool (loopsB n E S F a b)) := by
  have ea := vec_at1 (fun i => pBools n (E i)) ha
  have eb := vec_at1 (fun i => pBools n (E i)) hb
  have eab := vec_at1 (fun j => pBool (E a j)) hb
  have eba := vec_at1 (fun j => pBool (E b j)) ha
  have fa := vec_at1 (fun j => pBool (F j)) ha
  have sa := vec_at1 (fun j => pBool (S j)) ha
  refine AF.of_body 83 Tryz.func107 rfl Tryz.ntmps107 (Nat.le_of_ble_eq_true rfl) ?_
  intro w0 M0 vs hl hv
  obtain ⟨v0, v1, v2, rfl⟩ := len3 hl
  obtain rfl := hv 1 _ _ rfl rfl
  obtain rfl := hv 2 _ _ rfl rfl
  clear hl hv
  dsimp only [cView]
  refine nav ?_
  (refine aC_region ?_
    <;> refine s_boxa 3 5 fun h3 => ?_
    <;> refine xL 6 q_assign ?_
    <;> refine aL_end (nav ?_) <;> try dsimp only)
  (refine aC_region ?_
    <;> refine xL 7 q_assign ?_
    <;> refine aL_end (nav ?_) <;> try dsimp only)
  refine aC_loop (ι := { k : Nat // k ≤ n ∧ ∀ j, j < k → goodL E S F a b j }) (fun k => ⟨[(1, _, _), (2, _, _), (3, _, _), (7, .int .i64 k.1, pInt k.1)], [(3, _, _)]⟩) (fun k => n - k.1) ⟨0, by omega, by omega⟩ (fun a w H => H.weaken ⟨rfl, rfl, rfl, rfl, trivial⟩ ⟨rfl, trivial⟩) ?_
  rintro ⟨k, hk, hp⟩
  dsimp only
  refine nav ?_
  (refine aC_region ?_
    <;> refine xL 8 q_move ?_
    <;> refine xL 9 (q_fldo 3 tFl86_0_LbJ) ?_
    <;> (refine yL 10 (q_ldo 3 tNa36_LbJ) fun v10 hv10 => ?_; cases hv10)
    <;> refine xL 11 (q_len tSl36_LbJ) ?_
    <;> refine xL 12 q_lss ?_
    <;> refine aL_end (nav ?_) <;> try dsimp only)
  first | refine cCd (fun hb12 => ?_) (fun hb12 => ?_) | refine cC (fun hb12 => ?_) (fun hb12 => ?_)
  · first
    | exact Bool.noConfusion hb12
    | (
     have hlt : k < n := by omega
     have fk := vec_at1 (fun j => pBool (F j)) hlt
     have sk := vec_at1 (fun j => pBool (S j)) hlt
     have ek := vec_at1 (fun i => pBools n (E i)) hlt
     have ekb := vec_at1 (fun j => pBool (E k j)) hb
     have ebk := vec_at1 (fun j => pBool (E b j)) hlt
     refine nav ?_
     (refine aC_region ?_
       <;> refine xL 15 (q_fldo 3 tFl86_1_LbJ) ?_
       <;> (refine yL 16 (q_ldo 3 tNa77_LbJ) fun v16 hv16 => ?_; cases hv16)
       <;> refine xL 17 q_move ?_
       <;> refine xL 18 (q_idxN tSl77_LbJ) ?_
       <;> (refine yL 19 (q_ld tNa78_LbJ) fun v19 hv19 => ?_; cases hv19)
       <;> refine xL 20 q_move ?_
       <;> refine xL 21 (q_idxN tSl78_LbJ) ?_
       <;> (refine yL 22 (q_ld tNa4_LbJ) fun v22 hv22 => ?_; cases hv22)
       <;> refine xL 23 q_move ?_
       <;> (refine bL 23 (fun hb23 => ?_) (fun hb23 => ?_) <;> (first | refine kL 24 ?_ | refine xL 24 (q_fldo 3 tFl86_4_LbJ) ?_))
       <;> (first | refine kL 25 ?_ | (refine yL 25 (q_ldo 3 tNa78_LbJ) fun v25 hv25 => ?_; cases hv25))
       <;> (first | refine kL 26 ?_ | refine xL 26 q_move ?_)
       <;> (first | refine kL 27 ?_ | refine xL 27 (q_idxN tSl78_LbJ) ?_)
       <;> (first | refine kL 28 ?_ | (refine yL 28 (q_ld tNa4_LbJ) fun v28 hv28 => ?_; cases hv28))
       <;> (first | refine kL 29 ?_ | refine xL 29 q_not ?_)
       <;> (first | refine kL 30 ?_ | refine xL 30 q_move ?_)
       <;> (first | refine kL 31 ?_ | (refine bL 30 (fun hb30 => ?_) (fun hb30 => ?_) <;> (first | refine kL 31 ?_ | refine xL 31 (q_fldo 3 tFl86_4_LbJ) ?_)))
       <;> (first | refine kL 32 ?_ | (refine yL 32 (q_ldo 3 tNa78_LbJ) fun v32 hv32 => ?_; cases hv32))
       <;> (first | refine kL 33 ?_ | refine xL 33 q_move ?_)
       <;> (first | refine kL 34 ?_ | refine xL 34 (q_idxN tSl78_LbJ) ?_)
       <;> (first | refine kL 35 ?_ | (refine yL 35 (q_ld tNa4_LbJ) fun v35 hv35 => ?_; cases hv35))
       <;> (first | refine kL 36 ?_ | refine xL 36 q_move ?_)
       <;> (first | refine kL 37 ?_ | (refine bL 36 (fun hb36 => ?_) (fun hb36 => ?_) <;> (first | refine kL 37 ?_ | refine xL 37 (q_fldo 3 tFl86_1_LbJ) ?_)))
       <;> (first | refine kL 38 ?_ | (refine yL 38 (q_ldo 3 tNa77_LbJ) fun v38 hv38 => ?_; cases hv38))
       <;> (first | refine kL 39 ?_ | refine xL 39 q_move ?_)
       <;> (first | refine kL 40 ?_ | refine xL 40 (q_idxN tSl77_LbJ) ?_)
       <;> (first | refine kL 41 ?_ | (refine yL 41 (q_ld tNa78_LbJ) fun v41 hv41 => ?_; cases hv41))
       <;> (first | refine kL 42 ?_ | refine xL 42 q_move ?_)
       <;> (first | refine kL 43 ?_ | refine xL 43 (q_idxN tSl78_LbJ) ?_)
       <;> (first | refine kL 44 ?_ | (refine yL 44 (q_ld tNa4_LbJ) fun v44 hv44 => ?_; cases hv44))
       <;> (first | refine kL 45 ?_ | refine xL 45 q_not ?_)
       <;> (first | refine kL 46 ?_ | refine xL 46 q_pick ?_)
       <;> (first | refine kL 47 ?_ | refine xL 47 q_pick ?_)
       <;> refine xL 48 q_pick ?_
       <;> refine aL_end (nav ?_) <;> try dsimp only) <;> (
      first | refine cCd (fun hb48 => ?_) (fun hb48 => ?_) | refine cC (fun hb48 => ?_) (fun hb48 => ?_)
      · first
        | exact Bool.noConfusion hb48
        | (
         refine nav ?_
         (refine aC_region ?_
           <;> refine xL 6 q_assign ?_
           <;> refine aL_end (nav ?_) <;> try dsimp only)
         refine ret_shr (Tryz.results107) rfl ?_
         first
           | rw [loops_f1 hb23 (by simpa using hb30)]
           | rw [loops_f2 hlt hb23 hb36 (by simpa using hb48)])
      · first
        | exact Bool.noConfusion hb48
        | (
         refine nav ?_
         (refine aC_region ?_
           <;> refine xL 49 (q_fldo 3 tFl86_1_LbJ) ?_
           <;> (refine yL 50 (q_ldo 3 tNa77_LbJ) fun v50 hv50 => ?_; cases hv50)
           <;> refine xL 51 q_move ?_
           <;> refine xL 52 (q_idxN tSl77_LbJ) ?_
           <;> (refine yL 53 (q_ld tNa78_LbJ) fun v53 hv53 => ?_; cases hv53)
           <;> refine xL 54 q_move ?_
           <;> refine xL 55 (q_idxN tSl78_LbJ) ?_
           <;> (refine yL 56 (q_ld tNa4_LbJ) fun v56 hv56 => ?_; cases hv56)
           <;> refine xL 57 q_move ?_
           <;> (refine bL 57 (fun hb57 => ?_) (fun hb57 => ?_) <;> (first | refine kL 58 ?_ | refine xL 58 (q_fldo 3 tFl86_3_LbJ) ?_))
           <;> (first | refine kL 59 ?_ | (refine yL 59 (q_ldo 3 tNa78_LbJ) fun v59 hv59 => ?_; cases hv59))
           <;> (first | refine kL 60 ?_ | refine xL 60 q_move ?_)
           <;> (first | refine kL 61 ?_ | refine xL 61 (q_idxN tSl78_LbJ) ?_)
           <;> (first | refine kL 62 ?_ | (refine yL 62 (q_ld tNa4_LbJ) fun v62 hv62 => ?_; cases hv62))
           <;> (first | refine kL 63 ?_ | refine xL 63 q_not ?_)
           <;> (first | refine kL 64 ?_ | refine xL 64 q_move ?_)
           <;> (first | refine kL 65 ?_ | (refine bL 64 (fun hb64 => ?_) (fun hb64 => ?_) <;> (first | refine kL 65 ?_ | refine xL 65 (q_fldo 3 tFl86_3_LbJ) ?_)))
           <;> (first | refine kL 66 ?_ | (refine yL 66 (q_ldo 3 tNa78_LbJ) fun v66 hv66 => ?_; cases hv66))
           <;> (first | refine kL 67 ?_ | refine xL 67 q_move ?_)
           <;> (first | refine kL 68 ?_ | refine xL 68 (q_idxN tSl78_LbJ) ?_)
           <;> (first | refine kL 69 ?_ | (refine yL 69 (q_ld tNa4_LbJ) fun v69 hv69 => ?_; cases hv69))
           <;> (first | refine kL 70 ?_ | refine xL 70 q_move ?_)
           <;> (first | refine kL 71 ?_ | (refine bL 70 (fun hb70 => ?_) (fun hb70 => ?_) <;> (first | refine kL 71 ?_ | refine xL 71 (q_fldo 3 tFl86_1_LbJ) ?_)))
           <;> (first | refine kL 72 ?_ | (refine yL 72 (q_ldo 3 tNa77_LbJ) fun v72 hv72 => ?_; cases hv72))
           <;> (first | refine kL 73 ?_ | refine xL 73 q_move ?_)
           <;> (first | refine kL 74 ?_ | refine xL 74 (q_idxN tSl77_LbJ) ?_)
           <;> (first | refine kL 75 ?_ | (refine yL 75 (q_ld tNa78_LbJ) fun v75 hv75 => ?_; cases hv75))
           <;> (first | refine kL 76 ?_ | refine xL 76 q_move ?_)
           <;> (first | refine kL 77 ?_ | refine xL 77 (q_idxN tSl78_LbJ) ?_)
           <;> (first | refine kL 78 ?_ | (refine yL 78 (q_ld tNa4_LbJ) fun v78 hv78 => ?_; cases hv78))
           <;> (first | refine kL 79 ?_ | refine xL 79 q_not ?_)
           <;> (first | refine kL 80 ?_ | refine xL 80 q_pick ?_)
           <;> (first | refine kL 81 ?_ | refine xL 81 q_pick ?_)
           <;> refine xL 82 q_pick ?_
           <;> refine aL_end (nav ?_) <;> try dsimp only) <;> (
          have hg1 : E a b = true → F a = true ∧ (F k = true → E k b = true) := fun g1 => by
            first
              | (rw [hb23] at g1; exact absurd g1 (by decide))
              | exact ⟨by simpa using hb30, fun g2 => by
                  first
                    | (rw [hb36] at g2; exact absurd g2 (by decide))
                    | (simpa using hb48)⟩
          first | refine cCd (fun hb82 => ?_) (fun hb82 => ?_) | refine cC (fun hb82 => ?_) (fun hb82 => ?_)
          · first
            | exact Bool.noConfusion hb82
            | (
             refine nav ?_
             (refine aC_region ?_
               <;> refine xL 6 q_assign ?_
               <;> refine aL_end (nav ?_) <;> try dsimp only)
             refine ret_shr (Tryz.results107) rfl ?_
             first
               | rw [loops_f3 hb57 (by simpa using hb64)]
               | rw [loops_f4 hlt hb57 hb70 (by simpa using hb82)])
          · first
            | exact Bool.noConfusion hb82
            | (
             refine nav ?_
             (refine aC_region ?_
               <;> refine xL 13 q_move ?_
               <;> refine xL 14 q_add ?_
               <;> refine xL 7 q_assign ?_
               <;> refine aL_end (nav ?_) <;> try dsimp only)
             refine aN_again (
               ⟨k + 1, by omega, fun j hj => by
                 by_cases e : j = k
                 · subst e
                   refine ⟨hg1, fun g1 => ?_⟩
                   first
                     | (rw [hb57] at g1; exact absurd g1 (by decide))
                     | exact ⟨by simpa using hb64, fun g2 => by
                         first
                           | (rw [hb70] at g2; exact absurd g2 (by decide))
                           | (simpa using hb82)⟩
                 · exact hp j (by omega)⟩
               ) (by dsimp only; omega) ⟨rfl, rfl, rfl, rfl, trivial⟩ ⟨rfl, trivial⟩)))))
  · first
    | exact Bool.noConfusion hb12
    | (
     refine nav ?_
     (refine aC_region ?_
       <;> refine xL 6 q_assign ?_
       <;> refine aL_end (nav ?_) <;> try dsimp only)
     refine ret_shr (Tryz.results107) rfl ?_
     rw [loops_t ha fun j hj => hp j (by omega)])
end Go.Proofs.YtoanjgpdepaciaaGreat

namespace Go.Proofs.YtoanjgpdepaciaaGreat
open Go.RowKit Go.Cb Go.En
set_option linter.all false
set_option maxRecDepth 100000

theorem tEl136_LbK : ElT Tryz.prog 136 22 1 24 (.slice none 0 0) := ⟨Tryz.underlying136, by kernel_rfl, rfl, by decide⟩
theorem tEl22_LbK : ElT Tryz.prog 22 62 2 24 (.agg #[(.string ByteArray.empty), (.int .i64 0)]) := ⟨Tryz.underlying22, by kernel_rfl, rfl, by decide⟩
theorem tFl25_0_LbK : FldT Tryz.prog 25 0 0 = true := by kernel_rfl
theorem tFl25_1_LbK : FldT Tryz.prog 25 1 1 = true := by kernel_rfl
theorem tFl25_2_LbK : FldT Tryz.prog 25 2 2 = true := by kernel_rfl
theorem tFl25_3_LbK : FldT Tryz.prog 25 3 3 = true := by kernel_rfl
theorem tFl62_0_LbK : FldT Tryz.prog 62 0 0 = true := by kernel_rfl
theorem tFl68_0_LbK : FldT Tryz.prog 68 0 0 = true := by kernel_rfl
theorem tFl68_1_LbK : FldT Tryz.prog 68 1 1 = true := by kernel_rfl
theorem tNa22_LbK : NoAgg Tryz.prog 22 = true := by kernel_rfl
theorem tNa23_LbK : NoAgg Tryz.prog 23 = true := by kernel_rfl
theorem tNa9_LbK : NoAgg Tryz.prog 9 = true := by kernel_rfl
theorem tSl136_LbK : SlT Tryz.prog 136 22 1 = true := by kernel_rfl
theorem tSl22_LbK : SlT Tryz.prog 22 62 2 = true := by kernel_rfl
theorem tSl23_LbK : SlT Tryz.prog 23 68 3 = true := by kernel_rfl

theorem growCount_e (n : Nat) (hn : n ≤ 1000000) : AF Tryz.prog 99 [.val (.slice none 0 0), pInt n] (· = .own 62 2 0 []) := by
  refine AF.of_body 27 Tryz.func99 rfl Tryz.ntmps99 (Nat.le_of_ble_eq_true rfl) ?_
  intro w0 M0 vs hl hv
  obtain ⟨v0, v1, rfl⟩ := len2 hl
  obtain rfl := hv 0 _ _ rfl rfl
  obtain rfl := hv 1 _ _ rfl rfl
  clear hl hv
  refine nav ?_
  (refine aC_region ?_
    <;> refine xL 4 q_assign ?_
    <;> refine aL_end (nav ?_) <;> try dsimp only)
  (refine aC_region ?_
    <;> refine xL 5 q_move ?_
    <;> refine xL 6 q_lss ?_
    <;> refine aL_end (nav ?_) <;> try dsimp only)
  first | refine cCd (fun hb6 => ?_) (fun hb6 => ?_) | refine cC (fun hb6 => ?_) (fun hb6 => ?_)
  · exfalso; omega
  · refine nav ?_
    (refine aC_region ?_
      <;> refine xL 8 q_move ?_
      <;> refine xL 9 q_move ?_
      <;> refine xL 10 (q_capnil tSl22_LbK) ?_
      <;> refine xL 11 q_move ?_
      <;> refine xL 12 (q_lennil tSl22_LbK) ?_
      <;> refine xL 13 q_sub ?_
      <;> refine xL 14 q_sub ?_
      <;> refine xL 1 q_assign ?_
      <;> refine aL_end (nav ?_) <;> try dsimp only)
    (refine aC_region ?_
      <;> refine xL 15 q_move ?_
      <;> refine xL 16 q_gtr ?_
      <;> refine aL_end (nav ?_) <;> try dsimp only)
    first | refine cCd (fun hb16 => ?_) (fun hb16 => ?_) | refine cC (fun hb16 => ?_) (fun hb16 => ?_)
    · first
      | exact Bool.noConfusion hb16
      | (
       have h0 : 0 < n := by omega
       rw [show (n : Int) - (0 - 0) = (n : Int) by omega]
       refine nav ?_
       (refine aC_region ?_
         <;> refine xL 17 q_move ?_
         <;> refine xL 18 q_move ?_
         <;> refine xL 19 (q_capnil tSl22_LbK) ?_
         <;> refine xL 20 (q_slcnil tSl22_LbK) ?_
         <;> refine xL 21 q_move ?_
         <;> refine s_appz 22 tEl22_LbK Tryz.underlying3 (fun h22 ho22 => ?_)
         <;> refine xL 23 q_move ?_
         <;> refine xL 24 (q_lennil tSl22_LbK) ?_
         <;> refine xL 25 (y_slc_own (i := 0) (j := 0) 22 tSl22_LbK rfl rfl rfl rfl rfl (Nat.le_refl _) (Nat.zero_le _)) ?_
         <;> refine xL 0 q_assign ?_
         <;> refine aL_end (nav ?_) <;> try dsimp only)
       (refine aC_region ?_
         <;> refine xL 26 q_move ?_
         <;> refine xL 4 q_assign ?_
         <;> refine aL_end (nav ?_) <;> try dsimp only)
       first
         | (refine aR_ent (trim (l := 22) 0 rfl (Nat.zero_le _)) fun _ => ?_
            refine ret_own 22 (Tryz.results99) rfl rfl ?_
            rw [Nat.zero_mul, List.take_zero])
         | (refine aR_ent (nilOwn 200 62 2 rfl) fun _ => ?_
            exact ret_own 200 (Tryz.results99) rfl rfl rfl))
    · first
      | exact Bool.noConfusion hb16
      | (
       refine nav ?_
       (refine aC_region ?_
         <;> refine xL 26 q_move ?_
         <;> refine xL 4 q_assign ?_
         <;> refine aL_end (nav ?_) <;> try dsimp only)
       first
         | (refine aR_ent (trim (l := 22) 0 rfl (Nat.zero_le _)) fun _ => ?_
            refine ret_own 22 (Tryz.results99) rfl rfl ?_
            rw [Nat.zero_mul, List.take_zero])
         | (refine aR_ent (nilOwn 200 62 2 rfl) fun _ => ?_
            exact ret_own 200 (Tryz.results99) rfl rfl rfl))
def pCntss (l : List (List Cnt)) : PV := .sl l.length (l.map pCnts)
theorem cnts_one (l : List Cnt) : (l.flatMap cCnt).all one = true := by
  rw [List.all_eq_true]
  intro p hp
  obtain ⟨x, _, hx⟩ := List.mem_flatMap.1 hp
  simp only [cCnt, List.mem_cons, List.not_mem_nil, or_false] at hx
  rcases hx with rfl | rfl <;> rfl
theorem flatC_take_le (l : List (List Cnt)) (k : Nat) : ((l.take k).flatten).length ≤ l.flatten.length := by
  have : l.flatten = (l.take k).flatten ++ (l.drop k).flatten := by rw [← List.flatten_append, List.take_append_drop]
  rw [this, List.length_append]
  omega
theorem flatC_snoc {l : List (List Cnt)} {k : Nat} {p : List Cnt} (h : l[k]? = some p) : (l.take (k + 1)).flatten = (l.take k).flatten ++ p := by
  rw [take_snoc h]; simp
theorem concatCount_e (l : List (List Cnt)) (hl : l.flatten.length ≤ 1000000) : AF Tryz.prog 37 [pCntss l] (· = .own 62 2 l.flatten.length (l.flatten.flatMap cCnt)) := by
  refine AF.of_body 36 Tryz.func37 rfl Tryz.ntmps37 (Nat.le_of_ble_eq_true rfl) ?_
  intro w0 M0 vs hl hv
  obtain ⟨v0, rfl⟩ := len1 hl
  clear hl hv
  refine aC_slen 0 rfl fun hlen => ?_
  refine nav ?_
  (refine aC_region ?_
    <;> refine xL 2 q_assign ?_
    <;> refine aL_end (nav ?_) <;> try dsimp only)
  (refine aC_region ?_
    <;> refine xL 3 q_assign ?_
    <;> refine aL_end (nav ?_) <;> try dsimp only)
  (refine aC_region ?_
    <;> refine xL 9 q_move ?_
    <;> refine xL 10 (q_len tSl136_LbK) ?_
    <;> refine xL 11 q_move ?_
    <;> refine aL_end (nav ?_) <;> try dsimp only)
  refine aC_loop (ι := { k : Nat // k ≤ l.length }) (fun k => ⟨[(0, _, _), (9, _, _), (10, _, _), (3, .int .i64 ((l.take k.1).flatten.length : Nat), pInt ((l.take k.1).flatten.length : Nat)), (11, .int .i64 k.1, pInt k.1)], []⟩) (fun k => l.length - k.1) ⟨0, by omega⟩ (fun a w H => H.weaken ⟨rfl, rfl, rfl, rfl, rfl, trivial⟩ trivial) ?_
  rintro ⟨k, hk⟩
  dsimp only
  refine nav ?_
  (refine aC_region ?_
    <;> refine xL 12 q_lss ?_
    <;> refine aL_end (nav ?_) <;> try dsimp only)
  first | refine cCd (fun hb12 => ?_) (fun hb12 => ?_) | refine cC (fun hb12 => ?_) (fun hb12 => ?_)
  · first
    | exact Bool.noConfusion hb12
    | (
     obtain ⟨x, hx⟩ := get_some (show k < l.length by omega)
     have e1 := map_at (f := pCnts) hx
     have hle := flatC_take_le l (k + 1)
     rw [flatC_snoc hx, List.length_append] at hle
     refine nav ?_
     (refine aC_region ?_
       <;> refine xL 13 (q_idxN tSl136_LbK) ?_
       <;> (refine yL 14 (q_ld tNa22_LbK) fun v14 hv14 => ?_; cases hv14)
       <;> refine xL 5 q_assign ?_
       <;> refine aL_end (nav ?_) <;> try dsimp only)
     (refine aC_region ?_
       <;> refine xL 15 q_move ?_
       <;> refine xL 16 q_move ?_
       <;> refine xL 17 (q_len tSl22_LbK) ?_
       <;> refine xL 18 q_add ?_
       <;> refine xL 3 q_assign ?_
       <;> refine aL_end (nav ?_) <;> try dsimp only)
     (refine aC_region ?_
       <;> refine xL 19 q_move ?_
       <;> refine xL 20 q_lss ?_
       <;> refine aL_end (nav ?_) <;> try dsimp only)
     first | refine cCd (fun hb20 => ?_) (fun hb20 => ?_) | refine cC (fun hb20 => ?_) (fun hb20 => ?_)
     · exfalso; omega
     · refine nav ?_
       (refine aC_region ?_
         <;> refine xL 22 q_add ?_
         <;> refine xL 11 q_move ?_
         <;> refine aL_end (nav ?_) <;> try dsimp only)
       rw [show (((l.take k).flatten.length : Nat) : Int) + (x.length : Int) = (((l.take (k + 1)).flatten.length : Nat) : Int) by rw [flatC_snoc hx, List.length_append]; omega]
       refine aN_again (
         ⟨k + 1, by omega⟩
         ) (by dsimp only; omega) ⟨rfl, rfl, rfl, rfl, rfl, trivial⟩ trivial)
  · first
    | exact Bool.noConfusion hb12
    | (
     refine nav ?_
     rw [show k = l.length by omega, List.take_length]
     (refine aC_region ?_
       <;> refine xL 23 q_move ?_
       <;> refine cO 24 (cA Tryz.call99 (growCount_e l.flatten.length (by omega))) fun v24 ho24 => ?_
       <;> refine xL 6 q_assign ?_
       <;> refine aL_end (nav ?_) <;> try dsimp only)
     (refine aC_region ?_
       <;> refine xL 25 q_move ?_
       <;> refine xL 26 (q_len tSl136_LbK) ?_
       <;> refine xL 27 q_move ?_
       <;> refine aL_end (nav ?_) <;> try dsimp only)
     refine aC_ent (relabel (l := 24) 200 rfl rfl) fun _ => ?_
     refine aC_loop (ι := { x : Nat × Value // x.1 ≤ l.length }) (fun k => ⟨[(25, _, _), (26, _, _), (6, k.1.2, .val k.1.2), (27, .int .i64 k.1.1, pInt k.1.1)], [(200, k.1.2, .own 62 2 (l.take k.1.1).flatten.length ((l.take k.1.1).flatten.flatMap cCnt))]⟩) (fun k => l.length - k.1.1) ⟨(0, v24), Nat.zero_le _⟩ (fun a w H => H.weaken ⟨rfl, rfl, rfl, rfl, trivial⟩ ⟨rfl, trivial⟩) ?_
     rintro ⟨⟨k, h66⟩, hk2⟩
     dsimp only
     dsimp only at hk2
     refine nav ?_
     (refine aC_region ?_
       <;> refine xL 28 q_lss ?_
       <;> refine aL_end (nav ?_) <;> try dsimp only)
     first | refine cCd (fun hb28 => ?_) (fun hb28 => ?_) | refine cC (fun hb28 => ?_) (fun hb28 => ?_)
     · first
       | exact Bool.noConfusion hb28
       | (
        obtain ⟨x, hx⟩ := get_some (show k < l.length by omega)
        have e1 := map_at (f := pCnts) hx
        have hle := flatC_take_le l (k + 1)
        rw [flatC_snoc hx, List.length_append] at hle
        have e2 := flat_len cCnt_len x
        have e3 := cnts_one x
        refine nav ?_
        (refine aC_region ?_
          <;> refine xL 29 (q_idxN tSl136_LbK) ?_
          <;> (refine yL 30 (q_ld tNa22_LbK) fun v30 hv30 => ?_; cases hv30)
          <;> refine xL 8 q_assign ?_
          <;> refine aL_end (nav ?_) <;> try dsimp only)
        (refine aC_region ?_
          <;> refine xL 31 q_move ?_
          <;> refine xL 32 q_move ?_
          <;> refine s_apps 200 33 tEl22_LbK fun h33 ho33 => ?_
          <;> refine xL 6 q_assign ?_
          <;> refine aL_end (nav ?_) <;> try dsimp only)
        (refine aC_region ?_
          <;> refine xL 34 q_add ?_
          <;> refine xL 27 q_move ?_
          <;> refine aL_end (nav ?_) <;> try dsimp only)
        refine aN_ent (relabel (l := 33) 200 rfl rfl) fun _ => ?_
        rw [show (l.take k).flatten.flatMap cCnt ++ x.flatMap cCnt = (l.take (k + 1)).flatten.flatMap cCnt by rw [flatC_snoc hx, List.flatMap_append], show (l.take k).flatten.length + x.length = (l.take (k + 1)).flatten.length by rw [flatC_snoc hx, List.length_append]]
        refine aN_again (
          ⟨(k + 1, h33), by show k + 1 ≤ l.length; omega⟩
          ) (by show l.length - (k + 1) < l.length - k; omega) ⟨rfl, rfl, rfl, rfl, trivial⟩ ⟨rfl, trivial⟩)
     · first
       | exact Bool.noConfusion hb28
       | (
        refine nav ?_
        (refine aC_region ?_
          <;> refine xL 35 q_move ?_
          <;> refine xL 2 q_assign ?_
          <;> refine aL_end (nav ?_) <;> try dsimp only)
        refine ret_own 200 (Tryz.results37) rfl rfl ?_
        rw [show k = l.length by omega, List.take_length]))
def longC (c : Cnt) : Bool := decide ((60 : Int) < (c.name.size : Int))
def longF (f : Flw) : Bool := decide ((60 : Int) < (f.src.size : Int)) || decide ((60 : Int) < (f.dst.size : Int))
def plainB (g : Dfg) : Bool := decide (g.acts.length ≤ 10) && decide (g.starts.length ≤ 12) && decide (g.ends.length ≤ 12) && decide (g.follows.length ≤ 110) && !([g.acts, g.starts, g.ends].flatten.any longC) && !(g.follows.any longF)
theorem share_cnts (e n : Nat) (l : List Cnt) (hn : n = l.length) : share (.own e 2 n (l.flatMap cCnt)) = pCnts l := by
  subst hn
  rw [share, shares_eq, List.map_flatMap]; rfl
theorem plain361_e (c : Cnt) : AF Tryz.prog 35 [.agg (cCnt c)] (· = pBool (longC c)) := by
  refine AF.of_body 7 Tryz.func35 rfl Tryz.ntmps35 (Nat.le_of_ble_eq_true rfl) ?_
  intro w0 M0 vs hl hv
  obtain ⟨v0, rfl⟩ := len1 hl
  clear hl hv
  refine nav ?_
  (refine aC_region ?_
    <;> refine s_boxa 1 2 fun h1 => ?_
    <;> refine xL 2 q_assign ?_
    <;> refine aL_end (nav ?_) <;> try dsimp only)
  (refine aC_region ?_
    <;> refine xL 3 (q_fldo 1 tFl62_0_LbK) ?_
    <;> (refine yL 4 (q_ldo 1 tNa9_LbK) fun v4 hv4 => ?_; cases hv4)
    <;> refine xL 5 (q_slen Tryz.underlying9) ?_
    <;> refine xL 6 q_gtr ?_
    <;> refine xL 2 q_assign ?_
    <;> refine aL_end (nav ?_) <;> try dsimp only)
  exact ret_shr Tryz.results35 rfl rfl
theorem plain362_e (f : Flw) : AF Tryz.prog 39 [.agg (cFlw f)] (· = pBool (longF f)) := by
  refine AF.of_body 13 Tryz.func39 rfl Tryz.ntmps39 (Nat.le_of_ble_eq_true rfl) ?_
  intro w0 M0 vs hl hv
  obtain ⟨v0, rfl⟩ := len1 hl
  clear hl hv
  refine nav ?_
  (refine aC_region ?_
    <;> refine s_boxa 1 3 fun h1 => ?_
    <;> refine xL 2 q_assign ?_
    <;> refine aL_end (nav ?_) <;> try dsimp only)
  (refine aC_region ?_
    <;> refine xL 3 (q_fldo 1 tFl68_0_LbK) ?_
    <;> (refine yL 4 (q_ldo 1 tNa9_LbK) fun v4 hv4 => ?_; cases hv4)
    <;> refine xL 5 (q_slen Tryz.underlying9) ?_
    <;> refine xL 6 q_gtr ?_
    <;> refine xL 7 q_move ?_
    <;> (refine bLd 7 (fun hb7 => ?_) (fun hb7 => ?_) <;> (first | refine kL 8 ?_ | refine xL 8 (q_fldo 1 tFl68_1_LbK) ?_))
    <;> (first | refine kL 9 ?_ | (refine yL 9 (q_ldo 1 tNa9_LbK) fun v9 hv9 => ?_; cases hv9))
    <;> (first | refine kL 10 ?_ | refine xL 10 (q_slen Tryz.underlying9) ?_)
    <;> (first | refine kL 11 ?_ | refine xL 11 q_gtr ?_)
    <;> refine xL 12 q_pick ?_
    <;> refine xL 2 q_assign ?_
    <;> refine aL_end (nav ?_) <;> try dsimp only) <;> (
   refine ret_shr (Tryz.results39) rfl ?_
   show pBool _ = pBool _
   unfold longF
   first
     | (rw [decide_eq_true hb7]; rfl)
     | (rw [decide_eq_false hb7]; rfl))
theorem plain36_e (g : Dfg) : AF Tryz.prog 8 [pDfg g] (· = pBool (plainB g)) := by
  refine AF.of_body 45 Tryz.func8 rfl Tryz.ntmps8 (Nat.le_of_ble_eq_true rfl) ?_
  intro w0 M0 vs hl hv
  obtain ⟨v0, rfl⟩ := len1 hl
  clear hl hv
  refine nav ?_
  (refine aC_region ?_
    <;> refine s_boxa 1 4 fun h1 => ?_
    <;> refine xL 2 q_assign ?_
    <;> refine aL_end (nav ?_) <;> try dsimp only)
  (refine aC_region ?_
    <;> refine xL 3 q_assign ?_
    <;> refine aL_end (nav ?_) <;> try dsimp only)
  (refine aC_region ?_
    <;> refine xL 4 (q_fldo 1 tFl25_0_LbK) ?_
    <;> (refine yL 5 (q_ldo 1 tNa22_LbK) fun v5 hv5 => ?_; cases hv5)
    <;> refine xL 6 (q_len tSl22_LbK) ?_
    <;> refine xL 7 q_leq ?_
    <;> refine xL 8 q_move ?_
    <;> (refine bLd 8 (fun hb8 => ?_) (fun hb8 => ?_) <;> (first | refine kL 9 ?_ | refine xL 9 (q_fldo 1 tFl25_1_LbK) ?_))
    <;> (first | refine kL 10 ?_ | (refine yL 10 (q_ldo 1 tNa22_LbK) fun v10 hv10 => ?_; cases hv10))
    <;> (first | refine kL 11 ?_ | refine xL 11 (q_len tSl22_LbK) ?_)
    <;> (first | refine kL 12 ?_ | refine xL 12 q_leq ?_)
    <;> refine xL 13 q_pick ?_
    <;> refine xL 14 q_move ?_
    <;> (first | refine kL 15 ?_ | (refine bLd 14 (fun hb14 => ?_) (fun hb14 => ?_) <;> (first | refine kL 15 ?_ | refine xL 15 (q_fldo 1 tFl25_2_LbK) ?_)))
    <;> (first | refine kL 16 ?_ | (refine yL 16 (q_ldo 1 tNa22_LbK) fun v16 hv16 => ?_; cases hv16))
    <;> (first | refine kL 17 ?_ | refine xL 17 (q_len tSl22_LbK) ?_)
    <;> (first | refine kL 18 ?_ | refine xL 18 q_leq ?_)
    <;> refine xL 19 q_pick ?_
    <;> refine xL 20 q_move ?_
    <;> (first | refine kL 21 ?_ | (refine bLd 20 (fun hb20 => ?_) (fun hb20 => ?_) <;> (first | refine kL 21 ?_ | refine xL 21 (q_fldo 1 tFl25_3_LbK) ?_)))
    <;> (first | refine kL 22 ?_ | (refine yL 22 (q_ldo 1 tNa23_LbK) fun v22 hv22 => ?_; cases hv22))
    <;> (first | refine kL 23 ?_ | refine xL 23 (q_len tSl23_LbK) ?_)
    <;> (first | refine kL 24 ?_ | refine xL 24 q_leq ?_)
    <;> refine xL 25 q_pick ?_
    <;> refine xL 26 q_move ?_
    <;> (first | refine kL 27 ?_ | (refine bLd 26 (fun hb26 => ?_) (fun hb26 => ?_) <;> (first | refine kL 27 ?_ | refine xL 27 (q_fldo 1 tFl25_0_LbK) ?_)))
    <;> (first | refine kL 28 ?_ | (refine yL 28 (q_ldo 1 tNa22_LbK) fun v28 hv28 => ?_; cases hv28))
    <;> (first | refine kL 29 ?_ | refine xL 29 (q_fldo 1 tFl25_1_LbK) ?_)
    <;> (first | refine kL 30 ?_ | (refine yL 30 (q_ldo 1 tNa22_LbK) fun v30 hv30 => ?_; cases hv30))
    <;> (first | refine kL 31 ?_ | refine xL 31 (q_fldo 1 tFl25_2_LbK) ?_)
    <;> (first | refine kL 32 ?_ | (refine yL 32 (q_ldo 1 tNa22_LbK) fun v32 hv32 => ?_; cases hv32))
    <;> (first | refine kL 33 ?_ | refine s_litn (xs := [_, _, _]) 33 tEl136_LbK fun h33 ho33 => ?_)
    <;> (first | refine kL 34 ?_ | (refine aL_ent (En.freeze (l := 33) (t := 33) rfl rfl) fun _ => ?_; refine cO 34 (cA Tryz.call37 (concatCount_e [g.acts, g.starts, g.ends] (by simp only [List.flatten_cons, List.flatten_nil, List.length_append, List.length_nil]; omega))) fun v34 ho34 => ?_; refine aL_ent (En.freeze (l := 34) (t := 34) rfl rfl) fun _ => ?_; rw [share_cnts _ _ _ rfl]))
    <;> (first | refine kL 35 ?_ | refine xL 35 q_move ?_)
    <;> (first | refine kL 36 ?_ | (refine cS 36 (cA Tryz.call36 (containsFuncCount_e 35 [] longC [g.acts, g.starts, g.ends].flatten (Tryz.call35) (fun c _ => plain361_e c))) fun v36 hv36 => ?_; cases hv36))
    <;> (first | refine kL 37 ?_ | refine xL 37 q_not ?_)
    <;> refine xL 38 q_pick ?_
    <;> refine xL 39 q_move ?_
    <;> (first | refine kL 40 ?_ | (refine bL 39 (fun hb39 => ?_) (fun hb39 => ?_) <;> (first | refine kL 40 ?_ | refine xL 40 (q_fldo 1 tFl25_3_LbK) ?_)))
    <;> (first | refine kL 41 ?_ | (refine yL 41 (q_ldo 1 tNa23_LbK) fun v41 hv41 => ?_; cases hv41))
    <;> (first | refine kL 42 ?_ | (refine cS 42 (cA Tryz.call38 (containsFuncFollow_e 39 [] longF g.follows (Tryz.call39) (fun f _ => plain362_e f))) fun v42 hv42 => ?_; cases hv42))
    <;> (first | refine kL 43 ?_ | refine xL 43 q_not ?_)
    <;> refine xL 44 q_pick ?_
    <;> refine xL 2 q_assign ?_
    <;> refine aL_end (nav ?_) <;> try dsimp only) <;> (
   refine ret_shr (Tryz.results8) rfl (bool_val ?_)
   unfold plainB
   simp only [Bool.and_eq_true, decide_eq_true_eq, Bool.not_eq_true', Bool.false_eq_true, false_iff, true_iff, not_and]
   first
     | exact ⟨fun h => ⟨⟨⟨⟨⟨by omega, by omega⟩, by omega⟩, by omega⟩, by simpa using hb39⟩, h⟩, fun h => h.2⟩
     | (rintro ⟨⟨⟨⟨h1, h2⟩, h3⟩, h4⟩, h5⟩ _
        first
          | omega
          | (rw [h5] at hb39; exact Bool.noConfusion hb39)))
end Go.Proofs.YtoanjgpdepaciaaGreat
