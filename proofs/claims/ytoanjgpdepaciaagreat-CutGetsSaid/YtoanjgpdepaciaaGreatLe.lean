/-
  Walks: all, classes, made (package cut).
  Walks: cut.Seq.
-/
import Derived.Test.YtoanjgpdepaciaaGreatLd
import Derived.Test.YtoanjgpdepaciaaGreatLp
import Derived.Test.YtoanjgpdepaciaaGreatEngb
import Derived.Test.YtoanjgpdepaciaaGreatMShelfB
namespace Go.Proofs.YtoanjgpdepaciaaGreat
open Go.RowKit Go.Cb Go.En
set_option linter.all false
set_option maxRecDepth 100000

theorem tAgg25_LbM : AggT Tryz.prog 25 4 = true := by kernel_rfl
theorem tAgg28_LbM : AggT Tryz.prog 28 2 = true := by kernel_rfl
theorem tEl26_LbM : ElT Tryz.prog 26 36 1 24 (.slice none 0 0) := ⟨Tryz.underlying26, by kernel_rfl, rfl, by decide⟩
theorem tEl36_LbM : ElT Tryz.prog 36 9 1 16 (.string ByteArray.empty) := ⟨Tryz.underlying36, by kernel_rfl, rfl, by decide⟩
theorem tEl81_LbM : ElT Tryz.prog 81 3 1 8 (.int .i64 0) := ⟨Tryz.underlying81, by kernel_rfl, rfl, by decide⟩
theorem tEl92_LbM : ElT Tryz.prog 92 81 1 24 (.slice none 0 0) := ⟨Tryz.underlying92, by kernel_rfl, rfl, by decide⟩
theorem tFl28_1_LbM : FldT Tryz.prog 28 1 1 = true := by kernel_rfl
theorem tFl80_0_LbM : FldT Tryz.prog 80 0 0 = true := by kernel_rfl
theorem tFl80_1_LbM : FldT Tryz.prog 80 1 1 = true := by kernel_rfl
theorem tMp142_LbM : MpT Tryz.prog 142 3 4 (.int .i64) (.bool false) := ⟨Tryz.underlying142, Tryz.underlying3, .inr ⟨_, rfl⟩, by show ZeroT _ _ _; unfold ZeroT; kernel_rfl⟩
theorem tNa26_LbM : NoAgg Tryz.prog 26 = true := by kernel_rfl
theorem tNa36_LbM : NoAgg Tryz.prog 36 = true := by kernel_rfl
theorem tNa3_LbM : NoAgg Tryz.prog 3 = true := by kernel_rfl
theorem tNa4_LbM : NoAgg Tryz.prog 4 = true := by kernel_rfl
theorem tNa71_LbM : NoAgg Tryz.prog 71 = true := by kernel_rfl
theorem tNa77_LbM : NoAgg Tryz.prog 77 = true := by kernel_rfl
theorem tNa78_LbM : NoAgg Tryz.prog 78 = true := by kernel_rfl
theorem tNa81_LbM : NoAgg Tryz.prog 81 = true := by kernel_rfl
theorem tNa9_LbM : NoAgg Tryz.prog 9 = true := by kernel_rfl
theorem tSl36_LbM : SlT Tryz.prog 36 9 1 = true := by kernel_rfl
theorem tSl77_LbM : SlT Tryz.prog 77 78 1 = true := by kernel_rfl
theorem tSl78_LbM : SlT Tryz.prog 78 4 1 = true := by kernel_rfl
theorem tSl81_LbM : SlT Tryz.prog 81 3 1 = true := by kernel_rfl
theorem tSl92_LbM : SlT Tryz.prog 92 81 1 = true := by kernel_rfl
theorem tSt28_LbM : stInfo Tryz.prog 28 = some ((.agg #[(.int .i64 0), (.slice none 0 0)]), ([0, 1] : List Nat).map fun o => (o, 1)) := by kernel_rfl
theorem tSz26_LbM : (Tryz.prog.info? 26).map (·.size) = some 1 := by kernel_rfl
theorem tSz71_LbM : (Tryz.prog.info? 71).map (·.size) = some 1 := by kernel_rfl
theorem tZr28_LbM : ZeroT Tryz.prog 28 (.agg #[(.int .i64 0), (.slice none 0 0)]) := by unfold ZeroT; kernel_rfl
theorem tZr71_LbM : ZeroT Tryz.prog 71 (.pointer none) := by unfold ZeroT; kernel_rfl

def upTo (n : Nat) : List Int := vec n fun i => (i : Int)
theorem cAll_e (l : List ByteArray) (rest : List PV) (hl : l.length ≤ 1000000) : AF Tryz.prog 54 [.sptr 0 (pStrs l :: rest)] (· = pInts (upTo l.length)) := by
  refine AF.of_body 19 Tryz.func54 rfl Tryz.ntmps54 (Nat.le_of_ble_eq_true rfl) ?_
  intro w0 M0 vs hl hv
  obtain ⟨v0, rfl⟩ := len1 hl
  clear hl hv
  refine nav ?_
  (refine aC_region ?_
    <;> refine xL 2 q_assign ?_
    <;> refine aL_end (nav ?_) <;> try dsimp only)
  (refine aC_region ?_
    <;> refine xL 3 q_assign ?_
    <;> refine aL_end (nav ?_) <;> try dsimp only)
  (refine aC_region ?_
    <;> refine xL 5 q_move ?_
    <;> refine xL 6 q_nilp ?_
    <;> refine xL 7 (q_fld tFl80_0_LbM) ?_
    <;> (refine yL 8 (q_ld tNa36_LbM) fun v8 hv8 => ?_; cases hv8)
    <;> refine xL 9 (q_len tSl36_LbM) ?_
    <;> refine xL 10 q_move ?_
    <;> refine aL_end (nav ?_) <;> try dsimp only)
  refine aC_ent (nilOwn 200 3 1 rfl) fun _ => ?_
  refine aC_loop (ι := { x : Nat × Value // x.1 ≤ l.length }) (fun k => ⟨[(9, _, _), (3, k.1.2, .val k.1.2), (10, .int .i64 k.1.1, pInt k.1.1)], [(200, k.1.2, .own 3 1 k.1.1 (vec k.1.1 fun i => pInt (i : Nat)))]⟩) (fun k => l.length - k.1.1) ⟨(0, .slice none 0 0), Nat.zero_le _⟩ (fun a w H => H.weaken ⟨rfl, rfl, rfl, trivial⟩ ⟨rfl, trivial⟩) ?_
  rintro ⟨⟨k, h33⟩, hk⟩
  dsimp only
  dsimp only at hk
  refine nav ?_
  (refine aC_region ?_
    <;> refine xL 11 q_lss ?_
    <;> refine aL_end (nav ?_) <;> try dsimp only)
  first | refine cCd (fun hb11 => ?_) (fun hb11 => ?_) | refine cC (fun hb11 => ?_) (fun hb11 => ?_)
  · first
    | exact Bool.noConfusion hb11
    | (
     have e1 := vec_len k (fun i => pInt (i : Nat))
     refine nav ?_
     (refine aC_region ?_
       <;> refine xL 12 q_move ?_
       <;> refine xL 4 q_assign ?_
       <;> refine aL_end (nav ?_) <;> try dsimp only)
     (refine aC_region ?_
       <;> refine xL 13 q_move ?_
       <;> refine xL 14 q_move ?_
       <;> refine s_lit1 (kk := 1) 15 tEl81_LbM fun h15 ho15 => ?_
       <;> refine s_app 200 15 16 tEl81_LbM fun h16 ho16 => ?_
       <;> refine xL 3 q_assign ?_
       <;> refine aL_end (nav ?_) <;> try dsimp only)
     (refine aC_region ?_
       <;> refine xL 17 q_add ?_
       <;> refine xL 10 q_move ?_
       <;> refine aL_end (nav ?_) <;> try dsimp only)
     refine aN_ent (relabel (l := 16) 200 rfl rfl) fun _ => ?_
     rw [show vec k (fun i => pInt (i : Nat)) ++ [pInt (k : Int)] = vec (k + 1) fun i => pInt (i : Nat) by rw [vec_snoc]]
     refine aN_again (
       ⟨(k + 1, h16), by show k + 1 ≤ l.length; omega⟩
       ) (by show l.length - (k + 1) < l.length - k; omega) ⟨rfl, rfl, rfl, trivial⟩ ⟨rfl, trivial⟩)
  · first
    | exact Bool.noConfusion hb11
    | (
     refine nav ?_
     (refine aC_region ?_
       <;> refine xL 18 q_move ?_
       <;> refine xL 2 q_assign ?_
       <;> refine aL_end (nav ?_) <;> try dsimp only)
     refine aR_ent (En.freeze (l := 200) (t := 2) rfl rfl) fun _ => ?_
     refine ret_shr (Tryz.results54) rfl ?_
     rw [show k = l.length by omega, share, shares_eq, vec_map]
     unfold pInts upTo
     rw [vec_len, vec_map]; rfl)
def tkv (tk : List Int) : List (Value × Value) := ikv (tk.map fun x => (x, Value.bool true))
theorem aget_tk (tk : List Int) (x : Int) : aget (tk.map fun x => (x, Value.bool true)) x = if x ∈ tk then some (.bool true) else none := by
  induction tk with
  | nil => rfl
  | cons y l ih =>
    rw [List.map_cons, aget]
    by_cases h : x = y
    · rw [if_pos h, if_pos (by simp [h])]
    · rw [if_neg h, ih]
      by_cases h2 : x ∈ l
      · rw [if_pos h2, if_pos (by simp [h2])]
      · rw [if_neg h2, if_neg (by simp [h, h2])]
theorem aput_tk {tk : List Int} {x : Int} (h : x ∉ tk) : aput (tk.map fun x => (x, Value.bool true)) x (.bool true) = (tk ++ [x]).map fun x => (x, Value.bool true) := by
  induction tk with
  | nil => rfl
  | cons y l ih =>
    rw [List.map_cons, aput, if_neg (fun e => h (by simp [show x = y from e])), ih (fun hh => h (by simp [hh]))]
    rfl
theorem tkv_get (tk : List Int) (x : Int) : (mget (tkv tk) (.int .i64 x)).getD (.bool false) = .bool (decide (x ∈ tk)) := by
  unfold tkv
  rw [mget_ikv, aget_tk]
  by_cases h : x ∈ tk
  · rw [if_pos h, decide_eq_true h]; rfl
  · rw [if_neg h, decide_eq_false h]; rfl
theorem tkv_put {tk : List Int} {x : Int} (h : x ∉ tk) : mput (tkv tk) (.int .i64 x) (.bool true) = tkv (tk ++ [x]) := by
  unfold tkv
  rw [mput_ikv, aput_tk h]
theorem share_intl (e n : Nat) (l : List Int) (hn : n = l.length) : share (.own e 1 n (l.map pInt)) = pInts l := by
  subst hn
  rw [share, shares_eq, List.map_map]; rfl
theorem lsnoc_at {α : Type} {l : List α} {x : α} {k : Nat} (h : k = l.length) : (l ++ [x])[k]? = some x := by subst h; simp
theorem lsnoc_set {α : Type} {l : List α} {x y : α} {k : Nat} (h : k = l.length) : (l ++ [x]).set k y = l ++ [y] := by subst h; simp
theorem sortInt_c : SortI Tryz.prog 71 := fun blk cap zs w hH hb hn => Tryz.slices_Sort_int blk 0 cap zs w hH hb hn
set_option maxHeartbeats 2000000 in
theorem cClasses_e (f : Nat) (caps : List PV) (r : Int → Int → Bool) (l : List Int) (hasc : l.Pairwise (· < ·)) (hl : l.length ≤ 100000) (hcl : ∀ args w, (callFunc f args).run Tryz.prog w = .ok (.enter f args) w) (hf : ∀ x ∈ l, ∀ y ∈ l, AF Tryz.prog f ([pInt x, pInt y] ++ caps) (· = pBool (r x y))) : AF Tryz.prog 53 [pInts l, .fn f caps] (fun p => ∃ cs, Comps l r cs ∧ p = .own 81 1 cs.length (cs.map pInts)) := by
  refine AF.of_body 76 Tryz.func53 rfl Tryz.ntmps53 (Nat.le_of_ble_eq_true rfl) ?_
  intro w0 M0 vs hl hv
  obtain ⟨v0, v1, rfl⟩ := len2 hl
  clear hl hv
  refine nav ?_
  (refine aC_region ?_
    <;> refine xL 4 q_assign ?_
    <;> refine aL_end (nav ?_) <;> try dsimp only)
  (refine aC_region ?_
    <;> refine xL 5 q_assign ?_
    <;> refine aL_end (nav ?_) <;> try dsimp only)
  (refine aC_region ?_
    <;> refine s_mkmap 13 fun h13 ho13 => ?_
    <;> refine xL 6 q_assign ?_
    <;> refine aL_end (nav ?_) <;> try dsimp only)
  (refine aC_region ?_
    <;> refine xL 14 q_move ?_
    <;> refine xL 15 (q_len tSl81_LbM) ?_
    <;> refine xL 16 q_move ?_
    <;> refine aL_end (nav ?_) <;> try dsimp only)
  refine aC_ent (nilOwn 200 81 1 rfl) fun _ => ?_
  refine aC_loop (ι := { x : Nat × Value × List (List Int) × List Int // x.1 ≤ l.length ∧ Part l r x.2.2.1 x.1 ∧ ∀ z, z ∈ x.2.2.2 ↔ z ∈ x.2.2.1.flatten }) (fun k => ⟨[(0, _, _), (1, _, _), (6, _, _), (14, _, _), (15, _, _), (5, k.1.2.1, .val k.1.2.1), (16, .int .i64 k.1.1, pInt k.1.1)], [(13, h13, .omap (tkv k.1.2.2.2)), (200, k.1.2.1, .own 81 1 k.1.2.2.1.length (k.1.2.2.1.map pInts))]⟩) (fun k => l.length - k.1.1) ⟨(0, .slice none 0 0, [], []), Nat.zero_le _, Part.start l r, fun z => by simp⟩ (fun a w H => H.weaken ⟨rfl, rfl, rfl, rfl, rfl, rfl, rfl, trivial⟩ ⟨rfl, rfl, trivial⟩) ?_
  rintro ⟨⟨k, h55, cs, tk⟩, hk, hpt, htk⟩
  dsimp only
  dsimp only at hk hpt htk
  refine nav ?_
  (refine aC_region ?_
    <;> refine xL 17 q_lss ?_
    <;> refine aL_end (nav ?_) <;> try dsimp only)
  first | refine cCd (fun hb17 => ?_) (fun hb17 => ?_) | refine cC (fun hb17 => ?_) (fun hb17 => ?_)
  · first
    | exact Bool.noConfusion hb17
    | (
     obtain ⟨xf, hx⟩ := get_some (show k < l.length by omega)
     have e1 := map_at (f := pInt) hx
     have e2 := tkv_get tk xf
     have hxl := List.mem_of_getElem? hx
     have hcsl : cs.length ≤ l.length := by
       refine Nat.le_trans ?_ (nodup_len hpt.nd hpt.sub)
       have : ∀ m : List (List Int), (∀ c ∈ m, c ≠ []) → m.length ≤ m.flatten.length := fun m => by
         induction m with
         | nil => intro _; simp
         | cons c m ih =>
           intro h
           have h1 := ih fun d hd => h d (by simp [hd])
           have h2 := List.length_pos_iff.2 (h c (by simp))
           rw [List.flatten_cons, List.length_append, List.length_cons]; omega
       exact this cs hpt.ne
     refine nav ?_
     (refine aC_region ?_
       <;> refine xL 18 (q_idxN tSl81_LbM) ?_
       <;> (refine yL 19 (q_ld tNa3_LbM) fun v19 hv19 => ?_; cases hv19)
       <;> refine xL 8 q_assign ?_
       <;> refine aL_end (nav ?_) <;> try dsimp only)
     (refine aC_region ?_
       <;> refine xL 20 q_move ?_
       <;> refine xL 21 q_move ?_
       <;> refine xL 22 (q_lookoE 13 tMp142_LbM) ?_
       <;> refine aL_end (nav ?_) <;> try dsimp only)
     first | refine cCd (fun hb22 => ?_) (fun hb22 => ?_) | refine cC (fun hb22 => ?_) (fun hb22 => ?_)
     · first
       | exact Bool.noConfusion hb22
       | (
        refine nav ?_
        (refine aC_region ?_
          <;> refine xL 74 q_add ?_
          <;> refine xL 16 q_move ?_
          <;> refine aL_end (nav ?_) <;> try dsimp only)
        try refine aN_ent (freezeCell (l := 73) (l' := 201) (j := cs.length) rfl (lsnoc_at (List.length_map _).symm) rfl rfl) fun _ => ?_
        try rw [lsnoc_set (List.length_map _).symm, share_intl _ _ _ (List.length_mergeSort _).symm]
        try rw [show cs.map pInts ++ [pInts (cl.mergeSort fun x y => decide (x ≤ y))] = (cs ++ [cl.mergeSort fun x y => decide (x ≤ y)]).map pInts by simp, show cs.length + 1 = (cs ++ [cl.mergeSort fun x y => decide (x ≤ y)]).length by simp]
        try refine aN_ent (relabel (l := 73) 200 rfl rfl) fun _ => ?_
        first
          | (exact aN_again (
              ⟨(k + 1, h73, cs ++ [cl.mergeSort fun x y => decide (x ≤ y)], tk1), by show k + 1 ≤ l.length; omega, hmk.done hpt hasc hx (by omega), fun z => by
                show z ∈ tk1 ↔ z ∈ (cs ++ [_]).flatten
                rw [hmk.tkm z]; simp [sort_mem]⟩
              ) (by show l.length - (k + 1) < l.length - k; omega) ⟨rfl, rfl, rfl, rfl, rfl, rfl, rfl, trivial⟩ ⟨rfl, rfl, trivial⟩)
          | (exact aN_again (
              ⟨(k + 1, h55, cs, tk), by show k + 1 ≤ l.length; omega, hpt.skip hx ((htk xf).1 hb22), htk⟩
              ) (by show l.length - (k + 1) < l.length - k; omega) ⟨rfl, rfl, rfl, rfl, rfl, rfl, rfl, trivial⟩ ⟨rfl, rfl, trivial⟩))
     · first
       | exact Bool.noConfusion hb22
       | (
        have hxn : xf ∉ cs.flatten := fun h => hb22 ((htk xf).2 h)
        have hxt : xf ∉ tk := hb22
        refine nav ?_
        (refine aC_region ?_
          <;> refine xL 23 q_move ?_
          <;> refine xL 24 q_move ?_
          <;> refine s_mput 13 tMp142_LbM ?_
          <;> refine aL_end (nav ?_) <;> try dsimp only)
        rw [tkv_put hxt]
        (refine aC_region ?_
          <;> refine xL 25 q_move ?_
          <;> refine s_lit1 (kk := 1) 26 tEl81_LbM fun h26 ho26 => ?_
          <;> refine xL 9 q_assign ?_
          <;> refine aL_end (nav ?_) <;> try dsimp only)
        (refine aC_region ?_
          <;> refine xL 10 q_assign ?_
          <;> refine aL_end (nav ?_) <;> try dsimp only)
        refine aC_ent (relabel (l := 26) 201 rfl rfl) fun _ => ?_
        refine aC_loop (ι := { x : Nat × Value × List Int × List Int // x.2.1.oneCell' = true ∧ Mk l r cs xf x.2.2.1 x.2.2.2 x.1 0 }) (fun k => ⟨[(0, _, _), (1, _, _), (5, _, _), (6, _, _), (14, _, _), (15, _, _), (16, _, _), (9, k.1.2.1, .val k.1.2.1), (10, .int .i64 k.1.1, pInt k.1.1)], [(200, _, _), (13, h13, .omap (tkv k.1.2.2.1)), (201, k.1.2.1, .own 3 1 k.1.2.2.2.length (k.1.2.2.2.map pInt))]⟩) (fun k => l.length - k.1.1) ⟨(0, h26, tk ++ [xf], [xf]), ho26, Mk.start hpt hx htk hxn⟩ (fun a w H => H.weaken ⟨rfl, rfl, rfl, rfl, rfl, rfl, rfl, rfl, rfl, trivial⟩ ⟨rfl, rfl, rfl, trivial⟩) ?_
        rintro ⟨⟨i, h99, tk1, cl⟩, ho99, hmk⟩
        dsimp only
        dsimp only at ho99 hmk
        have hcll := hmk.len
        have e1l : (cl.map pInt).length = cl.length := List.length_map _
        refine nav ?_
        (refine aC_region ?_
          <;> refine xL 27 q_move ?_
          <;> refine xL 28 q_move ?_
          <;> refine xL 29 (q_leno 201 tSl81_LbM) ?_
          <;> refine xL 30 q_lss ?_
          <;> refine aL_end (nav ?_) <;> try dsimp only)
        first | refine cCd (fun hb30 => ?_) (fun hb30 => ?_) | refine cC (fun hb30 => ?_) (fun hb30 => ?_)
        · first
          | exact Bool.noConfusion hb30
          | (
           have hil : i < cl.length := by omega
           obtain ⟨u, hu⟩ := get_some hil
           refine nav ?_
           (refine aC_region ?_
             <;> refine xL 33 q_move ?_
             <;> refine xL 34 (q_len tSl81_LbM) ?_
             <;> refine xL 35 q_move ?_
             <;> refine aL_end (nav ?_) <;> try dsimp only)
           refine aC_loop (ι := { x : Nat × Value × List Int × List Int // x.1 ≤ l.length ∧ x.2.1.oneCell' = true ∧ x.2.2.2[i]? = some u ∧ Mk l r cs xf x.2.2.1 x.2.2.2 i x.1 }) (fun k => ⟨[(0, _, _), (1, _, _), (5, _, _), (6, _, _), (10, _, _), (14, _, _), (15, _, _), (16, _, _), (33, _, _), (34, _, _), (9, k.1.2.1, .val k.1.2.1), (35, .int .i64 k.1.1, pInt k.1.1)], [(200, _, _), (13, h13, .omap (tkv k.1.2.2.1)), (201, k.1.2.1, .own 3 1 k.1.2.2.2.length (k.1.2.2.2.map pInt))]⟩) (fun k => l.length - k.1.1) ⟨(0, h99, tk1, cl), Nat.zero_le _, ho99, hu, hmk⟩ (fun a w H => H.weaken ⟨rfl, rfl, rfl, rfl, rfl, rfl, rfl, rfl, rfl, rfl, rfl, rfl, trivial⟩ ⟨rfl, rfl, rfl, trivial⟩) ?_
           rintro ⟨⟨q, h98, tk2, cl2⟩, hq, ho98, hu2, hmk2⟩
           dsimp only
           dsimp only at hq ho98 hu2 hmk2
           have hcll2 := hmk2.len
           have e1l2 : (cl2.map pInt).length = cl2.length := List.length_map _
           refine nav ?_
           (refine aC_region ?_
             <;> refine xL 36 q_lss ?_
             <;> refine aL_end (nav ?_) <;> try dsimp only)
           first | refine cCd (fun hb36 => ?_) (fun hb36 => ?_) | refine cC (fun hb36 => ?_) (fun hb36 => ?_)
           · first
             | exact Bool.noConfusion hb36
             | (
              obtain ⟨y, hy⟩ := get_some (show q < l.length by omega)
              have e3 := map_at (f := pInt) hy
              have e4 := tkv_get tk2 y
              have e5 := map_at (f := pInt) hu2
              have hyl := List.mem_of_getElem? hy
              have hul := hmk2.sub u (List.mem_of_getElem? hu2)
              have hilt := lt_of_get hu2
              refine nav ?_
              (refine aC_region ?_
                <;> refine xL 37 (q_idxN tSl81_LbM) ?_
                <;> (refine yL 38 (q_ld tNa3_LbM) fun v38 hv38 => ?_; cases hv38)
                <;> refine xL 12 q_assign ?_
                <;> refine aL_end (nav ?_) <;> try dsimp only)
              (refine aC_region ?_
                <;> refine xL 39 q_move ?_
                <;> refine xL 40 q_move ?_
                <;> refine xL 41 (q_lookoE 13 tMp142_LbM) ?_
                <;> refine xL 42 q_not ?_
                <;> refine xL 43 q_move ?_
                <;> (refine bL 43 (fun hb43 => ?_) (fun hb43 => ?_) <;> (first | refine kL 44 ?_ | refine xL 44 q_move ?_))
                <;> (first | refine kL 45 ?_ | refine xL 45 q_move ?_)
                <;> (first | refine kL 46 ?_ | refine xL 46 q_move ?_)
                <;> (first | refine kL 47 ?_ | refine xL 47 (q_idxoN 201 tSl81_LbM) ?_)
                <;> (first | refine kL 48 ?_ | (refine yL 48 (q_ldo 201 tNa3_LbM) fun v48 hv48 => ?_; cases hv48))
                <;> (first | refine kL 49 ?_ | refine xL 49 q_move ?_)
                <;> (first | refine kL 50 ?_ | (refine cS 50 (callF (f := f) (ps := caps) rfl ⟨_, rfl⟩ hcl rfl (hf u hul y hyl)) fun v50 hv50 => ?_; cases hv50))
                <;> (first | refine kL 51 ?_ | refine xL 51 q_move ?_)
                <;> (first | refine kL 52 ?_ | (refine bL 51 (fun hb51 => ?_) (fun hb51 => ?_) <;> (first | refine kL 52 ?_ | refine xL 52 q_move ?_)))
                <;> (first | refine kL 53 ?_ | refine xL 53 q_move ?_)
                <;> (first | refine kL 54 ?_ | refine xL 54 q_move ?_)
                <;> (first | refine kL 55 ?_ | refine xL 55 q_move ?_)
                <;> (first | refine kL 56 ?_ | refine xL 56 (q_idxoN 201 tSl81_LbM) ?_)
                <;> (first | refine kL 57 ?_ | (refine yL 57 (q_ldo 201 tNa3_LbM) fun v57 hv57 => ?_; cases hv57))
                <;> (first | refine kL 58 ?_ | (refine cS 58 (callF (f := f) (ps := caps) rfl ⟨_, rfl⟩ hcl rfl (hf y hyl u hul)) fun v58 hv58 => ?_; cases hv58))
                <;> (first | refine kL 59 ?_ | refine xL 59 q_pick ?_)
                <;> refine xL 60 q_pick ?_
                <;> refine aL_end (nav ?_) <;> try dsimp only) <;> (
               first | refine cCd (fun hb60 => ?_) (fun hb60 => ?_) | refine cC (fun hb60 => ?_) (fun hb60 => ?_)
               · first
                 | exact Bool.noConfusion hb60
                 | (
                  have hyt : y ∉ tk2 := by simpa using hb43
                  have hry : r u y = true ∨ r y u = true := by first | exact .inl hb51 | exact .inr hb60
                  refine nav ?_
                  (refine aC_region ?_
                    <;> refine xL 61 q_move ?_
                    <;> refine xL 62 q_move ?_
                    <;> refine s_mput 13 tMp142_LbM ?_
                    <;> refine aL_end (nav ?_) <;> try dsimp only)
                  rw [tkv_put hyt]
                  (refine aC_region ?_
                    <;> refine xL 63 q_move ?_
                    <;> refine xL 64 q_move ?_
                    <;> refine s_lit1 (kk := 1) 65 tEl81_LbM fun h65 ho65 => ?_
                    <;> refine s_app 201 65 66 tEl81_LbM fun h66 ho66 => ?_
                    <;> refine xL 9 q_assign ?_
                    <;> refine aL_end (nav ?_) <;> try dsimp only)
                  (refine aC_region ?_
                    <;> refine xL 67 q_add ?_
                    <;> refine xL 35 q_move ?_
                    <;> refine aL_end (nav ?_) <;> try dsimp only)
                  try refine aN_ent (relabel (l := 66) 201 rfl rfl) fun _ => ?_
                  try rw [show cl2.map pInt ++ [pInt y] = (cl2 ++ [y]).map pInt by simp, show cl2.length + 1 = (cl2 ++ [y]).length by simp]
                  first
                    | (exact aN_again (
                        ⟨(q + 1, h66, tk2 ++ [y], cl2 ++ [y]), by show q + 1 ≤ l.length; omega, ho66, by show (cl2 ++ [y])[i]? = some u; rw [List.getElem?_append_left hilt]; exact hu2, hmk2.take hu2 hy hyt hry⟩
                        ) (by show l.length - (q + 1) < l.length - q; omega) ⟨rfl, rfl, rfl, rfl, rfl, rfl, rfl, rfl, rfl, rfl, rfl, rfl, trivial⟩ ⟨rfl, rfl, rfl, trivial⟩)
                    | (exact aN_again (
                        ⟨(q + 1, h98, tk2, cl2), by show q + 1 ≤ l.length; omega, ho98, hu2, hmk2.pass hu2 hy (by
                          first
                            | exact .inr ⟨hb51, hb60⟩
                            | exact .inl (by simpa using hb43))⟩
                        ) (by show l.length - (q + 1) < l.length - q; omega) ⟨rfl, rfl, rfl, rfl, rfl, rfl, rfl, rfl, rfl, rfl, rfl, rfl, trivial⟩ ⟨rfl, rfl, rfl, trivial⟩))
               · first
                 | exact Bool.noConfusion hb60
                 | (
                  refine nav ?_
                  (refine aC_region ?_
                    <;> refine xL 67 q_add ?_
                    <;> refine xL 35 q_move ?_
                    <;> refine aL_end (nav ?_) <;> try dsimp only)
                  try refine aN_ent (relabel (l := 66) 201 rfl rfl) fun _ => ?_
                  try rw [show cl2.map pInt ++ [pInt y] = (cl2 ++ [y]).map pInt by simp, show cl2.length + 1 = (cl2 ++ [y]).length by simp]
                  first
                    | (exact aN_again (
                        ⟨(q + 1, h66, tk2 ++ [y], cl2 ++ [y]), by show q + 1 ≤ l.length; omega, ho66, by show (cl2 ++ [y])[i]? = some u; rw [List.getElem?_append_left hilt]; exact hu2, hmk2.take hu2 hy hyt hry⟩
                        ) (by show l.length - (q + 1) < l.length - q; omega) ⟨rfl, rfl, rfl, rfl, rfl, rfl, rfl, rfl, rfl, rfl, rfl, rfl, trivial⟩ ⟨rfl, rfl, rfl, trivial⟩)
                    | (exact aN_again (
                        ⟨(q + 1, h98, tk2, cl2), by show q + 1 ≤ l.length; omega, ho98, hu2, hmk2.pass hu2 hy (by
                          first
                            | exact .inr ⟨hb51, hb60⟩
                            | exact .inl (by simpa using hb43))⟩
                        ) (by show l.length - (q + 1) < l.length - q; omega) ⟨rfl, rfl, rfl, rfl, rfl, rfl, rfl, rfl, rfl, rfl, rfl, rfl, trivial⟩ ⟨rfl, rfl, rfl, trivial⟩))))
           · first
             | exact Bool.noConfusion hb36
             | (
              refine nav ?_
              (refine aC_region ?_
                <;> refine xL 31 q_move ?_
                <;> refine xL 32 q_add ?_
                <;> refine xL 10 q_assign ?_
                <;> refine aL_end (nav ?_) <;> try dsimp only)
              refine aN_again (
                ⟨(i + 1, h98, tk2, cl2), ho98, hmk2.next (by omega) (lt_of_get hu2)⟩
                ) (by show l.length - (i + 1) < l.length - i; omega) ⟨rfl, rfl, rfl, rfl, rfl, rfl, rfl, rfl, rfl, trivial⟩ ⟨rfl, rfl, rfl, trivial⟩))
        · first
          | exact Bool.noConfusion hb30
          | (
           refine nav ?_
           (refine aC_region ?_
             <;> refine xL 68 q_move ?_
             <;> refine s_sortI 201 sortInt_c (Tryz.call71) ?_ (List.length_pos_of_mem hmk.fst)
             <;> refine aL_end (nav ?_) <;> try dsimp only)
           (refine aC_region ?_
             <;> refine xL 70 q_move ?_
             <;> refine xL 71 q_move ?_
             <;> refine s_lit1 (kk := 1) 72 tEl92_LbM fun h72 ho72 => ?_
             <;> refine s_app 200 72 73 tEl92_LbM fun h73 ho73 => ?_
             <;> refine xL 5 q_assign ?_
             <;> refine aL_end (nav ?_) <;> try dsimp only)
           (refine aC_region ?_
             <;> refine xL 74 q_add ?_
             <;> refine xL 16 q_move ?_
             <;> refine aL_end (nav ?_) <;> try dsimp only)
           try refine aN_ent (freezeCell (l := 73) (l' := 201) (j := cs.length) rfl (lsnoc_at (List.length_map _).symm) rfl rfl) fun _ => ?_
           try rw [lsnoc_set (List.length_map _).symm, share_intl _ _ _ (List.length_mergeSort _).symm]
           try rw [show cs.map pInts ++ [pInts (cl.mergeSort fun x y => decide (x ≤ y))] = (cs ++ [cl.mergeSort fun x y => decide (x ≤ y)]).map pInts by simp, show cs.length + 1 = (cs ++ [cl.mergeSort fun x y => decide (x ≤ y)]).length by simp]
           try refine aN_ent (relabel (l := 73) 200 rfl rfl) fun _ => ?_
           first
             | (exact aN_again (
                 ⟨(k + 1, h73, cs ++ [cl.mergeSort fun x y => decide (x ≤ y)], tk1), by show k + 1 ≤ l.length; omega, hmk.done hpt hasc hx (by omega), fun z => by
                   show z ∈ tk1 ↔ z ∈ (cs ++ [_]).flatten
                   rw [hmk.tkm z]; simp [sort_mem]⟩
                 ) (by show l.length - (k + 1) < l.length - k; omega) ⟨rfl, rfl, rfl, rfl, rfl, rfl, rfl, trivial⟩ ⟨rfl, rfl, trivial⟩)
             | (exact aN_again (
                 ⟨(k + 1, h55, cs, tk), by show k + 1 ≤ l.length; omega, hpt.skip hx ((htk xf).1 hb22), htk⟩
                 ) (by show l.length - (k + 1) < l.length - k; omega) ⟨rfl, rfl, rfl, rfl, rfl, rfl, rfl, trivial⟩ ⟨rfl, rfl, trivial⟩))))
  · first
    | exact Bool.noConfusion hb17
    | (
     refine nav ?_
     (refine aC_region ?_
       <;> refine xL 75 q_move ?_
       <;> refine xL 4 q_assign ?_
       <;> refine aL_end (nav ?_) <;> try dsimp only)
     refine ret_own 200 (Tryz.results53) rfl rfl ⟨cs, hpt.comps (by omega), rfl⟩)
def nameAt (l : List ByteArray) (i : Int) : ByteArray := l[i.toNat]?.getD ByteArray.empty
def partsOf (l : List ByteArray) (cs : List (List Int)) : List (List ByteArray) := cs.map fun c => c.map (nameAt l)
theorem name_at {l : List ByteArray} {x : Int} (h : 0 ≤ x ∧ x < l.length) : (l.map pStr)[x.toNat * 1]? = some (pStr (nameAt l x)) := by
  rw [Nat.mul_one, List.getElem?_map]
  unfold nameAt
  rw [List.getElem?_eq_getElem (show x.toNat < l.length by omega)]; rfl
theorem share_strss (e n : Nat) (l : List (List ByteArray)) (hn : n = l.length) : share (.own e 1 n (l.map pStrs)) = pStrss l := by
  subst hn
  rw [share, shares_eq, List.map_map]; rfl
theorem shr_intss (e n : Nat) (l : List (List Int)) (hn : n = l.length) : share (.own e 1 n (l.map pInts)) = pIntss l := by
  subst hn
  rw [share, shares_eq, List.map_map]; rfl
theorem cMade_lt (l : List ByteArray) (rest : List PV) (kind : Int) (cs : List (List Int)) (h : cs.length < 2) : AF Tryz.prog 52 [.sptr 0 (pStrs l :: rest), pInt kind, pIntss cs] (· = .tup [.agg [pInt 0, .val (.slice none 0 0)], pInt 10]) := by
  refine AF.of_body 51 Tryz.func52 rfl Tryz.ntmps52 (Nat.le_of_ble_eq_true rfl) ?_
  intro w0 M0 vs hl hv
  obtain ⟨v0, v1, v2, rfl⟩ := len3 hl
  obtain rfl := hv 1 _ _ rfl rfl
  clear hl hv
  refine nav ?_
  (refine aC_region ?_
    <;> refine s_alloc [(.int .i64 0), (.slice none 0 0)] 2 6 tZr28_LbM fun h6 => ?_
    <;> refine xL 7 q_assign ?_
    <;> refine aL_end (nav ?_) <;> try dsimp only)
  (refine aC_region ?_
    <;> refine xL 14 q_move ?_
    <;> refine xL 15 (q_len tSl92_LbM) ?_
    <;> refine xL 16 q_lss ?_
    <;> refine aL_end (nav ?_) <;> try dsimp only)
  first | refine cCd (fun hb16 => ?_) (fun hb16 => ?_) | refine cC (fun hb16 => ?_) (fun hb16 => ?_)
  · refine nav ?_
    (refine aC_region ?_
      <;> refine xL 17 (q_build tSt28_LbM) ?_
      <;> refine s_sta 6 tAgg28_LbM ?_
      <;> refine xL 7 q_assign ?_
      <;> refine aL_end (nav ?_) <;> try dsimp only)
    exact ret_cs (k := 2) 6 (by kernel_rfl) (Tryz.results52) rfl rfl rfl (Nat.le_of_ble_eq_true rfl) (by decide) rfl rfl
  · exfalso; omega
set_option maxHeartbeats 1000000 in
theorem cMade_ge (l : List ByteArray) (rest : List PV) (kind : Int) (cs : List (List Int)) (h : 2 ≤ cs.length) (hcs : ∀ c ∈ cs, ∀ x ∈ c, 0 ≤ x ∧ x < l.length) (hcl : cs.length ≤ 1000000) (hcc : ∀ c ∈ cs, c.length ≤ 1000000) : AF Tryz.prog 52 [.sptr 0 (pStrs l :: rest), pInt kind, pIntss cs] (· = .tup [pCut ⟨kind, partsOf l cs⟩, pInt 0]) := by
  refine AF.of_body 51 Tryz.func52 rfl Tryz.ntmps52 (Nat.le_of_ble_eq_true rfl) ?_
  intro w0 M0 vs hl hv
  obtain ⟨v0, v1, v2, rfl⟩ := len3 hl
  obtain rfl := hv 1 _ _ rfl rfl
  clear hl hv
  refine nav ?_
  (refine aC_region ?_
    <;> refine s_alloc [(.int .i64 0), (.slice none 0 0)] 2 6 tZr28_LbM fun h6 => ?_
    <;> refine xL 7 q_assign ?_
    <;> refine aL_end (nav ?_) <;> try dsimp only)
  (refine aC_region ?_
    <;> refine xL 14 q_move ?_
    <;> refine xL 15 (q_len tSl92_LbM) ?_
    <;> refine xL 16 q_lss ?_
    <;> refine aL_end (nav ?_) <;> try dsimp only)
  first | refine cCd (fun hb16 => ?_) (fun hb16 => ?_) | refine cC (fun hb16 => ?_) (fun hb16 => ?_)
  · exfalso; omega
  · refine nav ?_
    (refine aC_region ?_
      <;> refine xL 18 q_move ?_
      <;> refine xL 19 (q_build tSt28_LbM) ?_
      <;> refine s_alloc [(.int .i64 0), (.slice none 0 0)] 2 8 tZr28_LbM fun h8 => ?_
      <;> refine s_sta 8 tAgg28_LbM ?_
      <;> refine aL_end (nav ?_) <;> try dsimp only)
    (refine aC_region ?_
      <;> refine xL 20 q_move ?_
      <;> refine xL 21 (q_len tSl92_LbM) ?_
      <;> refine xL 22 q_move ?_
      <;> refine aL_end (nav ?_) <;> try dsimp only)
    refine aC_ent (nilOwn 200 36 1 rfl) fun _ => ?_
    refine aC_loop (ι := { x : Nat × Value // x.1 ≤ cs.length }) (fun k => ⟨[(0, _, _), (6, _, _), (8, _, _), (20, _, _), (21, _, _), (22, .int .i64 k.1.1, pInt k.1.1)], [(6, _, _), (8, h8, .own 28 2 1 [pInt kind, .val k.1.2]), (200, k.1.2, .own 36 1 k.1.1 (((partsOf l cs).take k.1.1).map pStrs))]⟩) (fun k => cs.length - k.1.1) ⟨(0, .slice none 0 0), Nat.zero_le _⟩ (fun a w H => H.weaken ⟨rfl, rfl, rfl, rfl, rfl, rfl, trivial⟩ ⟨rfl, rfl, rfl, trivial⟩) ?_
    rintro ⟨⟨k, h55⟩, hk⟩
    dsimp only
    dsimp only at hk
    refine nav ?_
    (refine aC_region ?_
      <;> refine xL 23 q_lss ?_
      <;> refine aL_end (nav ?_) <;> try dsimp only)
    first | refine cCd (fun hb23 => ?_) (fun hb23 => ?_) | refine cC (fun hb23 => ?_) (fun hb23 => ?_)
    · first
      | exact Bool.noConfusion hb23
      | (
       obtain ⟨cl, hx⟩ := get_some (show k < cs.length by omega)
       have e1 := map_at (f := pInts) hx
       have hxl := hcs cl (List.mem_of_getElem? hx)
       have hxc := hcc cl (List.mem_of_getElem? hx)
       have hpt : (partsOf l cs)[k]? = some (cl.map (nameAt l)) := by unfold partsOf; rw [List.getElem?_map, hx]; rfl
       have e2 : (((partsOf l cs).take k).map pStrs).length = k := by unfold partsOf; simp; omega
       refine nav ?_
       (refine aC_region ?_
         <;> refine xL 24 (q_idxN tSl92_LbM) ?_
         <;> (refine yL 25 (q_ld tNa81_LbM) fun v25 hv25 => ?_; cases hv25)
         <;> refine xL 10 q_assign ?_
         <;> refine aL_end (nav ?_) <;> try dsimp only)
       (refine aC_region ?_
         <;> refine xL 11 q_assign ?_
         <;> refine aL_end (nav ?_) <;> try dsimp only)
       (refine aC_region ?_
         <;> refine xL 26 q_move ?_
         <;> refine xL 27 (q_len tSl81_LbM) ?_
         <;> refine xL 28 q_move ?_
         <;> refine aL_end (nav ?_) <;> try dsimp only)
       refine aC_ent (nilOwn 201 9 1 rfl) fun _ => ?_
       refine aC_loop (ι := { x : Nat × Value // x.1 ≤ cl.length ∧ x.2.oneCell' = true }) (fun k => ⟨[(0, _, _), (6, _, _), (8, _, _), (20, _, _), (21, _, _), (22, _, _), (26, _, _), (27, _, _), (11, k.1.2, .val k.1.2), (28, .int .i64 k.1.1, pInt k.1.1)], [(6, _, _), (8, _, _), (200, _, _), (201, k.1.2, .own 9 1 k.1.1 (((cl.map (nameAt l)).take k.1.1).map pStr))]⟩) (fun k => cl.length - k.1.1) ⟨(0, .slice none 0 0), Nat.zero_le _, rfl⟩ (fun a w H => H.weaken ⟨rfl, rfl, rfl, rfl, rfl, rfl, rfl, rfl, rfl, rfl, trivial⟩ ⟨rfl, rfl, rfl, rfl, trivial⟩) ?_
       rintro ⟨⟨j, h66⟩, hj, ho66⟩
       dsimp only
       dsimp only at hj ho66
       refine nav ?_
       (refine aC_region ?_
         <;> refine xL 29 q_lss ?_
         <;> refine aL_end (nav ?_) <;> try dsimp only)
       first | refine cCd (fun hb29 => ?_) (fun hb29 => ?_) | refine cC (fun hb29 => ?_) (fun hb29 => ?_)
       · first
         | exact Bool.noConfusion hb29
         | (
          obtain ⟨z, hz⟩ := get_some (show j < cl.length by omega)
          have e3 := map_at (f := pInt) hz
          have hzb := hxl z (List.mem_of_getElem? hz)
          have e4 := name_at hzb
          have e5 : (((cl.map (nameAt l)).take j).map pStr).length = j := by simp; omega
          have hnz : (cl.map (nameAt l))[j]? = some (nameAt l z) := by rw [List.getElem?_map, hz]; rfl
          refine nav ?_
          (refine aC_region ?_
            <;> refine xL 30 (q_idxN tSl81_LbM) ?_
            <;> (refine yL 31 (q_ld tNa3_LbM) fun v31 hv31 => ?_; cases hv31)
            <;> refine xL 13 q_assign ?_
            <;> refine aL_end (nav ?_) <;> try dsimp only)
          (refine aC_region ?_
            <;> refine xL 32 q_move ?_
            <;> refine xL 33 q_move ?_
            <;> refine xL 34 q_nilp ?_
            <;> refine xL 35 (q_fld tFl80_0_LbM) ?_
            <;> (refine yL 36 (q_ld tNa36_LbM) fun v36 hv36 => ?_; cases hv36)
            <;> refine xL 37 q_move ?_
            <;> refine xL 38 (q_idx tSl36_LbM) ?_
            <;> (refine yL 39 (q_ld tNa9_LbM) fun v39 hv39 => ?_; cases hv39)
            <;> refine s_lit1 (kk := 1) 40 tEl36_LbM fun h40 ho40 => ?_
            <;> refine s_app 201 40 41 tEl36_LbM fun h41 ho41 => ?_
            <;> refine xL 11 q_assign ?_
            <;> refine aL_end (nav ?_) <;> try dsimp only)
          (refine aC_region ?_
            <;> refine xL 42 q_add ?_
            <;> refine xL 28 q_move ?_
            <;> refine aL_end (nav ?_) <;> try dsimp only)
          refine aN_ent (relabel (l := 41) 201 rfl rfl) fun _ => ?_
          rw [show ((cl.map (nameAt l)).take j).map pStr ++ [pStr (nameAt l z)] = ((cl.map (nameAt l)).take (j + 1)).map pStr by rw [take_snoc hnz, List.map_append]; rfl]
          refine aN_again (
            ⟨(j + 1, h41), by show j + 1 ≤ cl.length; omega, ho41⟩
            ) (by show cl.length - (j + 1) < cl.length - j; omega) ⟨rfl, rfl, rfl, rfl, rfl, rfl, rfl, rfl, rfl, rfl, trivial⟩ ⟨rfl, rfl, rfl, rfl, trivial⟩)
       · first
         | exact Bool.noConfusion hb29
         | (
          refine nav ?_
          (refine aC_region ?_
            <;> refine xL 43 (q_fldo 8 tFl28_1_LbM) ?_
            <;> (refine yL 44 (q_ldo 8 tNa26_LbM) fun v44 hv44 => ?_; cases hv44)
            <;> refine xL 45 q_move ?_
            <;> refine s_lit1 (kk := 1) 46 tEl26_LbM fun h46 ho46 => ?_
            <;> refine s_app 200 46 47 tEl26_LbM fun h47 ho47 => ?_
            <;> refine xL 48 (q_fldo 8 tFl28_1_LbM) ?_
            <;> refine s_st 8 tNa26_LbM tSz26_LbM ?_
            <;> refine aL_end (nav ?_) <;> try dsimp only)
          (refine aC_region ?_
            <;> refine xL 49 q_add ?_
            <;> refine xL 22 q_move ?_
            <;> refine aL_end (nav ?_) <;> try dsimp only)
          refine aN_ent (freezeCell (l := 47) (l' := 201) (j := k) rfl (lsnoc_at e2.symm) rfl rfl) fun _ => ?_
          rw [lsnoc_set e2.symm, show j = (cl.map (nameAt l)).length by rw [List.length_map]; omega, List.take_length, share_strs]
          rw [show ((partsOf l cs).take k).map pStrs ++ [PV.sl (cl.map (nameAt l)).length ((cl.map (nameAt l)).map pStr)] = ((partsOf l cs).take (k + 1)).map pStrs by rw [take_snoc hpt, List.map_append]; rfl]
          refine aN_ent (relabel (l := 47) 200 rfl rfl) fun _ => ?_
          refine aN_again (
            ⟨(k + 1, h47), by show k + 1 ≤ cs.length; omega⟩
            ) (by show cs.length - (k + 1) < cs.length - k; omega) ⟨rfl, rfl, rfl, rfl, rfl, rfl, trivial⟩ ⟨rfl, rfl, rfl, trivial⟩))
    · first
      | exact Bool.noConfusion hb23
      | (
       refine nav ?_
       rw [show k = (partsOf l cs).length by unfold partsOf; rw [List.length_map]; omega, List.take_length]
       refine aC_ent (freezeCell (l := 8) (l' := 200) (j := 1) rfl rfl rfl rfl) fun _ => ?_
       rw [share_strss _ _ _ rfl]
       (refine aC_region ?_
         <;> (refine yL 50 (q_ldao 8 tAgg28_LbM) fun v50 hv50 => ?_; cases hv50)
         <;> refine s_sta 6 tAgg28_LbM ?_
         <;> refine xL 7 q_assign ?_
         <;> refine aL_end (nav ?_) <;> try dsimp only)
       exact ret_cs (k := 2) 6 (by kernel_rfl) (Tryz.results52) rfl rfl rfl (Nat.le_of_ble_eq_true rfl) (by decide) rfl rfl)
def cutP (l : List ByteArray) (kind : Int) (cs : List (List Int)) : PV := if cs.length < 2 then .tup [.agg [pInt 0, .val (.slice none 0 0)], pInt 10] else .tup [pCut ⟨kind, partsOf l cs⟩, pInt 0]
theorem upTo_mem {n : Nat} {x : Int} : x ∈ upTo n ↔ 0 ≤ x ∧ x < n := by
  unfold upTo vec
  simp only [List.mem_map, List.mem_range]
  constructor
  · rintro ⟨i, hi, rfl⟩; omega
  · rintro ⟨h0, h1⟩; exact ⟨x.toNat, by omega, by omega⟩
theorem upTo_len (n : Nat) : (upTo n).length = n := vec_len _ _
theorem upTo_asc (n : Nat) : (upTo n).Pairwise (· < ·) := by
  rw [List.pairwise_iff_getElem]
  intro i j hi hj hij
  rw [upTo_len] at hi hj
  have e1 : (upTo n)[i]? = some ((i : Nat) : Int) := vec_get _ hi
  have e2 : (upTo n)[j]? = some ((j : Nat) : Int) := vec_get _ hj
  rw [(List.getElem?_eq_some_iff.1 e1).2, (List.getElem?_eq_some_iff.1 e2).2]; omega
theorem comps_in {n : Nat} {r : Int → Int → Bool} {cs : List (List Int)} (h : Comps (upTo n) r cs) : (∀ c ∈ cs, ∀ x ∈ c, 0 ≤ x ∧ x < n) ∧ cs.length ≤ n ∧ ∀ c ∈ cs, c.length ≤ n := by
  have h1 : ∀ c ∈ cs, ∀ x ∈ c, x ∈ upTo n := fun c hc x hx => (h.mem x).1 (List.mem_flatten.2 ⟨c, hc, hx⟩)
  refine ⟨fun c hc x hx => upTo_mem.1 (h1 c hc x hx), ?_, fun c hc => ?_⟩
  · have h2 := nodup_len h.nd (fun x hx => (h.mem x).1 hx)
    rw [upTo_len] at h2
    have : ∀ m : List (List Int), (∀ c ∈ m, c ≠ []) → m.length ≤ m.flatten.length := fun m => by
      induction m with
      | nil => intro _; simp
      | cons c m ih =>
        intro h
        have h1 := ih fun d hd => h d (by simp [hd])
        have h2 := List.length_pos_iff.2 (h c (by simp))
        rw [List.flatten_cons, List.length_append, List.length_cons]; omega
    have := this cs h.ne
    omega
  · have h2 := nodup_len (l := c) (m := upTo n) ((h.asc c hc).imp fun {a b} h => by omega) (h1 c hc)
    rw [upTo_len] at h2; exact h2
def relE (E : Nat → Nat → Bool) (a b : Int) : Bool := E a.toNat b.toNat
theorem cXor1_e (l : List ByteArray) (n : Nat) (E : Nat → Nat → Bool) (S F : Nat → Bool) (x y : Int) (hx : 0 ≤ x ∧ x < n) (hy : 0 ≤ y ∧ y < n) : AF Tryz.prog 55 [pInt x, pInt y, .sptr 0 [relP l n E S F]] (· = pBool (relE E x y)) := by
  obtain ⟨a, rfl⟩ : ∃ a : Nat, x = a := ⟨x.toNat, by omega⟩
  obtain ⟨b, rfl⟩ : ∃ b : Nat, y = b := ⟨y.toNat, by omega⟩
  have e1 := vec_at1 (fun i => pBools n (E i)) (show a < n by omega)
  have e2 := vec_at1 (fun j => pBool (E a j)) (show b < n by omega)
  refine AF.of_body 16 Tryz.func55 rfl Tryz.ntmps55 (Nat.le_of_ble_eq_true rfl) ?_
  intro w0 M0 vs hl hv
  obtain ⟨v0, v1, v2, rfl⟩ := len3 hl
  obtain rfl := hv 0 _ _ rfl rfl
  obtain rfl := hv 1 _ _ rfl rfl
  clear hl hv
  dsimp only [relP]
  refine nav ?_
  (refine aC_region ?_
    <;> refine xL 5 q_assign ?_
    <;> refine aL_end (nav ?_) <;> try dsimp only)
  (refine aC_region ?_
    <;> (refine yL 6 (q_ld tNa71_LbM) fun v6 hv6 => ?_; cases hv6)
    <;> refine xL 7 q_nilp ?_
    <;> refine xL 8 (q_fld tFl80_1_LbM) ?_
    <;> (refine yL 9 (q_ld tNa77_LbM) fun v9 hv9 => ?_; cases hv9)
    <;> refine xL 10 q_move ?_
    <;> refine xL 11 (q_idxN tSl77_LbM) ?_
    <;> (refine yL 12 (q_ld tNa78_LbM) fun v12 hv12 => ?_; cases hv12)
    <;> refine xL 13 q_move ?_
    <;> refine xL 14 (q_idxN tSl78_LbM) ?_
    <;> (refine yL 15 (q_ld tNa4_LbM) fun v15 hv15 => ?_; cases hv15)
    <;> refine xL 5 q_assign ?_
    <;> refine aL_end (nav ?_) <;> try dsimp only)
  exact ret_shr Tryz.results55 rfl rfl
set_option maxHeartbeats 1000000 in
theorem cXor_good (g : Dfg) (l : List ByteArray) (n : Nat) (E : Nat → Nat → Bool) (S F : Nat → Bool) (hb : AF Tryz.prog 43 [pDfg g] (· = .tup [relP l n E S F, pInt 0])) (hl : l.length = n) (hn : n ≤ 1000) : AF Tryz.prog 12 [pDfg g] (fun p => ∃ cs, Comps (upTo n) (relE E) cs ∧ p = cutP l 1 cs) := by
  refine AF.of_body 23 Tryz.func12 rfl Tryz.ntmps12 (Nat.le_of_ble_eq_true rfl) ?_
  intro w0 M0 vs hl hv
  obtain ⟨v0, rfl⟩ := len1 hl
  clear hl hv
  refine nav ?_
  (refine aC_region ?_
    <;> refine s_boxa 1 4 fun h1 => ?_
    <;> refine s_alloc [(.int .i64 0), (.slice none 0 0)] 2 2 tZr28_LbM fun h2 => ?_
    <;> refine xL 3 q_assign ?_
    <;> refine aL_end (nav ?_) <;> try dsimp only)
  (refine aC_region ?_
    <;> (refine yL 7 (q_ldao 1 tAgg25_LbM) fun v7 hv7 => ?_; cases hv7)
    <;> (refine cP 8 (cA Tryz.call43 (hb)) fun va8 vb8 hva8 hvb8 => ?_; cases hvb8)
    <;> refine xL 6 q_move ?_
    <;> refine xL 9 q_extract ?_
    <;> refine xL 10 q_extract ?_
    <;> refine s_alloc [(.pointer none)] 1 4 tZr71_LbM fun h4 => ?_
    <;> refine s_st 4 tNa71_LbM tSz71_LbM ?_
    <;> refine xL 5 q_assign ?_
    <;> refine aL_end (nav ?_) <;> try dsimp only)
  (refine aC_region ?_
    <;> refine xL 11 q_move ?_
    <;> refine xL 12 q_neq ?_
    <;> refine aL_end (nav ?_) <;> try dsimp only) <;> (try (exfalso; omega)) <;> (
   first | refine cCd (fun hb12 => ?_) (fun hb12 => ?_) | refine cC (fun hb12 => ?_) (fun hb12 => ?_)
   · exfalso; omega
   · refine nav ?_
     refine aC_ent (freezeP (l := 4) (t := 4) (j := 0) rfl Nat.one_pos rfl) fun _ => ?_
     dsimp only [shares, share, List.map, relP]
     (refine aC_draw (fun i => ([] : List Nat).elem i) [] (by kernel_rfl) ?_
       <;> (refine yD 0 15 rfl (q_ld tNa71_LbM) fun v15 hv15 => ?_; cases hv15)
       <;> (refine yD 1 16 rfl (q_ld tNa71_LbM) fun v16 hv16 => ?_; cases hv16)
       <;> refine xD 3 18 rfl q_mkfn ?_
       <;> (refine aD_one 2 (by kernel_rfl) ?_)
       <;> (refine aW_call (d := 17) rfl (cA Tryz.call54 ((cAll_e l _ (by omega)).mono (R' := (· = pInts (upTo n))) fun p hp => by rw [hp, hl])) fun v17 hv17 => ?_; cases hv17)
       <;> (refine aD_one 4 (by kernel_rfl) ?_)
       <;> (refine aW_run rfl fun w9 M9 N9 DQ back => ?_)
       <;> (refine aL_co 19 rfl rfl (Nat.le_of_ble_eq_true rfl) rfl (cA Tryz.call53 (cClasses_e 55 [.sptr 0 [relP l n E S F]] (relE E) (upTo n) (upTo_asc n) (by rw [upTo_len]; omega) (Tryz.call55) (fun x hx y hy => cXor1_e l n E S F x y (upTo_mem.1 hx) (upTo_mem.1 hy)))) ?_; rintro p' ⟨cs, hcs, rfl⟩; refine ⟨rfl, fun h19 ho19 => ?_⟩; refine aL_ent (En.freeze (l := 19) (t := 19) rfl rfl) fun _ => ?_; rw [shr_intss _ _ _ rfl])
       <;> refine aL_end (back _ (nrm ?_))
       <;> (refine aD_one 5 (by kernel_rfl) ?_)
       <;> (refine aW_run rfl fun w9 M9 N9 DQ back => ?_)
       <;> (by_cases hm : cs.length < 2 <;> first | (refine cP 20 (cA Tryz.call52 (cMade_lt l _ 1 cs hm)) fun va20 vb20 hva20 hvb20 => ?_; cases hvb20) | (refine cP 20 (cA Tryz.call52 (cMade_ge l _ 1 cs (by omega) (by rw [hl]; exact (comps_in hcs).1) (by have := (comps_in hcs).2.1; omega) (fun c hc => by have := (comps_in hcs).2.2 c hc; omega))) fun va20 vb20 hva20 hvb20 => ?_; cases hvb20))
       <;> refine aL_end (back _ (nrm ?_))
       <;> refine xD 6 21 rfl q_extract ?_
       <;> refine xE 7 22 rfl q_extract ?_
       <;> (refine aD_one 8 (by kernel_rfl) ?_)
       <;> (refine aW_run rfl fun w9 M9 N9 DQ back => ?_)
       <;> refine s_sta 2 tAgg28_LbM ?_
       <;> refine aL_end (back _ (nrm ?_))
       <;> refine xE 9 3 rfl q_assign ?_
       <;> refine aD_end (by kernel_rfl) (nav ?_)
       <;> try dsimp only) <;> (
      refine ret_cs (k := 2) 2 (by kernel_rfl) (Tryz.results12) rfl rfl rfl (Nat.le_of_ble_eq_true rfl) (by decide) rfl ⟨cs, hcs, ?_⟩
      unfold cutP
      first
        | (rw [if_pos hm]; rfl)
        | (rw [if_neg hm]; rfl)))
end Go.Proofs.YtoanjgpdepaciaaGreat

namespace Go.Proofs.YtoanjgpdepaciaaGreat
open Go.RowKit Go.Cb Go.En
set_option linter.all false
set_option maxRecDepth 100000

theorem tAgg25_LbN : AggT Tryz.prog 25 4 = true := by kernel_rfl
theorem tAgg28_LbN : AggT Tryz.prog 28 2 = true := by kernel_rfl
theorem tNa3_LbN : NoAgg Tryz.prog 3 = true := by kernel_rfl
theorem tNa4_LbN : NoAgg Tryz.prog 4 = true := by kernel_rfl
theorem tNa77_LbN : NoAgg Tryz.prog 77 = true := by kernel_rfl
theorem tNa78_LbN : NoAgg Tryz.prog 78 = true := by kernel_rfl
theorem tSl77_LbN : SlT Tryz.prog 77 78 1 = true := by kernel_rfl
theorem tSl78_LbN : SlT Tryz.prog 78 4 1 = true := by kernel_rfl
theorem tSl81_LbN : SlT Tryz.prog 81 3 1 = true := by kernel_rfl
theorem tSz77_LbN : (Tryz.prog.info? 77).map (·.size) = some 1 := by kernel_rfl
theorem tZr28_LbN : ZeroT Tryz.prog 28 (.agg #[(.int .i64 0), (.slice none 0 0)]) := by unfold ZeroT; kernel_rfl
theorem tZr77_LbN : ZeroT Tryz.prog 77 (.slice none 0 0) := by unfold ZeroT; kernel_rfl

def relS (R : Nat → Nat → Bool) (a b : Int) : Bool := R a.toNat b.toNat == R b.toNat a.toNat
def hdI (c : List Int) : Int := c[0]?.getD 0
def cmpSeq (R : Nat → Nat → Bool) (x y : List Int) : Int := if hdI x = hdI y then 0 else if R (hdI x).toNat (hdI y).toNat then -1 else 1
theorem cmpSeq_neg {R : Nat → Nat → Bool} {x y : List Int} : cmpSeq R x y < 0 ↔ hdI x ≠ hdI y ∧ R (hdI x).toNat (hdI y).toNat = true := by
  unfold cmpSeq
  by_cases h : hdI x = hdI y
  · rw [if_pos h]; simp [h]
  · rw [if_neg h]
    cases hr : R (hdI x).toNat (hdI y).toNat <;> simp [h]
theorem hd_mem {c : List Int} (h : c ≠ []) : hdI c ∈ c := by
  cases c with
  | nil => exact absurd rfl h
  | cons a t => exact List.mem_cons_self
theorem seq_apart {n : Nat} {R : Nat → Nat → Bool} {cs : List (List Int)} (h : Comps (upTo n) (relS R) cs) {c d : List Int} (hc : c ∈ cs) (hd : d ∈ cs) (hne : hdI c ≠ hdI d) : R (hdI c).toNat (hdI d).toNat ≠ R (hdI d).toNat (hdI c).toNat := fun he => by
  have hm := h.clos c hc (hdI c) (hd_mem (h.ne c hc)) (hdI d) ((h.mem _).1 (List.mem_flatten.2 ⟨d, hd, hd_mem (h.ne d hd)⟩)) (.inl (by unfold relS; rw [he]; simp))
  have hcd : c = d := by
    obtain ⟨i, hi⟩ := List.getElem?_of_mem hc
    obtain ⟨j, hj⟩ := List.getElem?_of_mem hd
    by_cases e : i = j
    · subst e; rw [hi] at hj; cases hj; rfl
    · have := List.pairwise_iff_getElem.1 (List.pairwise_flatten.1 h.nd).2
      have hlt := lt_of_get hi
      have hlt' := lt_of_get hj
      rcases Nat.lt_or_gt_of_ne e with h1 | h1
      · have := this i j hlt hlt' h1 (hdI d) (by rw [(List.getElem?_eq_some_iff.1 hi).2]; exact hm) (hdI d) (by rw [(List.getElem?_eq_some_iff.1 hj).2]; exact hd_mem (h.ne d hd))
        exact absurd rfl this
      · have := this j i hlt' hlt h1 (hdI d) (by rw [(List.getElem?_eq_some_iff.1 hj).2]; exact hd_mem (h.ne d hd)) (hdI d) (by rw [(List.getElem?_eq_some_iff.1 hi).2]; exact hm)
        exact absurd rfl this
  exact hne (by rw [hcd])
theorem seq_tr {n : Nat} {E R : Nat → Nat → Bool} {cs : List (List Int)} (hR : Closed n E R) (h : Comps (upTo n) (relS R) cs) (a b c : { c // c ∈ cs }) (h1 : cmpSeq R a.1 b.1 < 0) (h2 : cmpSeq R b.1 c.1 < 0) : cmpSeq R a.1 c.1 < 0 := by
  have hin := (comps_in h).1
  have ba := hin a.1 a.2 _ (hd_mem (h.ne _ a.2))
  have bb := hin b.1 b.2 _ (hd_mem (h.ne _ b.2))
  have bc := hin c.1 c.2 _ (hd_mem (h.ne _ c.2))
  rw [cmpSeq_neg] at h1 h2 ⊢
  have hac := hR.2 (hdI a.1).toNat (hdI b.1).toNat (hdI c.1).toNat (by omega) (by omega) (by omega) h1.2 h2.2
  refine ⟨fun e => ?_, hac⟩
  have := seq_apart h a.2 b.2 h1.1
  rw [← e] at h2
  rw [h1.2, h2.2] at this; exact this rfl
theorem seq_nt {n : Nat} {E R : Nat → Nat → Bool} {cs : List (List Int)} (hR : Closed n E R) (h : Comps (upTo n) (relS R) cs) (a b c : { c // c ∈ cs }) (h1 : ¬ cmpSeq R a.1 b.1 < 0) (h2 : ¬ cmpSeq R b.1 c.1 < 0) : ¬ cmpSeq R a.1 c.1 < 0 := by
  have hin := (comps_in h).1
  have ba := hin a.1 a.2 _ (hd_mem (h.ne _ a.2))
  have bb := hin b.1 b.2 _ (hd_mem (h.ne _ b.2))
  have bc := hin c.1 c.2 _ (hd_mem (h.ne _ c.2))
  by_cases e1 : hdI a.1 = hdI b.1
  · unfold cmpSeq at h2 ⊢; rw [e1]; exact h2
  · by_cases e2 : hdI b.1 = hdI c.1
    · unfold cmpSeq at h1 ⊢; rw [← e2]; exact h1
    · rw [cmpSeq_neg] at h1 h2 ⊢
      have r1 : R (hdI b.1).toNat (hdI a.1).toNat = true := by
        have h3 := seq_apart h a.2 b.2 e1
        have h4 : R (hdI a.1).toNat (hdI b.1).toNat = false := by rw [← Bool.not_eq_true]; exact fun hh => h1 ⟨e1, hh⟩
        rw [h4] at h3
        cases hx : R (hdI b.1).toNat (hdI a.1).toNat with
        | true => rfl
        | false => rw [hx] at h3; exact absurd rfl h3
      have r2 : R (hdI c.1).toNat (hdI b.1).toNat = true := by
        have h3 := seq_apart h b.2 c.2 e2
        have h4 : R (hdI b.1).toNat (hdI c.1).toNat = false := by rw [← Bool.not_eq_true]; exact fun hh => h2 ⟨e2, hh⟩
        rw [h4] at h3
        cases hx : R (hdI c.1).toNat (hdI b.1).toNat with
        | true => rfl
        | false => rw [hx] at h3; exact absurd rfl h3
      have r3 := hR.2 (hdI c.1).toNat (hdI b.1).toNat (hdI a.1).toNat (by omega) (by omega) (by omega) r2 r1
      rintro ⟨e3, r4⟩
      have := seq_apart h a.2 c.2 e3
      rw [r4, r3] at this; exact this rfl
theorem cSeq1_e (n : Nat) (R : Nat → Nat → Bool) (x y : Int) (hx : 0 ≤ x ∧ x < n) (hy : 0 ≤ y ∧ y < n) : AF Tryz.prog 56 [pInt x, pInt y, .sptr 0 [pMat n R]] (· = pBool (relS R x y)) := by
  obtain ⟨a, rfl⟩ : ∃ a : Nat, x = a := ⟨x.toNat, by omega⟩
  obtain ⟨b, rfl⟩ : ∃ b : Nat, y = b := ⟨y.toNat, by omega⟩
  have e1 := vec_at1 (fun i => pBools n (R i)) (show a < n by omega)
  have e2 := vec_at1 (fun j => pBool (R a j)) (show b < n by omega)
  have e3 := vec_at1 (fun i => pBools n (R i)) (show b < n by omega)
  have e4 := vec_at1 (fun j => pBool (R b j)) (show a < n by omega)
  refine AF.of_body 21 Tryz.func56 rfl Tryz.ntmps56 (Nat.le_of_ble_eq_true rfl) ?_
  intro w0 M0 vs hl hv
  obtain ⟨v0, v1, v2, rfl⟩ := len3 hl
  obtain rfl := hv 0 _ _ rfl rfl
  obtain rfl := hv 1 _ _ rfl rfl
  clear hl hv
  refine nav ?_
  (refine aC_region ?_
    <;> refine xL 5 q_assign ?_
    <;> refine aL_end (nav ?_) <;> try dsimp only)
  (refine aC_draw (fun i => ([] : List Nat).elem i) [] (by kernel_rfl) ?_
    <;> (refine yD 0 6 rfl (q_ld tNa77_LbN) fun v6 hv6 => ?_; cases hv6)
    <;> refine xD 1 7 rfl q_move ?_
    <;> refine xD 2 8 rfl (q_idxN tSl77_LbN) ?_
    <;> (refine yD 3 9 rfl (q_ld tNa78_LbN) fun v9 hv9 => ?_; cases hv9)
    <;> refine xD 4 10 rfl q_move ?_
    <;> refine xD 5 11 rfl (q_idxN tSl78_LbN) ?_
    <;> (refine yD 6 12 rfl (q_ld tNa4_LbN) fun v12 hv12 => ?_; cases hv12)
    <;> (refine yD 7 13 rfl (q_ld tNa77_LbN) fun v13 hv13 => ?_; cases hv13)
    <;> refine xD 8 14 rfl q_move ?_
    <;> refine xD 9 15 rfl (q_idxN tSl77_LbN) ?_
    <;> (refine yD 10 16 rfl (q_ld tNa78_LbN) fun v16 hv16 => ?_; cases hv16)
    <;> refine xE 11 17 rfl q_move ?_
    <;> refine xE 12 18 rfl (q_idxN tSl78_LbN) ?_
    <;> (refine yE 13 19 rfl (q_ld tNa4_LbN) fun v19 hv19 => ?_; cases hv19)
    <;> refine xE 14 20 rfl (q_beql Tryz.underlying4) ?_
    <;> refine xE 15 5 rfl q_assign ?_
    <;> refine aD_end (by kernel_rfl) (nav ?_)
    <;> try dsimp only)
  exact ret_shr Tryz.results56 rfl rfl
theorem cSeq2_e (n : Nat) (R : Nat → Nat → Bool) (x y : List Int) (hx : x ≠ []) (hy : y ≠ []) (hx2 : ∀ z ∈ x, 0 ≤ z ∧ z < n) (hy2 : ∀ z ∈ y, 0 ≤ z ∧ z < n) : AFg Tryz.prog 58 [pInts x, pInts y, .sptr 0 [pMat n R]] (· = .val (.int .i64 (cmpSeq R x y))) := by
  have hxl := List.length_pos_iff.2 hx
  have hyl := List.length_pos_iff.2 hy
  have bx := hx2 _ (hd_mem hx)
  have bY := hy2 _ (hd_mem hy)
  obtain ⟨a, ha⟩ : ∃ a : Nat, hdI x = a := ⟨(hdI x).toNat, by omega⟩
  obtain ⟨b, hb⟩ : ∃ b : Nat, hdI y = b := ⟨(hdI y).toNat, by omega⟩
  have e0 : (x.map pInt)[0 * 1]? = some (pInt (a : Nat)) := by
    cases x with
    | nil => exact absurd rfl hx
    | cons z t => show some (pInt z) = _; rw [show z = a from ha]
  have e0' : (y.map pInt)[0 * 1]? = some (pInt (b : Nat)) := by
    cases y with
    | nil => exact absurd rfl hy
    | cons z t => show some (pInt z) = _; rw [show z = b from hb]
  have e1 := vec_at1 (fun i => pBools n (R i)) (show a < n by omega)
  have e2 := vec_at1 (fun j => pBool (R a j)) (show b < n by omega)
  refine AFg.of_body 24 Tryz.func58 rfl Tryz.ntmps58 (Nat.le_of_ble_eq_true rfl) ?_
  intro w0 M0 vs hl hv
  obtain ⟨v0, v1, v2, rfl⟩ := len3 hl
  clear hl hv
  dsimp only [pInts]
  refine nav ?_
  (refine aC_region ?_
    <;> refine xL 5 q_assign ?_
    <;> refine aL_end (nav ?_) <;> try dsimp only)
  (refine aC_draw (fun i => ([] : List Nat).elem i) [] (by kernel_rfl) ?_
    <;> refine xD 0 6 rfl q_move ?_
    <;> refine xD 1 7 rfl (q_idxN (i := 0) tSl81_LbN) ?_
    <;> (refine yD 2 8 rfl (q_ld tNa3_LbN) fun v8 hv8 => ?_; cases hv8)
    <;> refine xE 3 9 rfl q_move ?_
    <;> refine xE 4 10 rfl (q_idxN (i := 0) tSl81_LbN) ?_
    <;> (refine yE 5 11 rfl (q_ld tNa3_LbN) fun v11 hv11 => ?_; cases hv11)
    <;> refine xE 6 12 rfl q_eql ?_
    <;> refine aD_end (by kernel_rfl) (nav ?_)
    <;> try dsimp only)
  first | refine cCd (fun hb12 => ?_) (fun hb12 => ?_) | refine cC (fun hb12 => ?_) (fun hb12 => ?_)
  · first
    | exact Bool.noConfusion hb12
    | (
     refine nav ?_
     (refine aC_region ?_
       <;> refine xL 5 q_assign ?_
       <;> refine aL_end (nav ?_) <;> try dsimp only)
     refine ret_shr (Tryz.results58) rfl ?_
     unfold cmpSeq; rw [ha, hb, if_pos hb12])
  · first
    | exact Bool.noConfusion hb12
    | (
     refine nav ?_
     (refine aC_draw (fun i => ([] : List Nat).elem i) [] (by kernel_rfl) ?_
       <;> (refine yD 0 13 rfl (q_ld tNa77_LbN) fun v13 hv13 => ?_; cases hv13)
       <;> refine xD 1 14 rfl q_move ?_
       <;> refine xD 2 15 rfl (q_idxN (i := 0) tSl81_LbN) ?_
       <;> (refine yD 3 16 rfl (q_ld tNa3_LbN) fun v16 hv16 => ?_; cases hv16)
       <;> refine xD 4 17 rfl (q_idxN tSl77_LbN) ?_
       <;> (refine yD 5 18 rfl (q_ld tNa78_LbN) fun v18 hv18 => ?_; cases hv18)
       <;> refine xE 6 19 rfl q_move ?_
       <;> refine xE 7 20 rfl (q_idxN (i := 0) tSl81_LbN) ?_
       <;> (refine yE 8 21 rfl (q_ld tNa3_LbN) fun v21 hv21 => ?_; cases hv21)
       <;> refine xE 9 22 rfl (q_idxN tSl78_LbN) ?_
       <;> (refine yE 10 23 rfl (q_ld tNa4_LbN) fun v23 hv23 => ?_; cases hv23)
       <;> refine aD_end (by kernel_rfl) (nav ?_)
       <;> try dsimp only)
     first | refine cCd (fun hb23 => ?_) (fun hb23 => ?_) | refine cC (fun hb23 => ?_) (fun hb23 => ?_)
     · first
       | exact Bool.noConfusion hb23
       | (
        refine nav ?_
        (refine aC_region ?_
          <;> refine xL 5 q_assign ?_
          <;> refine aL_end (nav ?_) <;> try dsimp only)
        refine ret_shr (Tryz.results58) rfl ?_
        unfold cmpSeq; rw [ha, hb, if_neg hb12, Int.toNat_natCast, Int.toNat_natCast, if_pos hb23])
     · first
       | exact Bool.noConfusion hb23
       | (
        refine nav ?_
        (refine aC_region ?_
          <;> refine xL 5 q_assign ?_
          <;> refine aL_end (nav ?_) <;> try dsimp only)
        refine ret_shr (Tryz.results58) rfl ?_
        unfold cmpSeq; rw [ha, hb, if_neg hb12, Int.toNat_natCast, Int.toNat_natCast, if_neg (by rw [hb23]; simp)]))
theorem sortInts_c : SortC1 Tryz.prog 57 58 := fun enc h1 cf hO cb blk cap d w hcmp hH hblk hsz => Tryz.slices_SortFunc enc h1 cf hO 58 cb blk 0 cap d w (Tryz.call58) hcmp hH hblk hsz
structure SeqCs (n : Nat) (R : Nat → Nat → Bool) (cs : List (List Int)) : Prop where
  cl : ∃ ds, Comps (upTo n) (relS R) ds ∧ cs.Perm ds
  ord : ∀ (i j : Nat) (a b : List Int), i < j → cs[i]? = some a → cs[j]? = some b → ¬ cmpSeq R b a < 0
set_option maxHeartbeats 1000000 in
theorem cSeq_good (g : Dfg) (l : List ByteArray) (n : Nat) (E : Nat → Nat → Bool) (S F : Nat → Bool) (hb : AF Tryz.prog 43 [pDfg g] (· = .tup [relP l n E S F, pInt 0])) (hl : l.length = n) (hn : n ≤ 1000) (hn0 : 0 < n) : AF Tryz.prog 13 [pDfg g] (fun p => ∃ cs, SeqCs n (reachB n E) cs ∧ p = cutP l 2 cs) := by
  refine AF.of_body 31 Tryz.func13 rfl Tryz.ntmps13 (Nat.le_of_ble_eq_true rfl) ?_
  intro w0 M0 vs hl hv
  obtain ⟨v0, rfl⟩ := len1 hl
  clear hl hv
  refine nav ?_
  (refine aC_region ?_
    <;> refine s_boxa 1 4 fun h1 => ?_
    <;> refine s_alloc [(.int .i64 0), (.slice none 0 0)] 2 2 tZr28_LbN fun h2 => ?_
    <;> refine xL 3 q_assign ?_
    <;> refine aL_end (nav ?_) <;> try dsimp only)
  (refine aC_region ?_
    <;> (refine yL 9 (q_ldao 1 tAgg25_LbN) fun v9 hv9 => ?_; cases hv9)
    <;> (refine cP 10 (cA Tryz.call43 (hb)) fun va10 vb10 hva10 hvb10 => ?_; cases hvb10)
    <;> refine xL 8 q_move ?_
    <;> refine xL 11 q_extract ?_
    <;> refine xL 12 q_extract ?_
    <;> refine xL 4 q_assign ?_
    <;> refine xL 5 q_assign ?_
    <;> refine aL_end (nav ?_) <;> try dsimp only)
  (refine aC_region ?_
    <;> refine xL 13 q_move ?_
    <;> refine xL 14 q_neq ?_
    <;> refine aL_end (nav ?_) <;> try dsimp only)
  first | refine cCd (fun hb14 => ?_) (fun hb14 => ?_) | refine cC (fun hb14 => ?_) (fun hb14 => ?_)
  · exfalso; omega
  · refine nav ?_
    (refine aC_region ?_
      <;> refine xL 17 q_move ?_
      <;> (refine cS 18 (cA Tryz.call45 (cReach_e l n E (pBools n S) (pBools n F) hl hn)) fun v18 hv18 => ?_; cases hv18)
      <;> refine s_alloc [(.slice none 0 0)] 1 6 tZr77_LbN fun h6 => ?_
      <;> refine s_st 6 tNa77_LbN tSz77_LbN ?_
      <;> refine aL_end (nav ?_) <;> try dsimp only)
    refine aC_ent (freezeP (l := 6) (t := 6) (j := 0) rfl Nat.one_pos rfl) fun _ => ?_
    dsimp only [shares, share, List.map, relP]
    (refine aC_region ?_
      <;> refine xL 19 q_move ?_
      <;> (refine cS 20 (cA Tryz.call54 ((cAll_e l _ (by omega)).mono (R' := (· = pInts (upTo n))) fun p hp => by rw [hp, hl])) fun v20 hv20 => ?_; cases hv20)
      <;> refine xL 21 q_mkfn ?_
      <;> (refine aL_co 22 rfl rfl (Nat.le_of_ble_eq_true rfl) rfl (cA Tryz.call53 (cClasses_e 56 [.sptr 0 [pMat n (reachB n E)]] (relS (reachB n E)) (upTo n) (upTo_asc n) (by rw [upTo_len]; omega) (Tryz.call56) (fun x hx y hy => cSeq1_e n (reachB n E) x y (upTo_mem.1 hx) (upTo_mem.1 hy)))) ?_; rintro p' ⟨cs, hcs, rfl⟩; refine ⟨rfl, fun h22 ho22 => ?_⟩)
      <;> refine xL 7 q_assign ?_
      <;> refine aL_end (nav ?_) <;> try dsimp only)
    have hin := comps_in hcs
    have hcp : 0 < cs.attach.length := by
      rw [List.length_attach]
      cases cs with
      | nil => have := (hcs.mem 0).2 (upTo_mem.2 ⟨by omega, by omega⟩); simp at this
      | cons => simp
    rw [show cs.map pInts = cs.attach.map (fun c : { c // c ∈ cs } => pInts c.1) by rw [List.attach_map_val (f := pInts)], show cs.length = cs.attach.length from List.length_attach.symm]
    (refine aC_region ?_
      <;> refine xL 23 q_move ?_
      <;> refine xL 24 q_mkfn ?_
      <;> (refine s_sort1 (β := { c // c ∈ cs }) (f := fun c => pInts c.1) (cmp := fun a b => cmpSeq (reachB n E) a.1 b.1) (rows := cs.attach) 22 sortInts_c (Tryz.call57) (fun _ => rfl) (fun a => by unfold cmpSeq; rw [if_pos rfl]; decide) (seq_tr (reach_closed n E) hcs) (seq_nt (reach_closed n E) hcs) (fun x _ y _ => cSeq2_e n (reachB n E) x.1 y.1 (hcs.ne _ x.2) (hcs.ne _ y.2) (hin.1 _ x.2) (hin.1 _ y.2)) hcp (by rw [List.length_attach]; omega) (fun rows' hperm hord => ?_))
      <;> refine aL_end (nav ?_) <;> try dsimp only)
    obtain ⟨ds, hds⟩ : ∃ ds, ds = rows'.map (·.1) := ⟨_, rfl⟩
    have hpd : ds.Perm cs := by rw [hds]; have := hperm.map (·.1); rw [List.attach_map_subtype_val] at this; exact this
    have hsq : SeqCs n (reachB n E) ds := ⟨⟨cs, hcs, hpd⟩, fun i j a b hij ha hb => by
      rw [hds, List.getElem?_map, Option.map_eq_some_iff] at ha hb
      obtain ⟨a', ha', rfl⟩ := ha
      obtain ⟨b', hb', rfl⟩ := hb
      exact hord i j a' b' hij ha' hb'⟩
    rw [show rows'.map (fun c : { c // c ∈ cs } => pInts c.1) = ds.map pInts by rw [hds, List.map_map]; rfl, show cs.attach.length = ds.length by rw [List.length_attach]; exact hpd.length_eq.symm]
    refine aC_ent (En.freeze (l := 22) (t := 7) rfl rfl) fun _ => ?_
    rw [shr_intss _ _ _ rfl]
    have hdi : ∀ c ∈ ds, ∀ x ∈ c, 0 ≤ x ∧ x < l.length := fun c hc => by rw [hl]; exact hin.1 c (hpd.mem_iff.1 hc)
    have hdl : ds.length ≤ 1000000 := by rw [hpd.length_eq]; omega
    have hdc : ∀ c ∈ ds, c.length ≤ 1000000 := fun c hc => by have := hin.2.2 c (hpd.mem_iff.1 hc); omega
    (refine aC_region ?_
      <;> refine xL 26 q_move ?_
      <;> refine xL 27 q_move ?_
      <;> (by_cases hm : ds.length < 2 <;> first | (refine cP 28 (cA Tryz.call52 (cMade_lt l _ 2 ds hm)) fun va28 vb28 hva28 hvb28 => ?_; cases hvb28) | (refine cP 28 (cA Tryz.call52 (cMade_ge l _ 2 ds (by omega) hdi hdl hdc)) fun va28 vb28 hva28 hvb28 => ?_; cases hvb28))
      <;> refine xL 29 q_extract ?_
      <;> refine xL 30 q_extract ?_
      <;> refine s_sta 2 tAgg28_LbN ?_
      <;> refine xL 3 q_assign ?_
      <;> refine aL_end (nav ?_) <;> try dsimp only) <;> (
     refine ret_cs (k := 2) 2 (by kernel_rfl) (Tryz.results13) rfl rfl rfl (Nat.le_of_ble_eq_true rfl) (by decide) rfl ⟨ds, hsq, ?_⟩
     unfold cutP
     first
       | (rw [if_pos hm]; rfl)
       | (rw [if_neg hm]; rfl))
end Go.Proofs.YtoanjgpdepaciaaGreat
