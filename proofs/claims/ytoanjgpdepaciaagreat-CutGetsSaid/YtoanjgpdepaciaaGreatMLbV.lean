/-
  Walks of the reference: cut, ordered, least, byFirst.
-/
import Derived.Test.YtoanjgpdepaciaaGreatMLbU
namespace Go.En
open Go.RowKit Go.Cb
theorem q_min {P : Program} {st : St} {o : Oper} {x y : Operand} {t t' : TypeId} {a b : Int} {q q' : PV} (ho : o.op = .call { callee := .builtin .min, args := #[x, y], argTypes := #[t, t'] } := by exact rfl) (hx : ev st.slots x = some (.int .i64 a, q) := by exact rfl) (hy : ev st.slots y = some (.int .i64 b, q') := by exact rfl) : YE P st o (· = .int .i64 (if b < a then b else a)) (.val (.int .i64 (if b < a then b else a))) :=
  y2 hx hy fun ρ w h1 h2 => by
    simp [execOp, ho, h1, h2, resolve, invoke, builtin, Builtin.min_, Builtin.min2]
theorem dropL {sL hP : List (Nat × Ent)} (l : Nat) : EntE (⟨sL, hP⟩ : St) (fun _ : Unit => ⟨sL, del l hP⟩) := fun _ _ _ ⟨F, H⟩ => ⟨(), F, H.less (fun _ _ h => h) (fun _ _ h => (lk_del h).2)⟩
end Go.En
namespace Go.Proofs.YtoanjgpdepaciaaGreat
open Go.RowKit Go.Cb Go.En
set_option linter.all false
set_option maxRecDepth 100000

theorem tAgg28_LbV : AggT Tryz.prog 28 2 = true := by kernel_rfl
theorem tEl26_LbV : ElT Tryz.prog 26 36 1 24 (.slice none 0 0) := ⟨Tryz.underlying26, by kernel_rfl, rfl, by decide⟩
theorem tEl36_LbV : ElT Tryz.prog 36 9 1 16 (.string ByteArray.empty) := ⟨Tryz.underlying36, by kernel_rfl, rfl, by decide⟩
theorem tEl92_LbV : ElT Tryz.prog 92 81 1 24 (.slice none 0 0) := ⟨Tryz.underlying92, by kernel_rfl, rfl, by decide⟩
theorem tFl28_1_LbV : FldT Tryz.prog 28 1 1 = true := by kernel_rfl
theorem tFl86_0_LbV : FldT Tryz.prog 86 0 0 = true := by kernel_rfl
theorem tFl86_2_LbV : FldT Tryz.prog 86 2 2 = true := by kernel_rfl
theorem tNa26_LbV : NoAgg Tryz.prog 26 = true := by kernel_rfl
theorem tNa36_LbV : NoAgg Tryz.prog 36 = true := by kernel_rfl
theorem tNa3_LbV : NoAgg Tryz.prog 3 = true := by kernel_rfl
theorem tNa4_LbV : NoAgg Tryz.prog 4 = true := by kernel_rfl
theorem tNa77_LbV : NoAgg Tryz.prog 77 = true := by kernel_rfl
theorem tNa78_LbV : NoAgg Tryz.prog 78 = true := by kernel_rfl
theorem tNa81_LbV : NoAgg Tryz.prog 81 = true := by kernel_rfl
theorem tNa9_LbV : NoAgg Tryz.prog 9 = true := by kernel_rfl
theorem tSl36_LbV : SlT Tryz.prog 36 9 1 = true := by kernel_rfl
theorem tSl77_LbV : SlT Tryz.prog 77 78 1 = true := by kernel_rfl
theorem tSl78_LbV : SlT Tryz.prog 78 4 1 = true := by kernel_rfl
theorem tSl81_LbV : SlT Tryz.prog 81 3 1 = true := by kernel_rfl
theorem tSl92_LbV : SlT Tryz.prog 92 81 1 = true := by kernel_rfl
theorem tSt28_LbV : stInfo Tryz.prog 28 = some ((.agg #[(.int .i64 0), (.slice none 0 0)]), ([0, 1] : List Nat).map fun o => (o, 1)) := by kernel_rfl
theorem tSz26_LbV : (Tryz.prog.info? 26).map (·.size) = some 1 := by kernel_rfl
theorem tZr28_LbV : ZeroT Tryz.prog 28 (.agg #[(.int .i64 0), (.slice none 0 0)]) := by unfold ZeroT; kernel_rfl

theorem normI_len {c : List Int} (h : c.Nodup) (n : Nat) : (normI n c).length ≤ c.length := nodup_len ((normI_asc h n).imp fun h => by omega) fun x hx => (normI_mem.1 hx).1
theorem intss_one (l : List (List Int)) : (l.map pInts).all En.one = true := by rw [List.all_map, List.all_eq_true]; intro x _; rfl
theorem shr_intss' (e n : Nat) (cs : List PV) (l : List (List Int)) (h1 : cs = l.map pInts) (h2 : n = l.length) : share (.own e 1 n cs) = pIntss l := by rw [h1]; exact shr_intss e n l h2
theorem rCut36_lt (l : List ByteArray) (n : Nat) (E R : Nat → Nat → Bool) (S F : Nat → Bool) (kind : Int) (cs : List (List Int)) (h : cs.length < 2) : AF Tryz.prog 75 [.agg (cView l n E R S F), pInt kind, pIntss cs] (· = .tup [.agg [pInt 0, .val (.slice none 0 0)], pBool false]) := by
  refine AF.of_body 65 Tryz.func75 rfl Tryz.ntmps75 (Nat.le_of_ble_eq_true rfl) ?_
  intro w0 M0 vs hl hv
  obtain ⟨v0, v1, v2, rfl⟩ := len3 hl
  obtain rfl := hv 1 _ _ rfl rfl
  clear hl hv
  dsimp only [cView]
  refine nav ?_
  (refine aC_region ?_
    <;> refine s_boxa 3 5 fun h3 => ?_
    <;> refine s_alloc [(.int .i64 0), (.slice none 0 0)] 2 6 tZr28_LbV fun h6 => ?_
    <;> refine xL 7 q_assign ?_
    <;> refine aL_end (nav ?_) <;> try dsimp only)
  (refine aC_region ?_
    <;> refine xL 13 q_move ?_
    <;> refine xL 14 (q_len tSl92_LbV) ?_
    <;> refine xL 15 q_lss ?_
    <;> refine aL_end (nav ?_) <;> try dsimp only)
  first | refine cCd (fun hb15 => ?_) (fun hb15 => ?_) | refine cC (fun hb15 => ?_) (fun hb15 => ?_)
  · refine nav ?_
    (refine aC_region ?_
      <;> refine xL 16 (q_build tSt28_LbV) ?_
      <;> refine s_sta 6 tAgg28_LbV ?_
      <;> refine xL 7 q_assign ?_
      <;> refine aL_end (nav ?_) <;> try dsimp only)
    exact ret_cs (k := 2) 6 (by kernel_rfl) (Tryz.results75) rfl rfl rfl (Nat.le_of_ble_eq_true rfl) (by decide) rfl rfl
  · exfalso; omega
set_option maxHeartbeats 1000000 in
theorem rCut36_ge (l : List ByteArray) (n : Nat) (E R : Nat → Nat → Bool) (S F : Nat → Bool) (kind : Int) (cs : List (List Int)) (hl : l.length = n) (hn : n ≤ 1000) (h : 2 ≤ cs.length) (hcs : ∀ c ∈ cs, c.Nodup ∧ c.length ≤ 1000) (hcl : cs.length ≤ 1000000) : AF Tryz.prog 75 [.agg (cView l n E R S F), pInt kind, pIntss cs] (· = .tup [pCut ⟨kind, partsOf l (cs.map (normI n))⟩, pBool true]) := by
  subst hl
  refine AF.of_body 65 Tryz.func75 rfl Tryz.ntmps75 (Nat.le_of_ble_eq_true rfl) ?_
  intro w0 M0 vs hl hv
  obtain ⟨v0, v1, v2, rfl⟩ := len3 hl
  obtain rfl := hv 1 _ _ rfl rfl
  clear hl hv
  dsimp only [cView]
  refine nav ?_
  (refine aC_region ?_
    <;> refine s_boxa 3 5 fun h3 => ?_
    <;> refine s_alloc [(.int .i64 0), (.slice none 0 0)] 2 6 tZr28_LbV fun h6 => ?_
    <;> refine xL 7 q_assign ?_
    <;> refine aL_end (nav ?_) <;> try dsimp only)
  (refine aC_region ?_
    <;> refine xL 13 q_move ?_
    <;> refine xL 14 (q_len tSl92_LbV) ?_
    <;> refine xL 15 q_lss ?_
    <;> refine aL_end (nav ?_) <;> try dsimp only)
  first | refine cCd (fun hb15 => ?_) (fun hb15 => ?_) | refine cC (fun hb15 => ?_) (fun hb15 => ?_)
  · exfalso; omega
  · refine nav ?_
    (refine aC_region ?_
      <;> refine xL 17 q_move ?_
      <;> refine xL 18 (q_build tSt28_LbV) ?_
      <;> refine s_alloc [(.int .i64 0), (.slice none 0 0)] 2 8 tZr28_LbV fun h8 => ?_
      <;> refine s_sta 8 tAgg28_LbV ?_
      <;> refine aL_end (nav ?_) <;> try dsimp only)
    (refine aC_region ?_
      <;> refine xL 9 q_assign ?_
      <;> refine aL_end (nav ?_) <;> try dsimp only)
    refine aC_ent (nilOwn 200 36 1 rfl) fun _ => ?_
    refine aC_loop (ι := { x : Nat × Value // x.1 ≤ cs.length }) (fun k => ⟨[(2, _, _), (3, _, _), (6, _, _), (8, _, _), (9, .int .i64 k.1.1, pInt k.1.1)], [(3, _, _), (6, _, _), (8, h8, .own 28 2 1 [pInt kind, .val k.1.2]), (200, k.1.2, .own 36 1 k.1.1 (((partsOf l (cs.map (normI l.length))).take k.1.1).map pStrs))]⟩) (fun k => cs.length - k.1.1) ⟨(0, .slice none 0 0), Nat.zero_le _⟩ (fun a w H => H.weaken ⟨rfl, rfl, rfl, rfl, rfl, trivial⟩ ⟨rfl, rfl, rfl, rfl, trivial⟩) ?_
    rintro ⟨⟨i, h55⟩, hi⟩
    dsimp only
    dsimp only at hi
    refine nav ?_
    (refine aC_region ?_
      <;> refine xL 19 q_move ?_
      <;> refine xL 20 q_move ?_
      <;> refine xL 21 (q_len tSl92_LbV) ?_
      <;> refine xL 22 q_lss ?_
      <;> refine aL_end (nav ?_) <;> try dsimp only)
    first | refine cCd (fun hb22 => ?_) (fun hb22 => ?_) | refine cC (fun hb22 => ?_) (fun hb22 => ?_)
    · first
      | exact Bool.noConfusion hb22
      | (
       obtain ⟨cl, hx⟩ := get_some (show i < cs.length by omega)
       have e1 := map_at (f := pInts) hx
       have hxc := hcs cl (List.mem_of_getElem? hx)
       have hpt : (partsOf l (cs.map (normI l.length)))[i]? = some ((normI l.length cl).map (nameAt l)) := by unfold partsOf; rw [List.getElem?_map, List.getElem?_map, hx]; rfl
       have e2 : (((partsOf l (cs.map (normI l.length))).take i).map pStrs).length = i := by unfold partsOf; simp; omega
       refine nav ?_
       (refine aC_region ?_
         <;> refine xL 10 q_assign ?_
         <;> refine aL_end (nav ?_) <;> try dsimp only)
       (refine aC_region ?_
         <;> refine xL 11 q_assign ?_
         <;> refine aL_end (nav ?_) <;> try dsimp only)
       refine aC_ent (nilOwn 201 9 1 rfl) fun _ => ?_
       refine aC_loop (ι := { x : Nat × Value × List Int // x.1 ≤ l.length ∧ x.2.1.oneCell' = true ∧ x.2.2 = normI x.1 cl }) (fun k => ⟨[(2, _, _), (3, _, _), (6, _, _), (8, _, _), (9, _, _), (10, k.1.2.1, .val k.1.2.1), (11, .int .i64 k.1.1, pInt k.1.1)], [(3, _, _), (6, _, _), (8, _, _), (200, _, _), (201, k.1.2.1, .own 9 1 k.1.2.2.length ((k.1.2.2.map (nameAt l)).map pStr))]⟩) (fun k => l.length - k.1.1) ⟨(0, .slice none 0 0, []), Nat.zero_le _, rfl, rfl⟩ (fun a w H => H.weaken ⟨rfl, rfl, rfl, rfl, rfl, rfl, rfl, trivial⟩ ⟨rfl, rfl, rfl, rfl, rfl, trivial⟩) ?_
       rintro ⟨⟨q, h66, A⟩, hq, ho66, hA⟩
       dsimp only
       dsimp only at hq ho66 hA
       have hAl : A.length ≤ cl.length := by rw [hA]; exact normI_len hxc.1 q
       refine nav ?_
       (refine aC_region ?_
         <;> refine xL 25 q_move ?_
         <;> refine xL 26 (q_fldo 3 tFl86_0_LbV) ?_
         <;> (refine yL 27 (q_ldo 3 tNa36_LbV) fun v27 hv27 => ?_; cases hv27)
         <;> refine xL 28 (q_len tSl36_LbV) ?_
         <;> refine xL 29 q_lss ?_
         <;> refine aL_end (nav ?_) <;> try dsimp only)
       first | refine cCd (fun hb29 => ?_) (fun hb29 => ?_) | refine cC (fun hb29 => ?_) (fun hb29 => ?_)
       · first
         | exact Bool.noConfusion hb29
         | (
          have hqn : q < l.length := by omega
          have e5 := name_at (l := l) (x := (q : Int)) (by omega)
          rw [Int.toNat_natCast] at e5
          refine nav ?_
          (refine aC_region ?_
            <;> refine xL 12 q_assign ?_
            <;> refine aL_end (nav ?_) <;> try dsimp only)
          refine aC_loop (ι := { x : Nat × Value × List Int // x.1 ≤ cl.length ∧ x.2.1.oneCell' = true ∧ x.2.2 = A ++ (cl.take x.1).filter fun x => decide (x = (q : Int)) }) (fun k => ⟨[(2, _, _), (3, _, _), (6, _, _), (8, _, _), (9, _, _), (11, _, _), (10, k.1.2.1, .val k.1.2.1), (12, .int .i64 k.1.1, pInt k.1.1)], [(3, _, _), (6, _, _), (8, _, _), (200, _, _), (201, k.1.2.1, .own 9 1 k.1.2.2.length ((k.1.2.2.map (nameAt l)).map pStr))]⟩) (fun k => cl.length - k.1.1) ⟨(0, h66, A), Nat.zero_le _, ho66, (List.append_nil A).symm⟩ (fun a w H => H.weaken ⟨rfl, rfl, rfl, rfl, rfl, rfl, rfl, rfl, trivial⟩ ⟨rfl, rfl, rfl, rfl, rfl, trivial⟩) ?_
          rintro ⟨⟨j, h67, B⟩, hj, ho67, hB⟩
          dsimp only
          dsimp only at hj ho67 hB
          have hBl : B.length ≤ 2000 := by
            have := List.length_filter_le (fun x : Int => decide (x = (q : Int))) (cl.take j)
            rw [List.length_take] at this
            rw [hB, List.length_append]; omega
          have hBm : ((B.map (nameAt l)).map pStr).length = B.length := by rw [List.length_map, List.length_map]
          refine nav ?_
          (refine aC_region ?_
            <;> refine xL 32 q_move ?_
            <;> refine xL 33 q_move ?_
            <;> refine xL 34 q_move ?_
            <;> refine xL 35 (q_idxN tSl92_LbV) ?_
            <;> (refine yL 36 (q_ld tNa81_LbV) fun v36 hv36 => ?_; cases hv36)
            <;> refine xL 37 (q_len tSl81_LbV) ?_
            <;> refine xL 38 q_lss ?_
            <;> refine aL_end (nav ?_) <;> try dsimp only)
          first | refine cCd (fun hb38 => ?_) (fun hb38 => ?_) | refine cC (fun hb38 => ?_) (fun hb38 => ?_)
          · first
            | exact Bool.noConfusion hb38
            | (
             obtain ⟨z, hz⟩ := get_some (show j < cl.length by omega)
             have e3 := map_at (f := pInt) hz
             have s1 : (cl.take (j + 1)).filter (fun x => decide (x = (q : Int))) = (cl.take j).filter (fun x => decide (x = (q : Int))) ++ (if decide (z = (q : Int)) = true then [z] else []) := filt_snoc (p := fun x : Int => decide (x = (q : Int))) hz
             refine nav ?_
             (refine aC_region ?_
               <;> refine xL 41 q_move ?_
               <;> refine xL 42 q_move ?_
               <;> refine xL 43 (q_idxN tSl92_LbV) ?_
               <;> (refine yL 44 (q_ld tNa81_LbV) fun v44 hv44 => ?_; cases hv44)
               <;> refine xL 45 q_move ?_
               <;> refine xL 46 (q_idxN tSl81_LbV) ?_
               <;> (refine yL 47 (q_ld tNa3_LbV) fun v47 hv47 => ?_; cases hv47)
               <;> refine xL 48 q_move ?_
               <;> refine xL 49 q_eql ?_
               <;> refine aL_end (nav ?_) <;> try dsimp only)
             first | refine cCd (fun hb49 => ?_) (fun hb49 => ?_) | refine cC (fun hb49 => ?_) (fun hb49 => ?_)
             · first
               | exact Bool.noConfusion hb49
               | (
                refine nav ?_
                (refine aC_region ?_
                  <;> refine xL 50 q_move ?_
                  <;> refine xL 51 (q_fldo 3 tFl86_0_LbV) ?_
                  <;> (refine yL 52 (q_ldo 3 tNa36_LbV) fun v52 hv52 => ?_; cases hv52)
                  <;> refine xL 53 q_move ?_
                  <;> refine xL 54 (q_idxN tSl36_LbV) ?_
                  <;> (refine yL 55 (q_ld tNa9_LbV) fun v55 hv55 => ?_; cases hv55)
                  <;> refine s_lit1 (kk := 1) 56 tEl36_LbV fun h56 ho56 => ?_
                  <;> refine s_app 201 56 57 tEl36_LbV fun h57 ho57 => ?_
                  <;> refine xL 10 q_assign ?_
                  <;> refine aL_end (nav ?_) <;> try dsimp only)
                (refine aC_region ?_
                  <;> refine xL 39 q_move ?_
                  <;> refine xL 40 q_add ?_
                  <;> refine xL 12 q_assign ?_
                  <;> refine aL_end (nav ?_) <;> try dsimp only)
                try refine aN_ent (relabel (l := 57) 201 rfl rfl) fun _ => ?_
                try rw [show (B.map (nameAt l)).map pStr ++ [pStr (nameAt l (q : Int))] = ((B ++ [z]).map (nameAt l)).map pStr by rw [show z = (q : Int) by omega]; simp, show B.length + 1 = (B ++ [z]).length by simp]
                first
                  | (exact aN_again (
                      ⟨(j + 1, h57, B ++ [z]), by show j + 1 ≤ cl.length; omega, ho57, by show B ++ [z] = _; rw [s1, if_pos (decide_eq_true (by omega)), hB, List.append_assoc]⟩
                      ) (by show cl.length - (j + 1) < cl.length - j; omega) ⟨rfl, rfl, rfl, rfl, rfl, rfl, rfl, rfl, trivial⟩ ⟨rfl, rfl, rfl, rfl, rfl, trivial⟩)
                  | (exact aN_again (
                      ⟨(j + 1, h67, B), by show j + 1 ≤ cl.length; omega, ho67, by show B = _; rw [s1, if_neg (by rw [decide_eq_false (by omega)]; decide), List.append_nil, hB]⟩
                      ) (by show cl.length - (j + 1) < cl.length - j; omega) ⟨rfl, rfl, rfl, rfl, rfl, rfl, rfl, rfl, trivial⟩ ⟨rfl, rfl, rfl, rfl, rfl, trivial⟩))
             · first
               | exact Bool.noConfusion hb49
               | (
                refine nav ?_
                (refine aC_region ?_
                  <;> refine xL 39 q_move ?_
                  <;> refine xL 40 q_add ?_
                  <;> refine xL 12 q_assign ?_
                  <;> refine aL_end (nav ?_) <;> try dsimp only)
                try refine aN_ent (relabel (l := 57) 201 rfl rfl) fun _ => ?_
                try rw [show (B.map (nameAt l)).map pStr ++ [pStr (nameAt l (q : Int))] = ((B ++ [z]).map (nameAt l)).map pStr by rw [show z = (q : Int) by omega]; simp, show B.length + 1 = (B ++ [z]).length by simp]
                first
                  | (exact aN_again (
                      ⟨(j + 1, h57, B ++ [z]), by show j + 1 ≤ cl.length; omega, ho57, by show B ++ [z] = _; rw [s1, if_pos (decide_eq_true (by omega)), hB, List.append_assoc]⟩
                      ) (by show cl.length - (j + 1) < cl.length - j; omega) ⟨rfl, rfl, rfl, rfl, rfl, rfl, rfl, rfl, trivial⟩ ⟨rfl, rfl, rfl, rfl, rfl, trivial⟩)
                  | (exact aN_again (
                      ⟨(j + 1, h67, B), by show j + 1 ≤ cl.length; omega, ho67, by show B = _; rw [s1, if_neg (by rw [decide_eq_false (by omega)]; decide), List.append_nil, hB]⟩
                      ) (by show cl.length - (j + 1) < cl.length - j; omega) ⟨rfl, rfl, rfl, rfl, rfl, rfl, rfl, rfl, trivial⟩ ⟨rfl, rfl, rfl, rfl, rfl, trivial⟩)))
          · first
            | exact Bool.noConfusion hb38
            | (
             refine nav ?_
             (refine aC_region ?_
               <;> refine xL 30 q_move ?_
               <;> refine xL 31 q_add ?_
               <;> refine xL 11 q_assign ?_
               <;> refine aL_end (nav ?_) <;> try dsimp only)
             refine aN_again (
               ⟨(q + 1, h67, B), by show q + 1 ≤ l.length; omega, ho67, by show B = _; rw [normI_succ, hB, hA, List.take_of_length_le (by omega)]⟩
               ) (by show l.length - (q + 1) < l.length - q; omega) ⟨rfl, rfl, rfl, rfl, rfl, rfl, rfl, trivial⟩ ⟨rfl, rfl, rfl, rfl, rfl, trivial⟩))
       · first
         | exact Bool.noConfusion hb29
         | (
          refine nav ?_
          (refine aC_region ?_
            <;> refine xL 58 (q_fldo 8 tFl28_1_LbV) ?_
            <;> (refine yL 59 (q_ldo 8 tNa26_LbV) fun v59 hv59 => ?_; cases hv59)
            <;> refine xL 60 q_move ?_
            <;> refine s_lit1 (kk := 1) 61 tEl26_LbV fun h61 ho61 => ?_
            <;> refine s_app 200 61 62 tEl26_LbV fun h62 ho62 => ?_
            <;> refine xL 63 (q_fldo 8 tFl28_1_LbV) ?_
            <;> refine s_st 8 tNa26_LbV tSz26_LbV ?_
            <;> refine aL_end (nav ?_) <;> try dsimp only)
          (refine aC_region ?_
            <;> refine xL 23 q_move ?_
            <;> refine xL 24 q_add ?_
            <;> refine xL 9 q_assign ?_
            <;> refine aL_end (nav ?_) <;> try dsimp only)
          refine aN_ent (freezeCell (l := 62) (l' := 201) (j := i) rfl (lsnoc_at e2.symm) rfl rfl) fun _ => ?_
          rw [show A = normI l.length cl by rw [hA, show q = l.length by omega]]
          rw [lsnoc_set e2.symm, show (normI l.length cl).length = ((normI l.length cl).map (nameAt l)).length by rw [List.length_map], share_strs]
          rw [show ((partsOf l (cs.map (normI l.length))).take i).map pStrs ++ [PV.sl ((normI l.length cl).map (nameAt l)).length (((normI l.length cl).map (nameAt l)).map pStr)] = ((partsOf l (cs.map (normI l.length))).take (i + 1)).map pStrs by rw [take_snoc hpt, List.map_append]; rfl]
          refine aN_ent (relabel (l := 62) 200 rfl rfl) fun _ => ?_
          refine aN_again (
            ⟨(i + 1, h62), by show i + 1 ≤ cs.length; omega⟩
            ) (by show cs.length - (i + 1) < cs.length - i; omega) ⟨rfl, rfl, rfl, rfl, rfl, trivial⟩ ⟨rfl, rfl, rfl, rfl, trivial⟩))
    · first
      | exact Bool.noConfusion hb22
      | (
       refine nav ?_
       rw [show i = (partsOf l (cs.map (normI l.length))).length by unfold partsOf; rw [List.length_map, List.length_map]; omega, List.take_length]
       refine aC_ent (freezeCell (l := 8) (l' := 200) (j := 1) rfl rfl rfl rfl) fun _ => ?_
       rw [share_strss _ _ _ rfl]
       (refine aC_region ?_
         <;> (refine yL 64 (q_ldao 8 tAgg28_LbV) fun v64 hv64 => ?_; cases hv64)
         <;> refine s_sta 6 tAgg28_LbV ?_
         <;> refine xL 7 q_assign ?_
         <;> refine aL_end (nav ?_) <;> try dsimp only)
       exact ret_cs (k := 2) 6 (by kernel_rfl) (Tryz.results75) rfl rfl rfl (Nat.le_of_ble_eq_true rfl) (by decide) rfl rfl)
def relO (R : Nat → Nat → Bool) (c d : List Int) : Prop := R (headI c).toNat (headI d).toNat = true
theorem take_perm_mem {α : Type} {cs out : List α} {i : Nat} (h : out.Perm (cs.take i)) : ∀ x ∈ out, x ∈ cs := fun x hx => List.mem_of_mem_take (h.mem_iff.1 hx)
theorem head_at {c : List Int} (h : c ≠ []) : (c.map pInt)[0 * 1]? = some (pInt (headI c)) := by
  cases c with
  | nil => exact absurd rfl h
  | cons z t => rfl
set_option maxHeartbeats 1000000 in
theorem rOrdered_e (l : List ByteArray) (n : Nat) (E R : Nat → Nat → Bool) (S F : Nat → Bool) (cs : List (List Int)) (hn : n ≤ 1000) (hne : ∀ c ∈ cs, c ≠ [] ∧ ∀ x ∈ c, 0 ≤ x ∧ x < n) (hcl : cs.length ≤ 1000) (hap : cs.Pairwise fun c d => R (headI c).toNat (headI d).toNat ≠ R (headI d).toNat (headI c).toNat) (htr : ∀ c ∈ cs, ∀ d ∈ cs, ∀ e ∈ cs, relO R c d → relO R d e → relO R c e) : AF Tryz.prog 76 [.agg (cView l n E R S F), pIntss cs] (fun p => ∃ out, out.Perm cs ∧ out.Pairwise (relO R) ∧ p = pIntss out) := by
  refine AF.of_body 59 Tryz.func76 rfl Tryz.ntmps76 (Nat.le_of_ble_eq_true rfl) ?_
  intro w0 M0 vs hl hv
  obtain ⟨v0, v1, rfl⟩ := len2 hl
  clear hl hv
  dsimp only [cView]
  refine nav ?_
  (refine aC_region ?_
    <;> refine s_boxa 2 5 fun h2 => ?_
    <;> refine xL 4 q_assign ?_
    <;> refine aL_end (nav ?_) <;> try dsimp only)
  (refine aC_region ?_
    <;> refine xL 5 q_assign ?_
    <;> refine aL_end (nav ?_) <;> try dsimp only)
  (refine aC_region ?_
    <;> refine xL 6 q_assign ?_
    <;> refine aL_end (nav ?_) <;> try dsimp only)
  refine aC_ent (nilOwn 200 81 1 rfl) fun _ => ?_
  refine aC_ent (En.freeze (l := 200) (t := 5) rfl rfl) fun _ => ?_
  rw [shr_intss' _ _ _ [] (by rfl) (by rfl)]
  refine aC_loop (ι := { x : Nat × Value × List (List Int) // x.1 ≤ cs.length ∧ x.2.2.Perm (cs.take x.1) ∧ x.2.2.Pairwise (relO R) }) (fun k => ⟨[(1, _, _), (2, _, _), (5, k.1.2.1, pIntss k.1.2.2), (6, .int .i64 k.1.1, pInt k.1.1)], [(2, _, _)]⟩) (fun k => cs.length - k.1.1) ⟨(0, .slice none 0 0, []), Nat.zero_le _, .refl _, List.Pairwise.nil⟩ (fun a w H => H.weaken ⟨rfl, rfl, rfl, rfl, trivial⟩ ⟨rfl, trivial⟩) ?_
  rintro ⟨⟨i, hov, out⟩, hi, hperm, hsort⟩
  dsimp only
  dsimp only at hi hperm hsort
  have hol : out.length ≤ 1000 := by rw [hperm.length_eq, List.length_take]; omega
  refine nav ?_
  (refine aC_region ?_
    <;> refine xL 9 q_move ?_
    <;> refine xL 10 q_move ?_
    <;> refine xL 11 (q_len tSl92_LbV) ?_
    <;> refine xL 12 q_lss ?_
    <;> refine aL_end (nav ?_) <;> try dsimp only)
  first | refine cCd (fun hb12 => ?_) (fun hb12 => ?_) | refine cC (fun hb12 => ?_) (fun hb12 => ?_)
  · first
    | exact Bool.noConfusion hb12
    | (
     obtain ⟨c, hx⟩ := get_some (show i < cs.length by omega)
     have e1 := map_at (f := pInts) hx
     have hcm := List.mem_of_getElem? hx
     have hc0 := hne c hcm
     have e2 := head_at hc0.1
     have hcb := hc0.2 _ (headI_mem hc0.1)
     have hcl0 := List.length_pos_iff.2 hc0.1
     have hom := take_perm_mem hperm
     have hapc : ∀ x ∈ out, R (headI x).toNat (headI c).toNat ≠ R (headI c).toNat (headI x).toNat := fun x hxo => by
       obtain ⟨j, hj⟩ := List.getElem?_of_mem (hperm.mem_iff.1 hxo)
       have hjl := lt_of_get hj
       rw [List.length_take] at hjl
       rw [List.getElem?_take_of_lt (by omega)] at hj
       have := List.pairwise_iff_getElem.1 hap j i (lt_of_get hj) (lt_of_get hx) (by omega)
       rw [(List.getElem?_eq_some_iff.1 hj).2, (List.getElem?_eq_some_iff.1 hx).2] at this
       exact this
     refine nav ?_
     (refine aC_region ?_
       <;> refine xL 7 q_assign ?_
       <;> refine aL_end (nav ?_) <;> try dsimp only)
     refine aC_loop (ι := { k : Nat // k ≤ out.length ∧ ∀ j x, j < k → out[j]? = some x → relO R x c }) (fun k => ⟨[(1, _, _), (2, _, _), (5, _, _), (6, _, _), (7, .int .i64 k.1, pInt k.1)], [(2, _, _)]⟩) (fun k => out.length - k.1) ⟨0, Nat.zero_le _, fun j x h => absurd h (Nat.not_lt_zero j)⟩ (fun a w H => H.weaken ⟨rfl, rfl, rfl, rfl, rfl, trivial⟩ ⟨rfl, trivial⟩) ?_
     rintro ⟨k, hk, hkp⟩
     dsimp only
     obtain ⟨d, hdd⟩ : ∃ d, d = out[k]?.getD c := ⟨_, rfl⟩
     have hd : k < out.length → out[k]? = some d := fun h => by obtain ⟨y, hy⟩ := get_some h; rw [hdd, hy]; rfl
     have hdm : d ∈ cs := by
       rw [hdd]
       cases ho : out[k]? with
       | none => exact hcm
       | some y => exact hom y (List.mem_of_getElem? ho)
     have e3 : k < out.length → (out.map pInts)[k * 1]? = some (pInts d) := fun h => map_at (f := pInts) (hd h)
     have hd0 := hne d hdm
     have e4 := head_at hd0.1
     have hdb := hd0.2 _ (headI_mem hd0.1)
     have hdl0 := List.length_pos_iff.2 hd0.1
     have e5 := vec_at1 (fun i => pBools n (R i)) (show (headI d).toNat < n by omega)
     have e6 := vec_at1 (fun j => pBool (R (headI d).toNat j)) (show (headI c).toNat < n by omega)
     refine nav ?_
     (refine aC_draw (fun i => ([] : List Nat).elem i) [2] (by kernel_rfl) ?_
       <;> refine xD 0 15 rfl q_move ?_
       <;> refine xE 1 16 rfl q_move ?_
       <;> refine xE 2 17 rfl (q_len tSl92_LbV) ?_
       <;> refine xE 3 18 rfl q_lss ?_
       <;> refine xE 4 19 rfl q_move ?_
       <;> (refine bDd 19 (fun hb19 => ?_) (fun hb19 => ?_) <;> (first | refine kD 5 20 rfl ?_ | refine xD 5 20 rfl (q_fldo 2 tFl86_2_LbV) ?_))
       <;> (first | refine kD 6 21 rfl ?_ | (refine yD 6 21 rfl (q_ldo 2 tNa77_LbV) fun v21 hv21 => ?_; cases hv21))
       <;> (first | refine kD 7 22 rfl ?_ | refine xD 7 22 rfl q_move ?_)
       <;> (first | refine kD 8 23 rfl ?_ | refine xD 8 23 rfl q_move ?_)
       <;> (first | refine kD 9 24 rfl ?_ | refine xD 9 24 rfl (q_idxN tSl92_LbV) ?_)
       <;> (first | refine kD 10 25 rfl ?_ | (refine yD 10 25 rfl (q_ld tNa81_LbV (hp := e3 (by omega))) fun v25 hv25 => ?_; cases hv25))
       <;> (first | refine kD 11 26 rfl ?_ | refine xD 11 26 rfl (q_idxN (i := 0) tSl81_LbV) ?_)
       <;> (first | refine kD 12 27 rfl ?_ | (refine yD 12 27 rfl (q_ld tNa3_LbV) fun v27 hv27 => ?_; cases hv27))
       <;> (first | refine kD 13 28 rfl ?_ | refine xD 13 28 rfl (q_idx tSl77_LbV) ?_)
       <;> (first | refine kD 14 29 rfl ?_ | (refine yD 14 29 rfl (q_ld tNa78_LbV) fun v29 hv29 => ?_; cases hv29))
       <;> (first | refine kD 15 30 rfl ?_ | refine xD 15 30 rfl q_move ?_)
       <;> (first | refine kD 16 31 rfl ?_ | refine xD 16 31 rfl q_move ?_)
       <;> (first | refine kD 17 32 rfl ?_ | refine xD 17 32 rfl (q_idxN tSl92_LbV) ?_)
       <;> (first | refine kD 18 33 rfl ?_ | (refine yD 18 33 rfl (q_ld tNa81_LbV) fun v33 hv33 => ?_; cases hv33))
       <;> (first | refine kD 19 34 rfl ?_ | refine xD 19 34 rfl (q_idxN (i := 0) tSl81_LbV) ?_)
       <;> (first | refine kD 20 35 rfl ?_ | (refine yD 20 35 rfl (q_ld tNa3_LbV) fun v35 hv35 => ?_; cases hv35))
       <;> (first | refine kD 21 36 rfl ?_ | refine xD 21 36 rfl (q_idx tSl78_LbV) ?_)
       <;> (first | refine kD 22 37 rfl ?_ | (refine yD 22 37 rfl (q_ld tNa4_LbV) fun v37 hv37 => ?_; cases hv37))
       <;> refine xE 23 38 rfl q_pick ?_
       <;> refine aD_end (by kernel_rfl) (nav ?_)
       <;> try dsimp only) <;> (
      first | refine cCd (fun hb38 => ?_) (fun hb38 => ?_) | refine cC (fun hb38 => ?_) (fun hb38 => ?_)
      · first
        | exact Bool.noConfusion hb38
        | (
         refine nav ?_
         (refine aC_region ?_
           <;> refine xL 39 q_move ?_
           <;> refine xL 40 q_add ?_
           <;> refine xL 7 q_assign ?_
           <;> refine aL_end (nav ?_) <;> try dsimp only)
         refine aN_again (
           ⟨k + 1, by omega, fun j x hj hxj => by
             by_cases e : j = k
             · subst e; rw [hd (by omega)] at hxj; cases hxj; exact hb38
             · exact hkp j x (by omega) hxj⟩
           ) (by dsimp only; omega) ⟨rfl, rfl, rfl, rfl, rfl, trivial⟩ ⟨rfl, trivial⟩)
      · first
        | exact Bool.noConfusion hb38
        | (
         refine nav ?_
         have hkn : ∀ x, out[k]? = some x → relO R c x := fun x hx' => by
           first
             | (have := lt_of_get hx'; omega)
             | (have hdk := hd (lt_of_get hx')
                rw [hdk] at hx'; cases hx'
                have := hapc d (List.mem_of_getElem? hdk)
                unfold relO
                rw [hb38] at this
                cases hr : R (headI c).toNat (headI d).toNat with
                | true => rfl
                | false => rw [hr] at this; exact absurd rfl this)
         have f1 : (((out.map pInts).drop (0 * 1)).take ((k - 0) * 1)).length = (k - 0) * 1 := by simp; omega
         have f2 : (((out.map pInts).drop (0 * 1)).take ((k - 0) * 1)).all En.one = true := by
           have := intss_one (out.take k)
           rw [List.map_take] at this
           simpa using this
         have f3 : (((out.map pInts).drop (k * 1)).take ((out.length - k) * 1)).length = (out.length - k) * 1 := by simp
         have f4 : (((out.map pInts).drop (k * 1)).take ((out.length - k) * 1)).all En.one = true := by
           have := intss_one (out.drop k)
           rw [List.map_drop] at this
           rw [Nat.mul_one, Nat.mul_one, List.take_of_length_le (by simp)]; exact this
         have f5 : (out.map pInts).length = out.length * 1 := by rw [List.length_map, Nat.mul_one]
         (refine aC_region ?_
           <;> refine s_lit0 41 tEl92_LbV fun h41 ho41 => ?_
           <;> refine xL 42 q_move ?_
           <;> refine xL 43 q_move ?_
           <;> refine xL 44 (y_slc_shr (i := 0) (j := k) tSl92_LbV rfl rfl rfl rfl (Nat.zero_le _) hk f5) ?_
           <;> refine s_apps 41 45 tEl92_LbV (fun h45 ho45 => ?_) f1 f2
           <;> refine xL 8 q_assign ?_
           <;> refine aL_end (nav ?_) <;> try dsimp only)
         (refine aC_region ?_
           <;> refine xL 46 q_move ?_
           <;> refine xL 47 q_move ?_
           <;> refine xL 48 q_move ?_
           <;> refine xL 49 (q_idxN tSl92_LbV) ?_
           <;> (refine yL 50 (q_ld tNa81_LbV) fun v50 hv50 => ?_; cases hv50)
           <;> refine s_lit1 (kk := 1) 51 tEl92_LbV fun h51 ho51 => ?_
           <;> refine s_app 45 51 52 tEl92_LbV fun h52 ho52 => ?_
           <;> refine xL 8 q_assign ?_
           <;> refine aL_end (nav ?_) <;> try dsimp only)
         (refine aC_region ?_
           <;> refine xL 53 q_move ?_
           <;> refine xL 54 q_move ?_
           <;> refine xL 55 q_move ?_
           <;> refine xL 56 (y_slc_shr (i := k) (j := out.length) tSl92_LbV rfl rfl rfl rfl hk (Nat.le_refl _) f5) ?_
           <;> refine s_apps 52 57 tEl92_LbV (fun h57 ho57 => ?_) f3 f4
           <;> refine xL 5 q_assign ?_
           <;> refine aL_end (nav ?_) <;> try dsimp only)
         have hcells : [] ++ ((out.map pInts).drop (0 * 1)).take ((k - 0) * 1) ++ [pInts c] ++ ((out.map pInts).drop (k * 1)).take ((out.length - k) * 1) = (out.take k ++ c :: out.drop k).map pInts := by
           simp only [Nat.mul_one, Nat.zero_mul, Nat.sub_zero, List.drop_zero, List.nil_append]
           rw [List.take_of_length_le (show ((out.map pInts).drop k).length ≤ out.length - k by simp)]
           simp
         have hlen : 0 + (k - 0) + 1 + (out.length - k) = (out.take k ++ c :: out.drop k).length := by simp; omega
         (refine aC_region ?_
           <;> refine xL 13 q_move ?_
           <;> refine xL 14 q_add ?_
           <;> refine xL 6 q_assign ?_
           <;> refine aL_end (nav ?_) <;> try dsimp only)
         refine aN_ent (En.freeze (l := 57) (t := 5) rfl rfl) fun _ => ?_
         rw [shr_intss' _ _ _ (out.take k ++ c :: out.drop k) hcells hlen]
         refine aN_again (
           ⟨(i + 1, h57, out.take k ++ c :: out.drop k), by show i + 1 ≤ cs.length; omega, by show (out.take k ++ c :: out.drop k).Perm _; rw [take_snoc hx]; exact (ins_perm out c k).trans (hperm.append_right _), ins_sorted hsort hkp hkn fun x hx' y hy' => htr c hcm x (hom x hx') y (hom y hy')⟩
           ) (by show cs.length - (i + 1) < cs.length - i; omega) ⟨rfl, rfl, rfl, rfl, trivial⟩ ⟨rfl, trivial⟩)))
  · first
    | exact Bool.noConfusion hb12
    | (
     refine nav ?_
     (refine aC_region ?_
       <;> refine xL 58 q_move ?_
       <;> refine xL 4 q_assign ?_
       <;> refine aL_end (nav ?_) <;> try dsimp only)
     rw [show i = cs.length by omega, List.take_length] at hperm
     exact ret_shr (Tryz.results76) rfl ⟨out, hperm, hsort, rfl⟩)
theorem rLeast_e (c : List Int) (hc : c ≠ []) (hcl : c.length ≤ 1000000) : AF Tryz.prog 156 [pInts c] (· = pInt (leastI c)) := by
  have hp := List.length_pos_iff.2 hc
  have e0 := head_at hc
  refine AF.of_body 21 Tryz.func156 rfl Tryz.ntmps156 (Nat.le_of_ble_eq_true rfl) ?_
  intro w0 M0 vs hl hv
  obtain ⟨v0, rfl⟩ := len1 hl
  clear hl hv
  refine nav ?_
  (refine aC_region ?_
    <;> refine xL 2 q_assign ?_
    <;> refine aL_end (nav ?_) <;> try dsimp only)
  (refine aC_region ?_
    <;> refine xL 5 q_move ?_
    <;> refine xL 6 (q_idxN (i := 0) tSl81_LbV) ?_
    <;> (refine yL 7 (q_ld tNa3_LbV) fun v7 hv7 => ?_; cases hv7)
    <;> refine xL 3 q_assign ?_
    <;> refine aL_end (nav ?_) <;> try dsimp only)
  (refine aC_region ?_
    <;> refine xL 4 q_assign ?_
    <;> refine aL_end (nav ?_) <;> try dsimp only)
  refine aC_loop (ι := { x : Nat × Int // x.1 ≤ c.length ∧ x.2 = (c.take x.1).foldl (fun a b => if b < a then b else a) (headI c) }) (fun k => ⟨[(0, _, _), (3, .int .i64 k.1.2, pInt k.1.2), (4, .int .i64 k.1.1, pInt k.1.1)], []⟩) (fun k => c.length - k.1.1) ⟨(0, headI c), Nat.zero_le _, rfl⟩ (fun a w H => H.weaken ⟨rfl, rfl, rfl, trivial⟩ trivial) ?_
  rintro ⟨⟨k, a⟩, hk, ha⟩
  dsimp only
  dsimp only at hk ha
  refine nav ?_
  (refine aC_region ?_
    <;> refine xL 8 q_move ?_
    <;> refine xL 9 q_move ?_
    <;> refine xL 10 (q_len tSl81_LbV) ?_
    <;> refine xL 11 q_lss ?_
    <;> refine aL_end (nav ?_) <;> try dsimp only)
  first | refine cCd (fun hb11 => ?_) (fun hb11 => ?_) | refine cC (fun hb11 => ?_) (fun hb11 => ?_)
  · first
    | exact Bool.noConfusion hb11
    | (
     obtain ⟨x, hx⟩ := get_some (show k < c.length by omega)
     have e1 := map_at (f := pInt) hx
     refine nav ?_
     (refine aC_region ?_
       <;> refine xL 14 q_move ?_
       <;> refine xL 15 q_move ?_
       <;> refine xL 16 q_move ?_
       <;> refine xL 17 (q_idxN tSl81_LbV) ?_
       <;> (refine yL 18 (q_ld tNa3_LbV) fun v18 hv18 => ?_; cases hv18)
       <;> refine xL 19 q_min ?_
       <;> refine xL 3 q_assign ?_
       <;> refine aL_end (nav ?_) <;> try dsimp only)
     (refine aC_region ?_
       <;> refine xL 12 q_move ?_
       <;> refine xL 13 q_add ?_
       <;> refine xL 4 q_assign ?_
       <;> refine aL_end (nav ?_) <;> try dsimp only)
     refine aN_again (
       ⟨(k + 1, if x < a then x else a), by show k + 1 ≤ c.length; omega, by show (if x < a then x else a) = _; rw [take_snoc hx, List.foldl_append, ← ha]; rfl⟩
       ) (by show c.length - (k + 1) < c.length - k; omega) ⟨rfl, rfl, rfl, trivial⟩ trivial)
  · first
    | exact Bool.noConfusion hb11
    | (
     refine nav ?_
     (refine aC_region ?_
       <;> refine xL 20 q_move ?_
       <;> refine xL 2 q_assign ?_
       <;> refine aL_end (nav ?_) <;> try dsimp only)
     refine ret_shr (Tryz.results156) rfl ?_
     rw [show k = c.length by omega, List.take_length] at ha
     rw [ha]; rfl)
set_option maxHeartbeats 1000000 in
theorem rByFirst_e (cs : List (List Int)) (hne : ∀ c ∈ cs, c ≠ [] ∧ c.length ≤ 1000000) (hcl : cs.length ≤ 1000) (hap : cs.Pairwise fun c d => leastI c ≠ leastI d) : AF Tryz.prog 115 [pIntss cs] (fun p => ∃ out, out.Perm cs ∧ out.Pairwise (fun c d => leastI c < leastI d) ∧ p = pIntss out) := by
  refine AF.of_body 50 Tryz.func115 rfl Tryz.ntmps115 (Nat.le_of_ble_eq_true rfl) ?_
  intro w0 M0 vs hl hv
  obtain ⟨v0, rfl⟩ := len1 hl
  clear hl hv
  refine nav ?_
  (refine aC_region ?_
    <;> refine xL 2 q_assign ?_
    <;> refine aL_end (nav ?_) <;> try dsimp only)
  (refine aC_region ?_
    <;> refine xL 3 q_assign ?_
    <;> refine aL_end (nav ?_) <;> try dsimp only)
  (refine aC_region ?_
    <;> refine xL 4 q_assign ?_
    <;> refine aL_end (nav ?_) <;> try dsimp only)
  refine aC_ent (nilOwn 200 81 1 rfl) fun _ => ?_
  refine aC_ent (En.freeze (l := 200) (t := 3) rfl rfl) fun _ => ?_
  rw [shr_intss' _ _ _ [] (by rfl) (by rfl)]
  refine aC_loop (ι := { x : Nat × Value × List (List Int) // x.1 ≤ cs.length ∧ x.2.2.Perm (cs.take x.1) ∧ x.2.2.Pairwise (fun c d => leastI c < leastI d) }) (fun k => ⟨[(0, _, _), (3, k.1.2.1, pIntss k.1.2.2), (4, .int .i64 k.1.1, pInt k.1.1)], []⟩) (fun k => cs.length - k.1.1) ⟨(0, .slice none 0 0, []), Nat.zero_le _, .refl _, List.Pairwise.nil⟩ (fun a w H => H.weaken ⟨rfl, rfl, rfl, trivial⟩ trivial) ?_
  rintro ⟨⟨i, hov, out⟩, hi, hperm, hsort⟩
  dsimp only
  dsimp only at hi hperm hsort
  have hol : out.length ≤ 1000 := by rw [hperm.length_eq, List.length_take]; omega
  refine nav ?_
  (refine aC_region ?_
    <;> refine xL 7 q_move ?_
    <;> refine xL 8 q_move ?_
    <;> refine xL 9 (q_len tSl92_LbV) ?_
    <;> refine xL 10 q_lss ?_
    <;> refine aL_end (nav ?_) <;> try dsimp only)
  first | refine cCd (fun hb10 => ?_) (fun hb10 => ?_) | refine cC (fun hb10 => ?_) (fun hb10 => ?_)
  · first
    | exact Bool.noConfusion hb10
    | (
     obtain ⟨c, hx⟩ := get_some (show i < cs.length by omega)
     have e1 := map_at (f := pInts) hx
     have hcm := List.mem_of_getElem? hx
     have hc0 := hne c hcm
     have hom := take_perm_mem hperm
     have hapc : ∀ x ∈ out, leastI x ≠ leastI c := fun x hxo => by
       obtain ⟨j, hj⟩ := List.getElem?_of_mem (hperm.mem_iff.1 hxo)
       have hjl := lt_of_get hj
       rw [List.length_take] at hjl
       rw [List.getElem?_take_of_lt (by omega)] at hj
       have := List.pairwise_iff_getElem.1 hap j i (lt_of_get hj) (lt_of_get hx) (by omega)
       rw [(List.getElem?_eq_some_iff.1 hj).2, (List.getElem?_eq_some_iff.1 hx).2] at this
       exact this
     refine nav ?_
     (refine aC_region ?_
       <;> refine xL 5 q_assign ?_
       <;> refine aL_end (nav ?_) <;> try dsimp only)
     refine aC_loop (ι := { k : Nat // k ≤ out.length ∧ ∀ j x, j < k → out[j]? = some x → leastI x < leastI c }) (fun k => ⟨[(0, _, _), (3, _, _), (4, _, _), (5, .int .i64 k.1, pInt k.1)], []⟩) (fun k => out.length - k.1) ⟨0, Nat.zero_le _, fun j x h => absurd h (Nat.not_lt_zero j)⟩ (fun a w H => H.weaken ⟨rfl, rfl, rfl, rfl, trivial⟩ trivial) ?_
     rintro ⟨k, hk, hkp⟩
     dsimp only
     obtain ⟨d, hdd⟩ : ∃ d, d = out[k]?.getD c := ⟨_, rfl⟩
     have hd : k < out.length → out[k]? = some d := fun h => by obtain ⟨y, hy⟩ := get_some h; rw [hdd, hy]; rfl
     have hdm : d ∈ cs := by
       rw [hdd]
       cases ho : out[k]? with
       | none => exact hcm
       | some y => exact hom y (List.mem_of_getElem? ho)
     have e3 : k < out.length → (out.map pInts)[k * 1]? = some (pInts d) := fun h => map_at (f := pInts) (hd h)
     have hd0 := hne d hdm
     refine nav ?_
     (refine aC_draw (fun i => ([] : List Nat).elem i) [] (by kernel_rfl) ?_
       <;> refine xD 0 13 rfl q_move ?_
       <;> refine xE 1 14 rfl q_move ?_
       <;> refine xE 2 15 rfl (q_len tSl92_LbV) ?_
       <;> refine xE 3 16 rfl q_lss ?_
       <;> refine xE 4 17 rfl q_move ?_
       <;> (refine bDd 17 (fun hb17 => ?_) (fun hb17 => ?_) <;> (first | refine kD 5 18 rfl ?_ | refine xD 5 18 rfl q_move ?_))
       <;> (first | refine kD 6 19 rfl ?_ | refine xD 6 19 rfl q_move ?_)
       <;> (first | refine kD 7 20 rfl ?_ | refine xD 7 20 rfl (q_idxN tSl92_LbV) ?_)
       <;> (first | refine kD 8 21 rfl ?_ | (refine yD 8 21 rfl (q_ld tNa81_LbV (hp := e3 (by omega))) fun v21 hv21 => ?_; cases hv21))
       <;> (first | refine kD 10 23 rfl ?_ | refine xD 10 23 rfl q_move ?_)
       <;> (first | refine kD 11 24 rfl ?_ | refine xD 11 24 rfl q_move ?_)
       <;> (first | refine kD 12 25 rfl ?_ | refine xD 12 25 rfl (q_idxN tSl92_LbV) ?_)
       <;> (first | refine kD 13 26 rfl ?_ | (refine yD 13 26 rfl (q_ld tNa81_LbV) fun v26 hv26 => ?_; cases hv26))
       <;> (refine aD_one 9 (by kernel_rfl) ?_)
       <;> (first | (refine aW_call (d := 22) rfl (cA Tryz.call156 (rLeast_e d hd0.1 hd0.2)) fun v22 hv22 => ?_; cases hv22) | (refine aW_run rfl fun w9 M9 N9 DQ back => ?_; refine kL 22 ?_; refine aL_end (back _ (nrm ?_))))
       <;> (refine aD_one 14 (by kernel_rfl) ?_)
       <;> (first | (refine aW_call (d := 27) rfl (cA Tryz.call156 (rLeast_e c hc0.1 hc0.2)) fun v27 hv27 => ?_; cases hv27) | (refine aW_run rfl fun w9 M9 N9 DQ back => ?_; refine kL 27 ?_; refine aL_end (back _ (nrm ?_))))
       <;> (first | refine kD 15 28 rfl ?_ | refine xD 15 28 rfl q_lss ?_)
       <;> refine xE 16 29 rfl q_pick ?_
       <;> refine aD_end (by kernel_rfl) (nav ?_)
       <;> try dsimp only) <;> (
      first | refine cCd (fun hb29 => ?_) (fun hb29 => ?_) | refine cC (fun hb29 => ?_) (fun hb29 => ?_)
      · first
        | exact Bool.noConfusion hb29
        | (
         refine nav ?_
         (refine aC_region ?_
           <;> refine xL 30 q_move ?_
           <;> refine xL 31 q_add ?_
           <;> refine xL 5 q_assign ?_
           <;> refine aL_end (nav ?_) <;> try dsimp only)
         refine aN_again (
           ⟨k + 1, by omega, fun j x hj hxj => by
             by_cases e : j = k
             · subst e; rw [hd (by omega)] at hxj; cases hxj; omega
             · exact hkp j x (by omega) hxj⟩
           ) (by dsimp only; omega) ⟨rfl, rfl, rfl, rfl, trivial⟩ trivial)
      · first
        | exact Bool.noConfusion hb29
        | (
         refine nav ?_
         have hkn : ∀ x, out[k]? = some x → leastI c < leastI x := fun x hx' => by
           first
             | (have := lt_of_get hx'; omega)
             | (have hdk := hd (lt_of_get hx')
                rw [hdk] at hx'; cases hx'
                have := hapc d (List.mem_of_getElem? hdk)
                omega)
         have f1 : (((out.map pInts).drop (0 * 1)).take ((k - 0) * 1)).length = (k - 0) * 1 := by simp; omega
         have f2 : (((out.map pInts).drop (0 * 1)).take ((k - 0) * 1)).all En.one = true := by
           have := intss_one (out.take k)
           rw [List.map_take] at this
           simpa using this
         have f3 : (((out.map pInts).drop (k * 1)).take ((out.length - k) * 1)).length = (out.length - k) * 1 := by simp
         have f4 : (((out.map pInts).drop (k * 1)).take ((out.length - k) * 1)).all En.one = true := by
           have := intss_one (out.drop k)
           rw [List.map_drop] at this
           rw [Nat.mul_one, Nat.mul_one, List.take_of_length_le (by simp)]; exact this
         have f5 : (out.map pInts).length = out.length * 1 := by rw [List.length_map, Nat.mul_one]
         (refine aC_region ?_
           <;> refine s_lit0 32 tEl92_LbV fun h32 ho32 => ?_
           <;> refine xL 33 q_move ?_
           <;> refine xL 34 q_move ?_
           <;> refine xL 35 (y_slc_shr (i := 0) (j := k) tSl92_LbV rfl rfl rfl rfl (Nat.zero_le _) hk f5) ?_
           <;> refine s_apps 32 36 tEl92_LbV (fun h36 ho36 => ?_) f1 f2
           <;> refine xL 6 q_assign ?_
           <;> refine aL_end (nav ?_) <;> try dsimp only)
         (refine aC_region ?_
           <;> refine xL 37 q_move ?_
           <;> refine xL 38 q_move ?_
           <;> refine xL 39 q_move ?_
           <;> refine xL 40 (q_idxN tSl92_LbV) ?_
           <;> (refine yL 41 (q_ld tNa81_LbV) fun v41 hv41 => ?_; cases hv41)
           <;> refine s_lit1 (kk := 1) 42 tEl92_LbV fun h42 ho42 => ?_
           <;> refine s_app 36 42 43 tEl92_LbV fun h43 ho43 => ?_
           <;> refine xL 6 q_assign ?_
           <;> refine aL_end (nav ?_) <;> try dsimp only)
         (refine aC_region ?_
           <;> refine xL 44 q_move ?_
           <;> refine xL 45 q_move ?_
           <;> refine xL 46 q_move ?_
           <;> refine xL 47 (y_slc_shr (i := k) (j := out.length) tSl92_LbV rfl rfl rfl rfl hk (Nat.le_refl _) f5) ?_
           <;> refine s_apps 43 48 tEl92_LbV (fun h48 ho48 => ?_) f3 f4
           <;> refine xL 3 q_assign ?_
           <;> refine aL_end (nav ?_) <;> try dsimp only)
         have hcells : [] ++ ((out.map pInts).drop (0 * 1)).take ((k - 0) * 1) ++ [pInts c] ++ ((out.map pInts).drop (k * 1)).take ((out.length - k) * 1) = (out.take k ++ c :: out.drop k).map pInts := by
           simp only [Nat.mul_one, Nat.zero_mul, Nat.sub_zero, List.drop_zero, List.nil_append]
           rw [List.take_of_length_le (show ((out.map pInts).drop k).length ≤ out.length - k by simp)]
           simp
         have hlen : 0 + (k - 0) + 1 + (out.length - k) = (out.take k ++ c :: out.drop k).length := by simp; omega
         (refine aC_region ?_
           <;> refine xL 11 q_move ?_
           <;> refine xL 12 q_add ?_
           <;> refine xL 4 q_assign ?_
           <;> refine aL_end (nav ?_) <;> try dsimp only)
         refine aN_ent (En.freeze (l := 48) (t := 3) rfl rfl) fun _ => ?_
         rw [shr_intss' _ _ _ (out.take k ++ c :: out.drop k) hcells hlen]
         refine aN_again (
           ⟨(i + 1, h48, out.take k ++ c :: out.drop k), by show i + 1 ≤ cs.length; omega, by show (out.take k ++ c :: out.drop k).Perm _; rw [take_snoc hx]; exact (ins_perm out c k).trans (hperm.append_right _), ins_sorted hsort hkp hkn fun x _ y _ h1 h2 => Int.lt_trans h1 h2⟩
           ) (by show cs.length - (i + 1) < cs.length - i; omega) ⟨rfl, rfl, rfl, trivial⟩ trivial)))
  · first
    | exact Bool.noConfusion hb10
    | (
     refine nav ?_
     (refine aC_region ?_
       <;> refine xL 49 q_move ?_
       <;> refine xL 2 q_assign ?_
       <;> refine aL_end (nav ?_) <;> try dsimp only)
     rw [show i = cs.length by omega, List.take_length] at hperm
     exact ret_shr (Tryz.results115) rfl ⟨out, hperm, hsort, rfl⟩)
end Go.Proofs.YtoanjgpdepaciaaGreat
