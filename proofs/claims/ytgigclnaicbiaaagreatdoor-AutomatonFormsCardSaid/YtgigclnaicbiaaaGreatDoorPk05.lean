/-
  Walks: automata: the minimal automaton of a table.
  Walks: automata: the minimal automaton of an automaton.
  Plain laws: what minimal automata are like; complements. No program in sight.
  Walks: automata: Minimal and Complement.
  The engine: quotients; a struct and a value are handed back beside what is owned. No program in sight.
  Walks: the reference's automata: lists of numbers as texts.
  Walks: the reference's automata: the subset automaton. Its final states are handed over.
  Walks: the reference's automata: the classes of a table's states.
  Walks: the reference's automata: the automaton of a table.
  Walks: the reference's automata: the least automaton of a table.
  Plain laws: searches that go alike; the least automaton of a table whose final states are turned. No program in sight.
  Walks: the reference's automata: Minimal and Complement.
  Walks: automata: moves are sorted, each is kept once.
  Plain laws: automata that operations make. No program in sight.
  The engine: four operations that come up together. No program in sight.
  Walks: automata: what an operation made is minimized; Star.
-/
import Derived.Test.YtgigclnaicbiaaaGreatDoorPk04
import Derived.Test.YtgigclnaicbiaaaGreatDoorMShelfF
namespace Go.Proofs.YtgigclnaicbiaaaGreatDoor
open Go.RowKit Go.Cb Go.En
set_option linter.all false
set_option maxRecDepth 100000

theorem tAgg25_LfD : AggT Tryz.prog 25 5 = true := by kernel_rfl
theorem tAgg93_LfD : AggT Tryz.prog 93 3 = true := by kernel_rfl
theorem tEl22_LfD : ElT Tryz.prog 22 3 1 8 (.int .i64 0) := ⟨Tryz.underlying22, by kernel_rfl, rfl, by decide⟩
theorem tEl23_LfD : ElT Tryz.prog 23 72 3 24 (.agg #[(.int .i64 0), (.int .i64 0), (.int .i64 0)]) := ⟨Tryz.underlying23, by kernel_rfl, rfl, by decide⟩
theorem tFl25_0_LfD : FldT Tryz.prog 25 0 0 = true := by kernel_rfl
theorem tFl25_3_LfD : FldT Tryz.prog 25 3 3 = true := by kernel_rfl
theorem tFl25_4_LfD : FldT Tryz.prog 25 4 4 = true := by kernel_rfl
theorem tFl93_0_LfD : FldT Tryz.prog 93 0 0 = true := by kernel_rfl
theorem tFl93_1_LfD : FldT Tryz.prog 93 1 1 = true := by kernel_rfl
theorem tFl93_2_LfD : FldT Tryz.prog 93 2 2 = true := by kernel_rfl
theorem tMp132_LfD : MpT Tryz.prog 132 3 3 (.int .i64) (.int .i64 0) := ⟨Tryz.underlying132, Tryz.underlying3, .inr ⟨_, rfl⟩, by show ZeroT _ _ _; unfold ZeroT; kernel_rfl⟩
theorem tNa22_LfD : NoAgg Tryz.prog 22 = true := by kernel_rfl
theorem tNa23_LfD : NoAgg Tryz.prog 23 = true := by kernel_rfl
theorem tNa28_LfD : NoAgg Tryz.prog 28 = true := by kernel_rfl
theorem tNa3_LfD : NoAgg Tryz.prog 3 = true := by kernel_rfl
theorem tNa4_LfD : NoAgg Tryz.prog 4 = true := by kernel_rfl
theorem tNa66_LfD : NoAgg Tryz.prog 66 = true := by kernel_rfl
theorem tSl22_LfD : SlT Tryz.prog 22 3 1 = true := by kernel_rfl
theorem tSl23_LfD : SlT Tryz.prog 23 72 3 = true := by kernel_rfl
theorem tSl28_LfD : SlT Tryz.prog 28 22 1 = true := by kernel_rfl
theorem tSl66_LfD : SlT Tryz.prog 66 4 1 = true := by kernel_rfl
theorem tSt25_LfD : stInfo Tryz.prog 25 = some ((.agg #[(.int .i64 0), (.int .i64 0), (.slice none 0 0), (.slice none 0 0), (.slice none 0 0)]), ([0, 1, 2, 3, 4] : List Nat).map fun o => (o, 1)) := by kernel_rfl
theorem tSt72_LfD : stInfo Tryz.prog 72 = some ((.agg #[(.int .i64 0), (.int .i64 0), (.int .i64 0)]), ([0, 1, 2] : List Nat).map fun o => (o, 1)) := by kernel_rfl
theorem tSz22_LfD : (Tryz.prog.info? 22).map (·.size) = some 1 := by kernel_rfl
theorem tSz23_LfD : (Tryz.prog.info? 23).map (·.size) = some 1 := by kernel_rfl
theorem tSz3_LfD : (Tryz.prog.info? 3).map (·.size) = some 1 := by kernel_rfl
theorem tZr25_LfD : ZeroT Tryz.prog 25 (.agg #[(.int .i64 0), (.int .i64 0), (.slice none 0 0), (.slice none 0 0), (.slice none 0 0)]) := by unfold ZeroT; kernel_rfl

section
variable {α : Type}
def numAtI (f : α → Int) (o : List α) (x : α) : Nat := if posK f o (f x) < o.length then posK f o (f x) else 0
theorem num_lookI (f : α → Int) (o : List α) (x : α) : (mget (ikv (numE f 0 o)) (.int .i64 (f x))).getD (.int .i64 0) = .int .i64 (numAtI f o x : Nat) ∧ (mget (ikv (numE f 0 o)) (.int .i64 (f x))).isSome = decide (posK f o (f x) < o.length) := by
  rw [mget_ikv, numE_get]
  unfold numAtI
  by_cases h : posK f o (f x) < o.length
  · rw [if_pos h, if_pos h, decide_eq_true h, Nat.zero_add]; exact ⟨rfl, rfl⟩
  · rw [if_neg h, if_neg h, decide_eq_false h]; exact ⟨rfl, rfl⟩
theorem num_putI {f : α → Int} {o : List α} {x : α} (h : ¬ posK f o (f x) < o.length) : mput (ikv (numE f 0 o)) (.int .i64 (f x)) (.int .i64 (o.length : Nat)) = ikv (numE f 0 (o ++ [x])) := by
  have := numE_put f x o 0 h
  rw [Nat.zero_add] at this
  rw [mput_ikv, this]
end
section
variable {α : Type} {P : Program} {sL hP : List (Nat × Ent)} {o : Oper}
theorem q_num2I {t ks e : Nat} {kd : TypeDesc} {z : Value} {x y : Operand} {m : Value} {f : α → Int} {L : List α} {a : α} {p q : PV} (l : Nat) (hT : MpT P t ks e kd z) (hz : z = .int .i64 0) (hkd : kd = .int .i64) (ho : o.op = .lookup t x y true := by exact rfl) (hx : ev sL x = some (m, p) := by exact rfl) (hl : lk hP l = some (m, .omap (ikv (numE f 0 L))) := by exact rfl) (hy : ev sL y = some (.int .i64 (f a), q) := by exact rfl) :
    YE P (⟨sL, hP⟩ : St) o (· = .tuple [.int .i64 (numAtI f L a : Nat), .bool (decide (posK f L (f a) < L.length))].toArray) (.tup [.val (.int .i64 (numAtI f L a : Nat)), .val (.bool (decide (posK f L (f a) < L.length)))]) := by
  subst hz hkd
  have h := q_looko2 (sL := sL) (hP := hP) (o := o) l hT ho hx hl hy (kok_ikv _ _)
  rw [(num_lookI f L a).1, (num_lookI f L a).2] at h
  exact h
end
def clsI (t : Tab) (x : Nat) : Int := (clsT t x : Nat)
theorem clsI_id (t : Tab) (o : List Nat) (x : Nat) : posK (clsI t) o (clsI t x) = posK (clsT t) o (clsT t x) := posK_inj fun y _ => by unfold clsI; omega
theorem listedL_pre {t : Tab} {o o' : List Nat} (h : o <+: o') : ∀ k, k ≤ o.length → listedL k (finAt t o) = listedL k (finAt t o')
  | 0, _ => rfl
  | k + 1, hk => by
    rw [listedL_snoc, listedL_snoc, listedL_pre h k (by omega)]
    obtain ⟨x, hx⟩ := get_some (show k < o.length by omega)
    unfold finAt
    rw [hx, preG_get h hx]
theorem snoc_mv (e : Nat) (L : List Mv) (x : Mv) : PV.own e 3 (L.length + 1) (L.flatMap cMv ++ cMv x) = .own e 3 (L ++ [x]).length ((L ++ [x]).flatMap cMv) := by simp
theorem share_mvl (e n : Nat) (l : List Mv) (hn : n = l.length) : share (.own e 3 n (l.flatMap cMv)) = pMvs l := by
  subst hn
  rw [share, shares_eq, List.map_flatMap]; rfl
theorem own_ints (e : Nat) (L : List Int) (x : Int) : PV.own e 1 (L.length + 1) (L.map pInt ++ [pInt x]) = .own e 1 (L ++ [x]).length ((L ++ [x]).map pInt) := by simp
theorem mv_room {rows : List (List Nat)} {r : List Nat} {n m : Nat} (h : ∀ x ∈ rows, x.length = m) (hm : m ≤ 40) (hn : rows.length ≤ 2000) (hr : r.length ≤ m) : (movesT rows ++ rowMv n r).length ≤ 80040 := by
  rw [List.length_append, movesT_len rows h, rowMv_len]
  have : rows.length * m ≤ 2000 * 40 := Nat.mul_le_mul hn hm
  omega
set_option maxHeartbeats 4000000 in
theorem aMinimal_e (t : Tab) (ht : TOk t) : AF Tryz.prog 72 [pTab t] (· = resW (lim (leastT t))) := by
  have hn1 := ht.n1
  have hfl := ht.fl
  have hm1 := ht.m1
  have hpos := ht.pos
  refine AF.of_body 101 Tryz.func72 rfl Tryz.ntmps72 (Nat.le_of_ble_eq_true rfl) ?_
  intro w0 M0 vs hl hv
  obtain ⟨v0, rfl⟩ := len1 hl
  clear hl hv
  refine nav ?_
  (refine aC_region ?_
    <;> refine s_boxa 1 3 fun h1 => ?_
    <;> refine s_alloc [(.int .i64 0), (.int .i64 0), (.slice none 0 0), (.slice none 0 0), (.slice none 0 0)] 5 2 tZr25_LfD fun h2 => ?_
    <;> refine xL 3 q_assign ?_
    <;> refine aL_end (nav ?_) <;> try dsimp only)
  (refine aC_region ?_
    <;> (refine yL 13 (q_ldao 1 tAgg93_LfD) fun v13 hv13 => ?_; cases hv13)
    <;> (refine cO 14 (cA Tryz.call105 (aClasses_e t ht)) fun v14 ho14 => ?_; refine aL_ent (En.freeze (l := 14) (t := 14) rfl rfl) fun _ => ?_; rw [show share (.own 3 1 t.rows.length (vec t.rows.length fun s => pInt (clsT t s : Nat))) = .sl t.rows.length (vec t.rows.length fun s => pInt (clsT t s : Nat)) by rw [share, shares_eq, vec_map]; rfl])
    <;> refine xL 4 q_assign ?_
    <;> refine aL_end (nav ?_) <;> try dsimp only)
  have e1 := vec_at1 (fun s => pInt (clsT t s : Nat)) hpos
  (refine aC_region ?_
    <;> refine s_mkmap 15 fun h15 ho15 => ?_
    <;> refine xL 16 q_move ?_
    <;> refine xL 17 (q_idxN (i := 0) tSl22_LfD) ?_
    <;> (refine yL 18 (q_ld tNa3_LfD) fun v18 hv18 => ?_; cases hv18)
    <;> (refine s_mins 15 tMp132_LfD ?_; rw [show mput [] (.int .i64 ((clsT t 0 : Nat) : Int)) (.int .i64 0) = ikv (numE (clsI t) 0 [0]) from rfl])
    <;> refine xL 19 q_move ?_
    <;> refine xL 5 q_assign ?_
    <;> refine aL_end (nav ?_) <;> try dsimp only)
  (refine aC_region ?_
    <;> refine s_lit1 (kk := 1) 20 tEl22_LfD fun h20 ho20 => ?_
    <;> refine xL 6 q_assign ?_
    <;> refine aL_end (nav ?_) <;> try dsimp only)
  refine aC_ent (relabel (l := 15) 304 rfl rfl) fun _ => ?_
  refine aC_ent (relabel (l := 20) 303 rfl rfl) fun _ => ?_
  refine aC_ent (recast (l := 303) (p' := .own 3 1 ([0] : List Nat).length ((toI [0]).map pInt)) rfl rfl) fun _ => ?_
  (refine aC_region ?_
    <;> refine xL 21 (q_fldo 1 tFl93_0_LfD) ?_
    <;> (refine yL 22 (q_ldo 1 tNa3_LfD) fun v22 hv22 => ?_; cases hv22)
    <;> (refine s_lit1 (kk := 1) 23 tEl22_LfD fun h23 ho23 => ?_; refine aL_ent (En.freeze (l := 23) (t := 23) rfl rfl) fun _ => ?_; rw [show share (PV.own 3 1 1 [PV.val (.int .i64 0)]) = pInts [0] from rfl])
    <;> refine xL 24 (q_build tSt25_LfD) ?_
    <;> refine s_alloc [(.int .i64 0), (.int .i64 0), (.slice none 0 0), (.slice none 0 0), (.slice none 0 0)] 5 7 tZr25_LfD fun h7 => ?_
    <;> refine s_sta 7 tAgg25_LfD ?_
    <;> refine aL_end (nav ?_) <;> try dsimp only)
  refine aC_ent (nilCells (l := 7) [pInt 0, pInt (t.m : Nat), pInts [0], .own 3 1 0 [], .own 72 3 0 []] rfl rfl (fun i p p' h1 h2 => by
    match i with
    | 0 => cases h1; cases h2; exact .inl rfl
    | 1 => cases h1; cases h2; exact .inl rfl
    | 2 => cases h1; cases h2; exact .inl rfl
    | 3 => cases h1; cases h2; exact .inr ⟨rfl, _, _, rfl⟩
    | 4 => cases h1; cases h2; exact .inr ⟨rfl, _, _, rfl⟩
    | i + 5 => simp at h2)) fun _ => ?_
  refine aC_ent (focusO (l := 7) (l' := 301) (j := 3) rfl rfl rfl rfl) fun i => ?_
  obtain ⟨v301, ho301⟩ := i
  refine aC_ent (focusO (l := 7) (l' := 302) (j := 4) rfl rfl rfl rfl) fun i => ?_
  obtain ⟨v302, ho302⟩ := i
  dsimp only [List.set]
  (refine aC_region ?_
    <;> refine xL 8 q_assign ?_
    <;> refine aL_end (nav ?_) <;> try dsimp only)
  refine aC_loop (ι := { q : Nat × Value × Value × Value × List Nat × List (List Nat) // (minW t).upto 0 q.1 = some (q.2.2.2.2.1, q.2.2.2.2.2) ∧ q.1 ≤ q.2.2.2.2.1.length ∧ q.2.1.oneCell' = true ∧ q.2.2.1.oneCell' = true ∧ q.2.2.2.1.oneCell' = true }) (fun k => ⟨[(1, _, _), (2, _, _), (3, _, _), (4, _, _), (5, _, _), (7, _, _), (6, k.1.2.2.2.1, .val k.1.2.2.2.1), (8, .int .i64 k.1.1, pInt k.1.1)], [(1, _, _), (2, _, _), (7, h7, .own 25 5 1 [pInt 0, pInt (t.m : Nat), pInts [0], .val k.1.2.1, .val k.1.2.2.1]), (301, k.1.2.1, .own 3 1 (listedL k.1.1 (finAt t k.1.2.2.2.2.1)).length ((listedL k.1.1 (finAt t k.1.2.2.2.2.1)).map pInt)), (302, k.1.2.2.1, .own 72 3 (movesT k.1.2.2.2.2.2).length ((movesT k.1.2.2.2.2.2).flatMap cMv)), (303, k.1.2.2.2.1, .own 3 1 k.1.2.2.2.2.1.length ((toI k.1.2.2.2.2.1).map pInt)), (304, h15, .omap (ikv (numE (clsI t) 0 k.1.2.2.2.2.1)))]⟩) (fun k => 2000 - k.1.1) ⟨(0, v301, v302, h20, [0], []), rfl, Nat.zero_le _, ho301, ho302, ho20⟩ (fun a w H => H.weaken ⟨rfl, rfl, rfl, rfl, rfl, rfl, rfl, rfl, trivial⟩ ⟨rfl, rfl, rfl, rfl, rfl, rfl, rfl, trivial⟩) ?_
  rintro ⟨⟨i, hF, hM, hO, o, rows⟩, hU, hi, hFo, hMo, hOo⟩
  dsimp only
  dsimp only at hU hi hFo hMo hOo
  obtain ⟨hOk, hRl, _⟩ := min_ok ht hU
  have hRl := hRl hi
  have hcap : o.length ≤ t.rows.length := hOk.cap
  have hrw := hOk.len
  have htl := toI_len o
  have hll := listedL_len i (finAt t o)
  refine nav ?_
  (refine aC_region ?_
    <;> refine xL 25 q_move ?_
    <;> refine xL 26 q_move ?_
    <;> refine xL 27 (q_leno 303 tSl22_LfD) ?_
    <;> refine xL 28 q_lss ?_
    <;> refine aL_end (nav ?_) <;> try dsimp only)
  first | refine cCd (fun hb28 => ?_) (fun hb28 => ?_) | refine cC (fun hb28 => ?_) (fun hb28 => ?_)
  · first
    | exact Bool.noConfusion hb28
    | (
     obtain ⟨x, hx⟩ := get_some (show i < o.length by omega)
     have hxn : x < t.rows.length := hOk.p x (List.mem_of_getElem? hx)
     have e1 : ((toI o).map pInt)[i * 1]? = some (pInt (x : Nat)) := by rw [Nat.mul_one, List.getElem?_map]; unfold toI; rw [List.getElem?_map, hx]; rfl
     obtain ⟨b, hb⟩ := get_some (show x < t.fin.length by omega)
     have e2 := map_at (f := pBool) hb
     obtain ⟨row, hrow⟩ := get_some hxn
     have e3 := map_at (f := pNats) hrow
     have hrl := ht.rl row (List.mem_of_getElem? hrow)
     have hrt := ht.to row (List.mem_of_getElem? hrow)
     have hrtl := toI_len row
     have hfa : finAt t o i = b := by unfold finAt; rw [hx]; show (t.fin[x]?).getD false = b; rw [hb]; rfl
     have hL1 := listedL_snoc i (finAt t o)
     rw [hfa] at hL1
     refine nav ?_
     (refine aC_draw (fun i => ([] : List Nat).elem i) [1, 303] (by kernel_rfl) ?_
       <;> refine xD 0 31 rfl (q_fldo 1 tFl93_2_LfD) ?_
       <;> (refine yD 1 32 rfl (q_ldo 1 tNa66_LfD) fun v32 hv32 => ?_; cases hv32)
       <;> refine xD 2 33 rfl q_move ?_
       <;> refine xE 3 34 rfl q_move ?_
       <;> refine xE 4 35 rfl (q_idxoN 303 tSl22_LfD) ?_
       <;> (refine yE 5 36 rfl (q_ldo 303 tNa3_LfD) fun v36 hv36 => ?_; cases hv36)
       <;> refine xE 6 37 rfl (q_idxN tSl66_LfD) ?_
       <;> (refine yE 7 38 rfl (q_ld tNa4_LfD) fun v38 hv38 => ?_; cases hv38)
       <;> refine aD_end (by kernel_rfl) (nav ?_)
       <;> try dsimp only)
     first | refine cCd (fun hb38 => ?_) (fun hb38 => ?_) | refine cC (fun hb38 => ?_) (fun hb38 => ?_)
     · first
       | exact Bool.noConfusion hb38
       | (
        rw [if_pos hb38] at hL1
        refine nav ?_
        (refine aC_region ?_
          <;> refine xL 39 (q_fldo 7 tFl25_3_LfD) ?_
          <;> (refine yL 40 (q_ldo 7 tNa22_LfD) fun v40 hv40 => ?_; cases hv40)
          <;> refine xL 41 q_move ?_
          <;> refine s_lit1 (kk := 1) 42 tEl22_LfD fun h42 ho42 => ?_
          <;> (refine s_app 301 42 43 tEl22_LfD fun h43 ho43 => ?_; refine aL_ent (relabel (l := 43) 301 rfl rfl) fun _ => ?_; refine aL_ent (recast (l := 301) rfl (own_ints _ (listedL i (finAt t o)) i)) fun _ => ?_)
          <;> refine xL 44 (q_fldo 7 tFl25_3_LfD) ?_
          <;> refine s_st 7 tNa22_LfD tSz22_LfD ?_
          <;> refine aL_end (nav ?_) <;> try dsimp only)
        (refine aC_draw (fun i => ([] : List Nat).elem i) [1, 303] (by kernel_rfl) ?_
          <;> refine xD 0 45 rfl (q_fldo 1 tFl93_1_LfD) ?_
          <;> (refine yD 1 46 rfl (q_ldo 1 tNa28_LfD) fun v46 hv46 => ?_; cases hv46)
          <;> refine xD 2 47 rfl q_move ?_
          <;> refine xD 3 48 rfl q_move ?_
          <;> refine xD 4 49 rfl (q_idxoN 303 tSl22_LfD) ?_
          <;> (refine yD 5 50 rfl (q_ldo 303 tNa3_LfD) fun v50 hv50 => ?_; cases hv50)
          <;> refine xD 6 51 rfl (q_idxN tSl28_LfD) ?_
          <;> (refine yD 7 52 rfl (q_ld tNa22_LfD) fun v52 hv52 => ?_; cases hv52)
          <;> refine xD 8 53 rfl (q_len tSl22_LfD) ?_
          <;> refine xE 9 54 rfl q_move ?_
          <;> refine aD_end (by kernel_rfl) (nav ?_)
          <;> try dsimp only)
        rw [← hL1]
        rw [show movesT rows = movesT rows ++ rowMv i ([] : List Nat) from (List.append_nil _).symm]
        refine aC_loop (ι := { q : Nat × Value × Value × List Nat × List Nat // (minW t).row i x o q.1 = some (q.2.2.2.1, q.2.2.2.2) ∧ q.1 ≤ t.m ∧ q.2.1.oneCell' = true ∧ q.2.2.1.oneCell' = true }) (fun k => ⟨[(1, _, _), (2, _, _), (3, _, _), (4, _, _), (5, _, _), (7, _, _), (8, _, _), (52, _, _), (53, _, _), (6, k.1.2.2.1, .val k.1.2.2.1), (54, .int .i64 k.1.1, pInt k.1.1)], [(1, _, _), (2, _, _), (301, _, _), (7, h7, .own 25 5 1 [pInt 0, pInt (t.m : Nat), pInts [0], _, .val k.1.2.1]), (302, k.1.2.1, .own 72 3 (movesT rows ++ rowMv i k.1.2.2.2.2).length ((movesT rows ++ rowMv i k.1.2.2.2.2).flatMap cMv)), (303, k.1.2.2.1, .own 3 1 k.1.2.2.2.1.length ((toI k.1.2.2.2.1).map pInt)), (304, h15, .omap (ikv (numE (clsI t) 0 k.1.2.2.2.1)))]⟩) (fun k => t.m - k.1.1) ⟨(0, hM, hO, o, []), rfl, Nat.zero_le _, hMo, hOo⟩ (fun a w H => H.weaken ⟨rfl, rfl, rfl, rfl, rfl, rfl, rfl, rfl, rfl, rfl, rfl, trivial⟩ ⟨rfl, rfl, rfl, rfl, rfl, rfl, rfl, trivial⟩) ?_
        rintro ⟨⟨s, hM', hO', o', r⟩, hW, hs, hM'o, hO'o⟩
        dsimp only
        dsimp only at hW hs hM'o hO'o
        obtain ⟨hMt, hpr, hrl2, _⟩ := hOk.toMet.row (fun s _ => toT_lt ht) (show s ≤ (minW t).m from hs) hW
        have hcap' : o'.length ≤ t.rows.length := hMt.cap
        have htl' := toI_len o'
        have hmr := mv_room (n := i) hrw hm1 (by omega) (show r.length ≤ t.m by omega)
        refine nav ?_
        (refine aC_region ?_
          <;> refine xL 55 q_lss ?_
          <;> refine aL_end (nav ?_) <;> try dsimp only)
        first | refine cCd (fun hb55 => ?_) (fun hb55 => ?_) | refine cC (fun hb55 => ?_) (fun hb55 => ?_)
        · first
          | exact Bool.noConfusion hb55
          | (
           obtain ⟨y, hy⟩ := get_some (show s < row.length by omega)
           have hyn := hrt y (List.mem_of_getElem? hy)
           have e4 : ((toI row).map pInt)[s * 1]? = some (pInt (y : Nat)) := by rw [Nat.mul_one, List.getElem?_map]; unfold toI; rw [List.getElem?_map, hy]; rfl
           have e5 := vec_at1 (fun s => pInt (clsT t s : Nat)) hyn
           have hto : (minW t).step i x s = y := toT_at hrow hy
           have hid := clsI_id t o' y
           refine nav ?_
           (refine aC_region ?_
             <;> refine xL 56 q_move ?_
             <;> refine xL 57 (q_idxN tSl22_LfD) ?_
             <;> (refine yL 58 (q_ld tNa3_LfD) fun v58 hv58 => ?_; cases hv58)
             <;> refine xL 9 q_assign ?_
             <;> refine xL 10 q_assign ?_
             <;> refine aL_end (nav ?_) <;> try dsimp only)
           (refine aC_region ?_
             <;> refine xL 60 q_move ?_
             <;> refine xL 61 q_move ?_
             <;> refine xL 62 q_move ?_
             <;> refine xL 63 (q_idxN tSl22_LfD) ?_
             <;> (refine yL 64 (q_ld tNa3_LfD) fun v64 hv64 => ?_; cases hv64)
             <;> refine xL 65 (q_num2I (f := clsI t) (L := o') (a := y) 304 tMp132_LfD rfl rfl) ?_
             <;> refine xL 59 q_move ?_
             <;> refine xL 66 q_extract ?_
             <;> refine xL 67 q_extract ?_
             <;> refine xL 11 q_assign ?_
             <;> refine xL 12 q_assign ?_
             <;> refine aL_end (nav ?_) <;> try dsimp only)
           (refine aC_region ?_
             <;> refine xL 68 q_move ?_
             <;> refine xL 69 q_not ?_
             <;> refine aL_end (nav ?_) <;> try dsimp only)
           first | refine cCd (fun hb69 => ?_) (fun hb69 => ?_) | refine cC (fun hb69 => ?_) (fun hb69 => ?_)
           · first
             | exact Bool.noConfusion hb69
             | (
              have hnew : ¬ posK (clsI t) o' (clsI t y) < o'.length := by simpa using hb69
              have hnew2 : ¬ posK (minW t).key o' ((minW t).key ((minW t).step i x s)) < o'.length := by
                rw [hto]
                show ¬ posK (clsT t) o' (clsT t y) < o'.length
                rw [← hid]; exact hnew
              have hroom := min_visit ht hMt (show (minW t).step i x s < t.rows.length by rw [hto]; exact hyn) hnew2
              refine nav ?_
              (refine aC_region ?_
                <;> refine xL 70 q_move ?_
                <;> refine xL 71 (q_leno 303 tSl22_LfD) ?_
                <;> refine xL 11 q_assign ?_
                <;> refine aL_end (nav ?_) <;> try dsimp only)
              (refine aC_region ?_
                <;> refine xL 72 q_move ?_
                <;> refine xL 73 q_move ?_
                <;> refine xL 74 q_move ?_
                <;> refine xL 75 (q_idxN tSl22_LfD) ?_
                <;> (refine yL 76 (q_ld tNa3_LfD) fun v76 hv76 => ?_; cases hv76)
                <;> refine xL 77 q_move ?_
                <;> (refine s_mput 304 tMp132_LfD ?_; rw [show mput (ikv (numE (clsI t) 0 o')) (.int .i64 ((clsT t y : Nat) : Int)) (.int .i64 ((o'.length : Nat) : Int)) = ikv (numE (clsI t) 0 (o' ++ [y])) from num_putI hnew])
                <;> refine aL_end (nav ?_) <;> try dsimp only)
              (refine aC_region ?_
                <;> refine xL 78 q_move ?_
                <;> refine xL 79 q_move ?_
                <;> refine s_lit1 (kk := 1) 80 tEl22_LfD fun h80 ho80 => ?_
                <;> (refine s_app 303 80 81 tEl22_LfD fun h81 ho81 => ?_; refine aL_ent (relabel (l := 81) 303 rfl rfl) fun _ => ?_; refine aL_ent (recast (l := 303) rfl (own_nats _ o' y)) fun _ => ?_)
                <;> refine xL 6 q_assign ?_
                <;> refine aL_end (nav ?_) <;> try dsimp only)
              (refine aC_region ?_
                <;> refine xL 82 (q_fldo 7 tFl25_4_LfD) ?_
                <;> (refine yL 83 (q_ldo 7 tNa23_LfD) fun v83 hv83 => ?_; cases hv83)
                <;> refine xL 84 q_move ?_
                <;> refine xL 85 q_move ?_
                <;> refine xL 86 q_move ?_
                <;> refine xL 87 (q_build tSt72_LfD) ?_
                <;> refine s_lit1a 88 tEl23_LfD fun h88 ho88 => ?_
                <;> (refine s_app 302 88 89 tEl23_LfD fun h89 ho89 => ?_; refine aL_ent (relabel (l := 89) 302 rfl rfl) fun _ => ?_; first | refine aL_ent (recast (l := 302) rfl (snoc_mv _ (movesT rows ++ rowMv i r) ⟨(i : Nat), (o'.length : Nat), (s : Nat)⟩)) fun _ => ?_ | refine aL_ent (recast (l := 302) rfl (snoc_mv _ (movesT rows ++ rowMv i r) ⟨(i : Nat), (numAtI (clsI t) o' y : Nat), (s : Nat)⟩)) fun _ => ?_)
                <;> refine xL 90 (q_fldo 7 tFl25_4_LfD) ?_
                <;> refine s_st 7 tNa23_LfD tSz23_LfD ?_
                <;> refine aL_end (nav ?_) <;> try dsimp only)
              (refine aC_region ?_
                <;> refine xL 91 q_add ?_
                <;> refine xL 54 q_move ?_
                <;> refine aL_end (nav ?_) <;> try dsimp only)
              try rw [show (movesT rows ++ rowMv i r) ++ [(⟨(i : Nat), (o'.length : Nat), (s : Nat)⟩ : Mv)] = movesT rows ++ rowMv i (r ++ [o'.length]) by rw [rowMv_snoc, hrl2, List.append_assoc]]
              try rw [show (movesT rows ++ rowMv i r) ++ [(⟨(i : Nat), (numAtI (clsI t) o' y : Nat), (s : Nat)⟩ : Mv)] = movesT rows ++ rowMv i (r ++ [numAtI (clsI t) o' y]) by rw [rowMv_snoc, hrl2, List.append_assoc]]
              first
                | (exact aN_again (
                    ⟨(s + 1, h89, h81, o' ++ [y], r ++ [o'.length]), (by dsimp only; exact (by have h9 := Srch.row_snoc hW (visit_new hnew2 hroom); rwa [hto] at h9)), (by dsimp only; omega), ho89, ho81⟩
                    ) (by dsimp only; omega) ⟨rfl, rfl, rfl, rfl, rfl, rfl, rfl, rfl, rfl, rfl, rfl, trivial⟩ ⟨rfl, rfl, rfl, rfl, rfl, rfl, rfl, trivial⟩)
                | (exact aN_again (
                    ⟨(s + 1, h89, hO', o', r ++ [numAtI (clsI t) o' y]), (by dsimp only; rw [hnum]; exact Srch.row_snoc hW (visit_old hold2)), (by dsimp only; omega), ho89, hO'o⟩
                    ) (by dsimp only; omega) ⟨rfl, rfl, rfl, rfl, rfl, rfl, rfl, rfl, rfl, rfl, rfl, trivial⟩ ⟨rfl, rfl, rfl, rfl, rfl, rfl, rfl, trivial⟩))
           · first
             | exact Bool.noConfusion hb69
             | (
              have hold : posK (clsI t) o' (clsI t y) < o'.length := by simpa using hb69
              have hold2 : posK (minW t).key o' ((minW t).key ((minW t).step i x s)) < o'.length := by
                rw [hto]
                show posK (clsT t) o' (clsT t y) < o'.length
                rw [← hid]; exact hold
              have hnum : numAtI (clsI t) o' y = posK (minW t).key o' ((minW t).key ((minW t).step i x s)) := by
                rw [hto]
                show numAtI (clsI t) o' y = posK (clsT t) o' (clsT t y)
                unfold numAtI
                rw [if_pos hold, hid]
              refine nav ?_
              (refine aC_region ?_
                <;> refine xL 82 (q_fldo 7 tFl25_4_LfD) ?_
                <;> (refine yL 83 (q_ldo 7 tNa23_LfD) fun v83 hv83 => ?_; cases hv83)
                <;> refine xL 84 q_move ?_
                <;> refine xL 85 q_move ?_
                <;> refine xL 86 q_move ?_
                <;> refine xL 87 (q_build tSt72_LfD) ?_
                <;> refine s_lit1a 88 tEl23_LfD fun h88 ho88 => ?_
                <;> (refine s_app 302 88 89 tEl23_LfD fun h89 ho89 => ?_; refine aL_ent (relabel (l := 89) 302 rfl rfl) fun _ => ?_; first | refine aL_ent (recast (l := 302) rfl (snoc_mv _ (movesT rows ++ rowMv i r) ⟨(i : Nat), (o'.length : Nat), (s : Nat)⟩)) fun _ => ?_ | refine aL_ent (recast (l := 302) rfl (snoc_mv _ (movesT rows ++ rowMv i r) ⟨(i : Nat), (numAtI (clsI t) o' y : Nat), (s : Nat)⟩)) fun _ => ?_)
                <;> refine xL 90 (q_fldo 7 tFl25_4_LfD) ?_
                <;> refine s_st 7 tNa23_LfD tSz23_LfD ?_
                <;> refine aL_end (nav ?_) <;> try dsimp only)
              (refine aC_region ?_
                <;> refine xL 91 q_add ?_
                <;> refine xL 54 q_move ?_
                <;> refine aL_end (nav ?_) <;> try dsimp only)
              try rw [show (movesT rows ++ rowMv i r) ++ [(⟨(i : Nat), (o'.length : Nat), (s : Nat)⟩ : Mv)] = movesT rows ++ rowMv i (r ++ [o'.length]) by rw [rowMv_snoc, hrl2, List.append_assoc]]
              try rw [show (movesT rows ++ rowMv i r) ++ [(⟨(i : Nat), (numAtI (clsI t) o' y : Nat), (s : Nat)⟩ : Mv)] = movesT rows ++ rowMv i (r ++ [numAtI (clsI t) o' y]) by rw [rowMv_snoc, hrl2, List.append_assoc]]
              first
                | (exact aN_again (
                    ⟨(s + 1, h89, h81, o' ++ [y], r ++ [o'.length]), (by dsimp only; exact (by have h9 := Srch.row_snoc hW (visit_new hnew2 hroom); rwa [hto] at h9)), (by dsimp only; omega), ho89, ho81⟩
                    ) (by dsimp only; omega) ⟨rfl, rfl, rfl, rfl, rfl, rfl, rfl, rfl, rfl, rfl, rfl, trivial⟩ ⟨rfl, rfl, rfl, rfl, rfl, rfl, rfl, trivial⟩)
                | (exact aN_again (
                    ⟨(s + 1, h89, hO', o', r ++ [numAtI (clsI t) o' y]), (by dsimp only; rw [hnum]; exact Srch.row_snoc hW (visit_old hold2)), (by dsimp only; omega), ho89, hO'o⟩
                    ) (by dsimp only; omega) ⟨rfl, rfl, rfl, rfl, rfl, rfl, rfl, rfl, rfl, rfl, rfl, trivial⟩ ⟨rfl, rfl, rfl, rfl, rfl, rfl, rfl, trivial⟩)))
        · first
          | exact Bool.noConfusion hb55
          | (
           have hsm : s = t.m := by omega
           subst hsm
           have hU2 := Srch.upto_snoc hU hx hW
           rw [show movesT rows ++ rowMv i r = movesT (rows ++ [r]) by rw [movesT_snoc, hRl]]
           rw [listedL_pre hpr (i + 1) (by omega)]
           refine nav ?_
           (refine aC_region ?_
             <;> refine xL 29 q_move ?_
             <;> refine xL 30 q_add ?_
             <;> refine xL 8 q_assign ?_
             <;> refine aL_end (nav ?_) <;> try dsimp only)
           first
             | (exact aN_again (
                 ⟨(i + 1, h43, hM', hO', o', rows ++ [r]), hU2, (by dsimp only; have := hpr.length_le; omega), ho43, hM'o, hO'o⟩
                 ) (by dsimp only; omega) ⟨rfl, rfl, rfl, rfl, rfl, rfl, rfl, rfl, trivial⟩ ⟨rfl, rfl, rfl, rfl, rfl, rfl, rfl, trivial⟩)
             | (exact aN_again (
                 ⟨(i + 1, hF, hM', hO', o', rows ++ [r]), hU2, (by dsimp only; have := hpr.length_le; omega), hFo, hM'o, hO'o⟩
                 ) (by dsimp only; omega) ⟨rfl, rfl, rfl, rfl, rfl, rfl, rfl, rfl, trivial⟩ ⟨rfl, rfl, rfl, rfl, rfl, rfl, rfl, trivial⟩)))
     · first
       | exact Bool.noConfusion hb38
       | (
        rw [if_neg (by simpa using hb38), List.append_nil] at hL1
        refine nav ?_
        (refine aC_draw (fun i => ([] : List Nat).elem i) [1, 303] (by kernel_rfl) ?_
          <;> refine xD 0 45 rfl (q_fldo 1 tFl93_1_LfD) ?_
          <;> (refine yD 1 46 rfl (q_ldo 1 tNa28_LfD) fun v46 hv46 => ?_; cases hv46)
          <;> refine xD 2 47 rfl q_move ?_
          <;> refine xD 3 48 rfl q_move ?_
          <;> refine xD 4 49 rfl (q_idxoN 303 tSl22_LfD) ?_
          <;> (refine yD 5 50 rfl (q_ldo 303 tNa3_LfD) fun v50 hv50 => ?_; cases hv50)
          <;> refine xD 6 51 rfl (q_idxN tSl28_LfD) ?_
          <;> (refine yD 7 52 rfl (q_ld tNa22_LfD) fun v52 hv52 => ?_; cases hv52)
          <;> refine xD 8 53 rfl (q_len tSl22_LfD) ?_
          <;> refine xE 9 54 rfl q_move ?_
          <;> refine aD_end (by kernel_rfl) (nav ?_)
          <;> try dsimp only)
        rw [← hL1]
        rw [show movesT rows = movesT rows ++ rowMv i ([] : List Nat) from (List.append_nil _).symm]
        refine aC_loop (ι := { q : Nat × Value × Value × List Nat × List Nat // (minW t).row i x o q.1 = some (q.2.2.2.1, q.2.2.2.2) ∧ q.1 ≤ t.m ∧ q.2.1.oneCell' = true ∧ q.2.2.1.oneCell' = true }) (fun k => ⟨[(1, _, _), (2, _, _), (3, _, _), (4, _, _), (5, _, _), (7, _, _), (8, _, _), (52, _, _), (53, _, _), (6, k.1.2.2.1, .val k.1.2.2.1), (54, .int .i64 k.1.1, pInt k.1.1)], [(1, _, _), (2, _, _), (301, _, _), (7, h7, .own 25 5 1 [pInt 0, pInt (t.m : Nat), pInts [0], _, .val k.1.2.1]), (302, k.1.2.1, .own 72 3 (movesT rows ++ rowMv i k.1.2.2.2.2).length ((movesT rows ++ rowMv i k.1.2.2.2.2).flatMap cMv)), (303, k.1.2.2.1, .own 3 1 k.1.2.2.2.1.length ((toI k.1.2.2.2.1).map pInt)), (304, h15, .omap (ikv (numE (clsI t) 0 k.1.2.2.2.1)))]⟩) (fun k => t.m - k.1.1) ⟨(0, hM, hO, o, []), rfl, Nat.zero_le _, hMo, hOo⟩ (fun a w H => H.weaken ⟨rfl, rfl, rfl, rfl, rfl, rfl, rfl, rfl, rfl, rfl, rfl, trivial⟩ ⟨rfl, rfl, rfl, rfl, rfl, rfl, rfl, trivial⟩) ?_
        rintro ⟨⟨s, hM', hO', o', r⟩, hW, hs, hM'o, hO'o⟩
        dsimp only
        dsimp only at hW hs hM'o hO'o
        obtain ⟨hMt, hpr, hrl2, _⟩ := hOk.toMet.row (fun s _ => toT_lt ht) (show s ≤ (minW t).m from hs) hW
        have hcap' : o'.length ≤ t.rows.length := hMt.cap
        have htl' := toI_len o'
        have hmr := mv_room (n := i) hrw hm1 (by omega) (show r.length ≤ t.m by omega)
        refine nav ?_
        (refine aC_region ?_
          <;> refine xL 55 q_lss ?_
          <;> refine aL_end (nav ?_) <;> try dsimp only)
        first | refine cCd (fun hb55 => ?_) (fun hb55 => ?_) | refine cC (fun hb55 => ?_) (fun hb55 => ?_)
        · first
          | exact Bool.noConfusion hb55
          | (
           obtain ⟨y, hy⟩ := get_some (show s < row.length by omega)
           have hyn := hrt y (List.mem_of_getElem? hy)
           have e4 : ((toI row).map pInt)[s * 1]? = some (pInt (y : Nat)) := by rw [Nat.mul_one, List.getElem?_map]; unfold toI; rw [List.getElem?_map, hy]; rfl
           have e5 := vec_at1 (fun s => pInt (clsT t s : Nat)) hyn
           have hto : (minW t).step i x s = y := toT_at hrow hy
           have hid := clsI_id t o' y
           refine nav ?_
           (refine aC_region ?_
             <;> refine xL 56 q_move ?_
             <;> refine xL 57 (q_idxN tSl22_LfD) ?_
             <;> (refine yL 58 (q_ld tNa3_LfD) fun v58 hv58 => ?_; cases hv58)
             <;> refine xL 9 q_assign ?_
             <;> refine xL 10 q_assign ?_
             <;> refine aL_end (nav ?_) <;> try dsimp only)
           (refine aC_region ?_
             <;> refine xL 60 q_move ?_
             <;> refine xL 61 q_move ?_
             <;> refine xL 62 q_move ?_
             <;> refine xL 63 (q_idxN tSl22_LfD) ?_
             <;> (refine yL 64 (q_ld tNa3_LfD) fun v64 hv64 => ?_; cases hv64)
             <;> refine xL 65 (q_num2I (f := clsI t) (L := o') (a := y) 304 tMp132_LfD rfl rfl) ?_
             <;> refine xL 59 q_move ?_
             <;> refine xL 66 q_extract ?_
             <;> refine xL 67 q_extract ?_
             <;> refine xL 11 q_assign ?_
             <;> refine xL 12 q_assign ?_
             <;> refine aL_end (nav ?_) <;> try dsimp only)
           (refine aC_region ?_
             <;> refine xL 68 q_move ?_
             <;> refine xL 69 q_not ?_
             <;> refine aL_end (nav ?_) <;> try dsimp only)
           first | refine cCd (fun hb69 => ?_) (fun hb69 => ?_) | refine cC (fun hb69 => ?_) (fun hb69 => ?_)
           · first
             | exact Bool.noConfusion hb69
             | (
              have hnew : ¬ posK (clsI t) o' (clsI t y) < o'.length := by simpa using hb69
              have hnew2 : ¬ posK (minW t).key o' ((minW t).key ((minW t).step i x s)) < o'.length := by
                rw [hto]
                show ¬ posK (clsT t) o' (clsT t y) < o'.length
                rw [← hid]; exact hnew
              have hroom := min_visit ht hMt (show (minW t).step i x s < t.rows.length by rw [hto]; exact hyn) hnew2
              refine nav ?_
              (refine aC_region ?_
                <;> refine xL 70 q_move ?_
                <;> refine xL 71 (q_leno 303 tSl22_LfD) ?_
                <;> refine xL 11 q_assign ?_
                <;> refine aL_end (nav ?_) <;> try dsimp only)
              (refine aC_region ?_
                <;> refine xL 72 q_move ?_
                <;> refine xL 73 q_move ?_
                <;> refine xL 74 q_move ?_
                <;> refine xL 75 (q_idxN tSl22_LfD) ?_
                <;> (refine yL 76 (q_ld tNa3_LfD) fun v76 hv76 => ?_; cases hv76)
                <;> refine xL 77 q_move ?_
                <;> (refine s_mput 304 tMp132_LfD ?_; rw [show mput (ikv (numE (clsI t) 0 o')) (.int .i64 ((clsT t y : Nat) : Int)) (.int .i64 ((o'.length : Nat) : Int)) = ikv (numE (clsI t) 0 (o' ++ [y])) from num_putI hnew])
                <;> refine aL_end (nav ?_) <;> try dsimp only)
              (refine aC_region ?_
                <;> refine xL 78 q_move ?_
                <;> refine xL 79 q_move ?_
                <;> refine s_lit1 (kk := 1) 80 tEl22_LfD fun h80 ho80 => ?_
                <;> (refine s_app 303 80 81 tEl22_LfD fun h81 ho81 => ?_; refine aL_ent (relabel (l := 81) 303 rfl rfl) fun _ => ?_; refine aL_ent (recast (l := 303) rfl (own_nats _ o' y)) fun _ => ?_)
                <;> refine xL 6 q_assign ?_
                <;> refine aL_end (nav ?_) <;> try dsimp only)
              (refine aC_region ?_
                <;> refine xL 82 (q_fldo 7 tFl25_4_LfD) ?_
                <;> (refine yL 83 (q_ldo 7 tNa23_LfD) fun v83 hv83 => ?_; cases hv83)
                <;> refine xL 84 q_move ?_
                <;> refine xL 85 q_move ?_
                <;> refine xL 86 q_move ?_
                <;> refine xL 87 (q_build tSt72_LfD) ?_
                <;> refine s_lit1a 88 tEl23_LfD fun h88 ho88 => ?_
                <;> (refine s_app 302 88 89 tEl23_LfD fun h89 ho89 => ?_; refine aL_ent (relabel (l := 89) 302 rfl rfl) fun _ => ?_; first | refine aL_ent (recast (l := 302) rfl (snoc_mv _ (movesT rows ++ rowMv i r) ⟨(i : Nat), (o'.length : Nat), (s : Nat)⟩)) fun _ => ?_ | refine aL_ent (recast (l := 302) rfl (snoc_mv _ (movesT rows ++ rowMv i r) ⟨(i : Nat), (numAtI (clsI t) o' y : Nat), (s : Nat)⟩)) fun _ => ?_)
                <;> refine xL 90 (q_fldo 7 tFl25_4_LfD) ?_
                <;> refine s_st 7 tNa23_LfD tSz23_LfD ?_
                <;> refine aL_end (nav ?_) <;> try dsimp only)
              (refine aC_region ?_
                <;> refine xL 91 q_add ?_
                <;> refine xL 54 q_move ?_
                <;> refine aL_end (nav ?_) <;> try dsimp only)
              try rw [show (movesT rows ++ rowMv i r) ++ [(⟨(i : Nat), (o'.length : Nat), (s : Nat)⟩ : Mv)] = movesT rows ++ rowMv i (r ++ [o'.length]) by rw [rowMv_snoc, hrl2, List.append_assoc]]
              try rw [show (movesT rows ++ rowMv i r) ++ [(⟨(i : Nat), (numAtI (clsI t) o' y : Nat), (s : Nat)⟩ : Mv)] = movesT rows ++ rowMv i (r ++ [numAtI (clsI t) o' y]) by rw [rowMv_snoc, hrl2, List.append_assoc]]
              first
                | (exact aN_again (
                    ⟨(s + 1, h89, h81, o' ++ [y], r ++ [o'.length]), (by dsimp only; exact (by have h9 := Srch.row_snoc hW (visit_new hnew2 hroom); rwa [hto] at h9)), (by dsimp only; omega), ho89, ho81⟩
                    ) (by dsimp only; omega) ⟨rfl, rfl, rfl, rfl, rfl, rfl, rfl, rfl, rfl, rfl, rfl, trivial⟩ ⟨rfl, rfl, rfl, rfl, rfl, rfl, rfl, trivial⟩)
                | (exact aN_again (
                    ⟨(s + 1, h89, hO', o', r ++ [numAtI (clsI t) o' y]), (by dsimp only; rw [hnum]; exact Srch.row_snoc hW (visit_old hold2)), (by dsimp only; omega), ho89, hO'o⟩
                    ) (by dsimp only; omega) ⟨rfl, rfl, rfl, rfl, rfl, rfl, rfl, rfl, rfl, rfl, rfl, trivial⟩ ⟨rfl, rfl, rfl, rfl, rfl, rfl, rfl, trivial⟩))
           · first
             | exact Bool.noConfusion hb69
             | (
              have hold : posK (clsI t) o' (clsI t y) < o'.length := by simpa using hb69
              have hold2 : posK (minW t).key o' ((minW t).key ((minW t).step i x s)) < o'.length := by
                rw [hto]
                show posK (clsT t) o' (clsT t y) < o'.length
                rw [← hid]; exact hold
              have hnum : numAtI (clsI t) o' y = posK (minW t).key o' ((minW t).key ((minW t).step i x s)) := by
                rw [hto]
                show numAtI (clsI t) o' y = posK (clsT t) o' (clsT t y)
                unfold numAtI
                rw [if_pos hold, hid]
              refine nav ?_
              (refine aC_region ?_
                <;> refine xL 82 (q_fldo 7 tFl25_4_LfD) ?_
                <;> (refine yL 83 (q_ldo 7 tNa23_LfD) fun v83 hv83 => ?_; cases hv83)
                <;> refine xL 84 q_move ?_
                <;> refine xL 85 q_move ?_
                <;> refine xL 86 q_move ?_
                <;> refine xL 87 (q_build tSt72_LfD) ?_
                <;> refine s_lit1a 88 tEl23_LfD fun h88 ho88 => ?_
                <;> (refine s_app 302 88 89 tEl23_LfD fun h89 ho89 => ?_; refine aL_ent (relabel (l := 89) 302 rfl rfl) fun _ => ?_; first | refine aL_ent (recast (l := 302) rfl (snoc_mv _ (movesT rows ++ rowMv i r) ⟨(i : Nat), (o'.length : Nat), (s : Nat)⟩)) fun _ => ?_ | refine aL_ent (recast (l := 302) rfl (snoc_mv _ (movesT rows ++ rowMv i r) ⟨(i : Nat), (numAtI (clsI t) o' y : Nat), (s : Nat)⟩)) fun _ => ?_)
                <;> refine xL 90 (q_fldo 7 tFl25_4_LfD) ?_
                <;> refine s_st 7 tNa23_LfD tSz23_LfD ?_
                <;> refine aL_end (nav ?_) <;> try dsimp only)
              (refine aC_region ?_
                <;> refine xL 91 q_add ?_
                <;> refine xL 54 q_move ?_
                <;> refine aL_end (nav ?_) <;> try dsimp only)
              try rw [show (movesT rows ++ rowMv i r) ++ [(⟨(i : Nat), (o'.length : Nat), (s : Nat)⟩ : Mv)] = movesT rows ++ rowMv i (r ++ [o'.length]) by rw [rowMv_snoc, hrl2, List.append_assoc]]
              try rw [show (movesT rows ++ rowMv i r) ++ [(⟨(i : Nat), (numAtI (clsI t) o' y : Nat), (s : Nat)⟩ : Mv)] = movesT rows ++ rowMv i (r ++ [numAtI (clsI t) o' y]) by rw [rowMv_snoc, hrl2, List.append_assoc]]
              first
                | (exact aN_again (
                    ⟨(s + 1, h89, h81, o' ++ [y], r ++ [o'.length]), (by dsimp only; exact (by have h9 := Srch.row_snoc hW (visit_new hnew2 hroom); rwa [hto] at h9)), (by dsimp only; omega), ho89, ho81⟩
                    ) (by dsimp only; omega) ⟨rfl, rfl, rfl, rfl, rfl, rfl, rfl, rfl, rfl, rfl, rfl, trivial⟩ ⟨rfl, rfl, rfl, rfl, rfl, rfl, rfl, trivial⟩)
                | (exact aN_again (
                    ⟨(s + 1, h89, hO', o', r ++ [numAtI (clsI t) o' y]), (by dsimp only; rw [hnum]; exact Srch.row_snoc hW (visit_old hold2)), (by dsimp only; omega), ho89, hO'o⟩
                    ) (by dsimp only; omega) ⟨rfl, rfl, rfl, rfl, rfl, rfl, rfl, rfl, rfl, rfl, rfl, trivial⟩ ⟨rfl, rfl, rfl, rfl, rfl, rfl, rfl, trivial⟩)))
        · first
          | exact Bool.noConfusion hb55
          | (
           have hsm : s = t.m := by omega
           subst hsm
           have hU2 := Srch.upto_snoc hU hx hW
           rw [show movesT rows ++ rowMv i r = movesT (rows ++ [r]) by rw [movesT_snoc, hRl]]
           rw [listedL_pre hpr (i + 1) (by omega)]
           refine nav ?_
           (refine aC_region ?_
             <;> refine xL 29 q_move ?_
             <;> refine xL 30 q_add ?_
             <;> refine xL 8 q_assign ?_
             <;> refine aL_end (nav ?_) <;> try dsimp only)
           first
             | (exact aN_again (
                 ⟨(i + 1, h43, hM', hO', o', rows ++ [r]), hU2, (by dsimp only; have := hpr.length_le; omega), ho43, hM'o, hO'o⟩
                 ) (by dsimp only; omega) ⟨rfl, rfl, rfl, rfl, rfl, rfl, rfl, rfl, trivial⟩ ⟨rfl, rfl, rfl, rfl, rfl, rfl, rfl, trivial⟩)
             | (exact aN_again (
                 ⟨(i + 1, hF, hM', hO', o', rows ++ [r]), hU2, (by dsimp only; have := hpr.length_le; omega), hFo, hM'o, hO'o⟩
                 ) (by dsimp only; omega) ⟨rfl, rfl, rfl, rfl, rfl, rfl, rfl, rfl, trivial⟩ ⟨rfl, rfl, rfl, rfl, rfl, rfl, rfl, trivial⟩))))
  · first
    | exact Bool.noConfusion hb28
    | (
     have hio : i = o.length := by omega
     subst hio
     have hA := Srch.all_some hU (Nat.le_refl _) (show o.length ≤ (minW t).cap from hcap)
     refine nav ?_
     (refine aC_region ?_
       <;> refine xL 92 q_move ?_
       <;> refine xL 93 (q_leno 303 tSl22_LfD) ?_
       <;> refine xL 94 (q_fldo 7 tFl25_0_LfD) ?_
       <;> refine s_st 7 tNa3_LfD tSz3_LfD ?_
       <;> refine aL_end (nav ?_) <;> try dsimp only)
     (refine aC_region ?_
       <;> refine xL 95 (q_fldo 7 tFl25_4_LfD) ?_
       <;> (refine yL 96 (q_ldo 7 tNa23_LfD) fun v96 hv96 => ?_; cases hv96)
       <;> refine xL 97 (q_leno 302 tSl23_LfD) ?_
       <;> refine xL 98 q_gtr ?_
       <;> refine aL_end (nav ?_) <;> try dsimp only)
     first | refine cCd (fun hb98 => ?_) (fun hb98 => ?_) | refine cC (fun hb98 => ?_) (fun hb98 => ?_)
     · first
       | exact Bool.noConfusion hb98
       | (
        refine nav ?_
        (refine aC_region ?_
          <;> refine xL 99 (q_build tSt25_LfD) ?_
          <;> refine s_sta 2 tAgg25_LfD ?_
          <;> refine xL 3 q_assign ?_
          <;> refine aL_end (nav ?_) <;> try dsimp only)
        refine ret_cs (k := 5) 2 (by kernel_rfl) (Tryz.results72) rfl rfl rfl (Nat.le_of_ble_eq_true rfl) (by decide) rfl ?_
        unfold leastT
        rw [hA, Option.bind_some, if_pos (by dsimp only; omega)]; rfl)
     · first
       | exact Bool.noConfusion hb98
       | (
        refine nav ?_
        refine aC_ent (freezeCell (l := 7) (l' := 301) (j := 3) rfl rfl rfl rfl) fun _ => ?_
        refine aC_ent (freezeCell (l := 7) (l' := 302) (j := 4) rfl rfl rfl rfl) fun _ => ?_
        rw [share_ints _ _ _ rfl, share_mvl _ _ _ rfl]
        (refine aC_region ?_
          <;> (refine yL 100 (q_ldao 7 tAgg25_LfD) fun v100 hv100 => ?_; cases hv100)
          <;> refine s_sta 2 tAgg25_LfD ?_
          <;> refine xL 3 q_assign ?_
          <;> refine aL_end (nav ?_) <;> try dsimp only)
        refine ret_cs (k := 5) 2 (by kernel_rfl) (Tryz.results72) rfl rfl rfl (Nat.le_of_ble_eq_true rfl) (by decide) rfl ?_
        unfold leastT
        rw [hA, Option.bind_some, if_neg (by dsimp only; omega)]; rfl))
end Go.Proofs.YtgigclnaicbiaaaGreatDoor

namespace Go.Proofs.YtgigclnaicbiaaaGreatDoor
open Go.RowKit Go.Cb Go.En
set_option linter.all false
set_option maxRecDepth 100000

theorem tAgg25_LfE : AggT Tryz.prog 25 5 = true := by kernel_rfl
theorem tAgg93_LfE : AggT Tryz.prog 93 3 = true := by kernel_rfl
theorem tFl25_0_LfE : FldT Tryz.prog 25 0 0 = true := by kernel_rfl
theorem tFl25_4_LfE : FldT Tryz.prog 25 4 4 = true := by kernel_rfl
theorem tNa23_LfE : NoAgg Tryz.prog 23 = true := by kernel_rfl
theorem tNa3_LfE : NoAgg Tryz.prog 3 = true := by kernel_rfl
theorem tSl23_LfE : SlT Tryz.prog 23 72 3 = true := by kernel_rfl
theorem tSt25_LfE : stInfo Tryz.prog 25 = some ((.agg #[(.int .i64 0), (.int .i64 0), (.slice none 0 0), (.slice none 0 0), (.slice none 0 0)]), ([0, 1, 2, 3, 4] : List Nat).map fun o => (o, 1)) := by kernel_rfl
theorem tZr25_LfE : ZeroT Tryz.prog 25 (.agg #[(.int .i64 0), (.int .i64 0), (.slice none 0 0), (.slice none 0 0), (.slice none 0 0)]) := by unfold ZeroT; kernel_rfl
theorem tZr93_LfE : ZeroT Tryz.prog 93 (.agg #[(.int .i64 0), (.slice none 0 0), (.slice none 0 0)]) := by unfold ZeroT; kernel_rfl

theorem redL_big {a : Aut} (h : 2000 < a.n ∨ 20000 < a.moves.length) : redL a = .error 13 := by unfold redL; rw [if_pos h]
theorem redL_in {a : Aut} (h : ¬ (2000 < a.n ∨ 20000 < a.moves.length)) : redL a = redX a := by unfold redL; rw [if_neg h]
theorem lim_cases (x : Option Aut) : (∃ A, x = some A ∧ resW (lim x) = .tup [pAut A, pInt 0]) ∨ (x = none ∧ resW (lim x) = .tup [rawZ, pInt 13]) := by
  cases x with
  | none => exact .inr ⟨rfl, rfl⟩
  | some A => exact .inl ⟨A, rfl, rfl⟩
theorem res_cases (x : Except Int Aut) : (∃ A, x = .ok A ∧ resW x = .tup [pAut A, pInt 0]) ∨ (∃ e, x = .error e ∧ resW x = .tup [rawZ, pInt e]) := by
  cases x with
  | error e => exact .inr ⟨e, rfl, rfl⟩
  | ok A => exact .inl ⟨A, rfl, rfl⟩
theorem redX_some {a : Aut} {t : Tab} (h : subT a = some t) : redX a = lim (leastT t) := by unfold redX; rw [h]
theorem redX_none {a : Aut} (h : subT a = none) : redX a = .error 13 := by unfold redX; rw [h]
theorem aReduced_big (a : Aut) (hl : a.moves.length ≤ 1000000) (hb : 2000 < a.n ∨ 20000 < a.moves.length) : AF Tryz.prog 83 [pAut a] (· = .tup [rawZ, pInt 13]) := by
  refine AF.of_body 28 Tryz.func83 rfl Tryz.ntmps83 (Nat.le_of_ble_eq_true rfl) ?_
  intro w0 M0 vs hl hv
  obtain ⟨v0, rfl⟩ := len1 hl
  clear hl hv
  refine nav ?_
  (refine aC_region ?_
    <;> refine s_boxa 1 5 fun h1 => ?_
    <;> refine s_alloc [(.int .i64 0), (.int .i64 0), (.slice none 0 0), (.slice none 0 0), (.slice none 0 0)] 5 2 tZr25_LfE fun h2 => ?_
    <;> refine xL 3 q_assign ?_
    <;> refine aL_end (nav ?_) <;> try dsimp only)
  (refine aC_region ?_
    <;> refine xL 6 (q_fldo 1 tFl25_0_LfE) ?_
    <;> (refine yL 7 (q_ldo 1 tNa3_LfE) fun v7 hv7 => ?_; cases hv7)
    <;> refine xL 8 q_gtr ?_
    <;> refine xL 9 q_move ?_
    <;> (refine bLd 9 (fun hb9 => ?_) (fun hb9 => ?_) <;> (first | refine kL 10 ?_ | refine xL 10 (q_fldo 1 tFl25_4_LfE) ?_))
    <;> (first | refine kL 11 ?_ | (refine yL 11 (q_ldo 1 tNa23_LfE) fun v11 hv11 => ?_; cases hv11))
    <;> (first | refine kL 12 ?_ | refine xL 12 (q_len tSl23_LfE) ?_)
    <;> (first | refine kL 13 ?_ | refine xL 13 q_gtr ?_)
    <;> refine xL 14 q_pick ?_
    <;> refine aL_end (nav ?_) <;> try dsimp only) <;> (
   first | refine cCd (fun hb14 => ?_) (fun hb14 => ?_) | refine cC (fun hb14 => ?_) (fun hb14 => ?_)
   · refine nav ?_
     (refine aC_region ?_
       <;> refine xL 15 (q_build tSt25_LfE) ?_
       <;> refine s_sta 2 tAgg25_LfE ?_
       <;> refine xL 3 q_assign ?_
       <;> refine aL_end (nav ?_) <;> try dsimp only)
     exact ret_cs (k := 5) 2 (by kernel_rfl) (Tryz.results83) rfl rfl rfl (Nat.le_of_ble_eq_true rfl) (by decide) rfl rfl
   · exfalso
     first
       | omega
       | (simp at hb14; done)
       | (simp at hb14; omega))
theorem aReduced_none (a : Aut) (h : AOk a) (hs : subT a = none) : AF Tryz.prog 83 [pAut a] (· = .tup [rawZ, pInt 13]) := by
  have hn1 := h.n1
  have hml := h.ml
  have hS : AF Tryz.prog 114 [pAut a] (fun p => ∃ i : { i : Value × Value × Value // i.1.oneCell' = true ∧ i.2.1.oneCell' = true ∧ i.2.2.oneCell' = true }, p = .tup [.agg [.val i.1.1, .val i.1.2.1, .val i.1.2.2], pBool false]) := (aSubsets_e a h).mono fun p hp => by
    rcases hp with ⟨t, h1, _⟩ | ⟨_, u1, u2, u3, o1, o2, o3, h2⟩
    · rw [hs] at h1; cases h1
    · exact ⟨⟨(u1, u2, u3), o1, o2, o3⟩, h2⟩
  refine AF.of_body 28 Tryz.func83 rfl Tryz.ntmps83 (Nat.le_of_ble_eq_true rfl) ?_
  intro w0 M0 vs hl hv
  obtain ⟨v0, rfl⟩ := len1 hl
  clear hl hv
  refine nav ?_
  (refine aC_region ?_
    <;> refine s_boxa 1 5 fun h1 => ?_
    <;> refine s_alloc [(.int .i64 0), (.int .i64 0), (.slice none 0 0), (.slice none 0 0), (.slice none 0 0)] 5 2 tZr25_LfE fun h2 => ?_
    <;> refine xL 3 q_assign ?_
    <;> refine aL_end (nav ?_) <;> try dsimp only)
  (refine aC_region ?_
    <;> refine xL 6 (q_fldo 1 tFl25_0_LfE) ?_
    <;> (refine yL 7 (q_ldo 1 tNa3_LfE) fun v7 hv7 => ?_; cases hv7)
    <;> refine xL 8 q_gtr ?_
    <;> refine xL 9 q_move ?_
    <;> (refine bLd 9 (fun hb9 => ?_) (fun hb9 => ?_) <;> (first | refine kL 10 ?_ | refine xL 10 (q_fldo 1 tFl25_4_LfE) ?_))
    <;> (first | refine kL 11 ?_ | (refine yL 11 (q_ldo 1 tNa23_LfE) fun v11 hv11 => ?_; cases hv11))
    <;> (first | refine kL 12 ?_ | refine xL 12 (q_len tSl23_LfE) ?_)
    <;> (first | refine kL 13 ?_ | refine xL 13 q_gtr ?_)
    <;> refine xL 14 q_pick ?_
    <;> refine aL_end (nav ?_) <;> try dsimp only) <;> (
   first | refine cCd (fun hb14 => ?_) (fun hb14 => ?_) | refine cC (fun hb14 => ?_) (fun hb14 => ?_)
   · exfalso
     first
       | omega
       | (simp at hb14; done)
       | (simp at hb14; omega)
   · refine nav ?_
     (refine aC_region ?_
       <;> (refine yL 17 (q_ldao 1 tAgg25_LfE) fun v17 hv17 => ?_; cases hv17)
       <;> (refine cPx 18 (cA Tryz.call114 hS) (fun i va18 vb18 hva18 hvb18 => ?_) (fun _ => rfl); cases hvb18; obtain ⟨⟨u1, u2, u3⟩, o1, o2, o3⟩ := i; dsimp only at o1 o2 o3 hva18 ⊢; have q1 : En.one (PV.val u1) = true := o1; have q2 : En.one (PV.val u2) = true := o2; have q3 : En.one (PV.val u3) = true := o3)
       <;> refine xL 16 q_move ?_
       <;> refine xL 19 q_extract ?_
       <;> refine xL 20 q_extract ?_
       <;> refine s_alloc [(.int .i64 0), (.slice none 0 0), (.slice none 0 0)] 3 4 tZr93_LfE fun h4 => ?_
       <;> refine s_sta 4 tAgg93_LfE ?_
       <;> refine xL 5 q_assign ?_
       <;> refine aL_end (nav ?_) <;> try dsimp only)
     (refine aC_region ?_
       <;> refine xL 21 q_move ?_
       <;> refine xL 22 q_not ?_
       <;> refine aL_end (nav ?_) <;> try dsimp only)
     refine cCt ?_
     refine nav ?_
     (refine aC_region ?_
       <;> refine xL 23 (q_build tSt25_LfE) ?_
       <;> refine s_sta 2 tAgg25_LfE ?_
       <;> refine xL 3 q_assign ?_
       <;> refine aL_end (nav ?_) <;> try dsimp only)
     exact ret_cs (k := 5) 2 (by kernel_rfl) (Tryz.results83) rfl rfl rfl (Nat.le_of_ble_eq_true rfl) (by decide) rfl rfl)
theorem aReduced_ok (a : Aut) (h : AOk a) {t : Tab} (hs : subT a = some t) {A : Aut} (hm : AF Tryz.prog 72 [pTab t] (· = .tup [pAut A, pInt 0])) : AF Tryz.prog 83 [pAut a] (· = .tup [pAut A, pInt 0]) := by
  have hn1 := h.n1
  have hml := h.ml
  have hS : AF Tryz.prog 114 [pAut a] (· = .tup [pTab t, pBool true]) := (aSubsets_e a h).mono fun p hp => by
    rcases hp with ⟨t', h1, h2⟩ | ⟨h1, _⟩
    · rw [hs] at h1; cases h1; exact h2
    · rw [hs] at h1; cases h1
  refine AF.of_body 28 Tryz.func83 rfl Tryz.ntmps83 (Nat.le_of_ble_eq_true rfl) ?_
  intro w0 M0 vs hl hv
  obtain ⟨v0, rfl⟩ := len1 hl
  clear hl hv
  refine nav ?_
  (refine aC_region ?_
    <;> refine s_boxa 1 5 fun h1 => ?_
    <;> refine s_alloc [(.int .i64 0), (.int .i64 0), (.slice none 0 0), (.slice none 0 0), (.slice none 0 0)] 5 2 tZr25_LfE fun h2 => ?_
    <;> refine xL 3 q_assign ?_
    <;> refine aL_end (nav ?_) <;> try dsimp only)
  (refine aC_region ?_
    <;> refine xL 6 (q_fldo 1 tFl25_0_LfE) ?_
    <;> (refine yL 7 (q_ldo 1 tNa3_LfE) fun v7 hv7 => ?_; cases hv7)
    <;> refine xL 8 q_gtr ?_
    <;> refine xL 9 q_move ?_
    <;> (refine bLd 9 (fun hb9 => ?_) (fun hb9 => ?_) <;> (first | refine kL 10 ?_ | refine xL 10 (q_fldo 1 tFl25_4_LfE) ?_))
    <;> (first | refine kL 11 ?_ | (refine yL 11 (q_ldo 1 tNa23_LfE) fun v11 hv11 => ?_; cases hv11))
    <;> (first | refine kL 12 ?_ | refine xL 12 (q_len tSl23_LfE) ?_)
    <;> (first | refine kL 13 ?_ | refine xL 13 q_gtr ?_)
    <;> refine xL 14 q_pick ?_
    <;> refine aL_end (nav ?_) <;> try dsimp only) <;> (
   first | refine cCd (fun hb14 => ?_) (fun hb14 => ?_) | refine cC (fun hb14 => ?_) (fun hb14 => ?_)
   · exfalso
     first
       | omega
       | (simp at hb14; done)
       | (simp at hb14; omega)
   · refine nav ?_
     (refine aC_region ?_
       <;> (refine yL 17 (q_ldao 1 tAgg25_LfE) fun v17 hv17 => ?_; cases hv17)
       <;> (refine cP 18 (cA Tryz.call114 (hS)) fun va18 vb18 hva18 hvb18 => ?_; cases hvb18)
       <;> refine xL 16 q_move ?_
       <;> refine xL 19 q_extract ?_
       <;> refine xL 20 q_extract ?_
       <;> refine s_alloc [(.int .i64 0), (.slice none 0 0), (.slice none 0 0)] 3 4 tZr93_LfE fun h4 => ?_
       <;> refine s_sta 4 tAgg93_LfE ?_
       <;> refine xL 5 q_assign ?_
       <;> refine aL_end (nav ?_) <;> try dsimp only)
     (refine aC_region ?_
       <;> refine xL 21 q_move ?_
       <;> refine xL 22 q_not ?_
       <;> refine aL_end (nav ?_) <;> try dsimp only)
     refine cCf ?_
     refine nav ?_
     (refine aC_region ?_
       <;> (refine yL 24 (q_ldao 4 tAgg93_LfE) fun v24 hv24 => ?_; cases hv24)
       <;> (refine cP 25 (cA Tryz.call72 (hm)) fun va25 vb25 hva25 hvb25 => ?_; cases hvb25)
       <;> refine xL 26 q_extract ?_
       <;> refine xL 27 q_extract ?_
       <;> refine s_sta 2 tAgg25_LfE ?_
       <;> refine xL 3 q_assign ?_
       <;> refine aL_end (nav ?_) <;> try dsimp only)
     exact ret_cs (k := 5) 2 (by kernel_rfl) (Tryz.results83) rfl rfl rfl (Nat.le_of_ble_eq_true rfl) (by decide) rfl rfl)
theorem aReduced_lim (a : Aut) (h : AOk a) {t : Tab} (hs : subT a = some t) (hm : AF Tryz.prog 72 [pTab t] (· = .tup [rawZ, pInt 13])) : AF Tryz.prog 83 [pAut a] (· = .tup [rawZ, pInt 13]) := by
  have hn1 := h.n1
  have hml := h.ml
  have hS : AF Tryz.prog 114 [pAut a] (· = .tup [pTab t, pBool true]) := (aSubsets_e a h).mono fun p hp => by
    rcases hp with ⟨t', h1, h2⟩ | ⟨h1, _⟩
    · rw [hs] at h1; cases h1; exact h2
    · rw [hs] at h1; cases h1
  refine AF.of_body 28 Tryz.func83 rfl Tryz.ntmps83 (Nat.le_of_ble_eq_true rfl) ?_
  intro w0 M0 vs hl hv
  obtain ⟨v0, rfl⟩ := len1 hl
  clear hl hv
  refine nav ?_
  (refine aC_region ?_
    <;> refine s_boxa 1 5 fun h1 => ?_
    <;> refine s_alloc [(.int .i64 0), (.int .i64 0), (.slice none 0 0), (.slice none 0 0), (.slice none 0 0)] 5 2 tZr25_LfE fun h2 => ?_
    <;> refine xL 3 q_assign ?_
    <;> refine aL_end (nav ?_) <;> try dsimp only)
  (refine aC_region ?_
    <;> refine xL 6 (q_fldo 1 tFl25_0_LfE) ?_
    <;> (refine yL 7 (q_ldo 1 tNa3_LfE) fun v7 hv7 => ?_; cases hv7)
    <;> refine xL 8 q_gtr ?_
    <;> refine xL 9 q_move ?_
    <;> (refine bLd 9 (fun hb9 => ?_) (fun hb9 => ?_) <;> (first | refine kL 10 ?_ | refine xL 10 (q_fldo 1 tFl25_4_LfE) ?_))
    <;> (first | refine kL 11 ?_ | (refine yL 11 (q_ldo 1 tNa23_LfE) fun v11 hv11 => ?_; cases hv11))
    <;> (first | refine kL 12 ?_ | refine xL 12 (q_len tSl23_LfE) ?_)
    <;> (first | refine kL 13 ?_ | refine xL 13 q_gtr ?_)
    <;> refine xL 14 q_pick ?_
    <;> refine aL_end (nav ?_) <;> try dsimp only) <;> (
   first | refine cCd (fun hb14 => ?_) (fun hb14 => ?_) | refine cC (fun hb14 => ?_) (fun hb14 => ?_)
   · exfalso
     first
       | omega
       | (simp at hb14; done)
       | (simp at hb14; omega)
   · refine nav ?_
     (refine aC_region ?_
       <;> (refine yL 17 (q_ldao 1 tAgg25_LfE) fun v17 hv17 => ?_; cases hv17)
       <;> (refine cP 18 (cA Tryz.call114 (hS)) fun va18 vb18 hva18 hvb18 => ?_; cases hvb18)
       <;> refine xL 16 q_move ?_
       <;> refine xL 19 q_extract ?_
       <;> refine xL 20 q_extract ?_
       <;> refine s_alloc [(.int .i64 0), (.slice none 0 0), (.slice none 0 0)] 3 4 tZr93_LfE fun h4 => ?_
       <;> refine s_sta 4 tAgg93_LfE ?_
       <;> refine xL 5 q_assign ?_
       <;> refine aL_end (nav ?_) <;> try dsimp only)
     (refine aC_region ?_
       <;> refine xL 21 q_move ?_
       <;> refine xL 22 q_not ?_
       <;> refine aL_end (nav ?_) <;> try dsimp only)
     refine cCf ?_
     refine nav ?_
     (refine aC_region ?_
       <;> (refine yL 24 (q_ldao 4 tAgg93_LfE) fun v24 hv24 => ?_; cases hv24)
       <;> (refine cP 25 (cA Tryz.call72 (hm)) fun va25 vb25 hva25 hvb25 => ?_; cases hvb25)
       <;> refine xL 26 q_extract ?_
       <;> refine xL 27 q_extract ?_
       <;> refine s_sta 2 tAgg25_LfE ?_
       <;> refine xL 3 q_assign ?_
       <;> refine aL_end (nav ?_) <;> try dsimp only)
     exact ret_cs (k := 5) 2 (by kernel_rfl) (Tryz.results83) rfl rfl rfl (Nat.le_of_ble_eq_true rfl) (by decide) rfl rfl)
theorem aReduced_x (a : Aut) (h : AOk a) : AF Tryz.prog 83 [pAut a] (· = resW (redX a)) := by
  rcases hs : subT a with _ | t
  · rw [redX_none hs]; exact aReduced_none a h hs
  · have hm := aMinimal_e t (sub_tok h hs)
    rw [redX_some hs]
    rcases lim_cases (leastT t) with ⟨A, _, h2⟩ | ⟨_, h2⟩
    · rw [h2] at hm ⊢; exact aReduced_ok a h hs hm
    · rw [h2] at hm ⊢; exact aReduced_lim a h hs hm
theorem aReduced_e (a : Aut) (hl : a.moves.length ≤ 1000000) (h : ¬ (2000 < a.n ∨ 20000 < a.moves.length) → AOk a) : AF Tryz.prog 83 [pAut a] (· = resW (redL a)) := by
  by_cases hb : 2000 < a.n ∨ 20000 < a.moves.length
  · rw [redL_big hb]; exact aReduced_big a hl hb
  · rw [redL_in hb]; exact aReduced_x a (h hb)
end Go.Proofs.YtgigclnaicbiaaaGreatDoor

namespace Go.Proofs.YtgigclnaicbiaaaGreatDoor
open Go.RowKit Go.Cb Go.En
set_option linter.all false

theorem leastT_some {t : Tab} {A : Aut} (h : leastT t = some A) : ∃ o rows, (minW t).all 0 = some (o, rows) ∧ A = autQ t (o, rows) ∧ (movesT rows).length ≤ 20000 := by
  unfold leastT at h
  obtain ⟨⟨o, rows⟩, h1, h2⟩ := Option.bind_eq_some_iff.1 h
  dsimp only at h2
  split at h2
  · cases h2
  · cases h2
    exact ⟨o, rows, h1, rfl, by omega⟩
structure Fin (t : Tab) (o : List Nat) (rows : List (List Nat)) : Prop where
  ok : (minW t).Ok (· < t.rows.length) 0 o rows
  len : rows.length = o.length
  n1 : o.length ≤ 2000
  pos : 0 < o.length
theorem fin_of {t : Tab} (h : TOk t) {o : List Nat} {rows : List (List Nat)} (hu : (minW t).all 0 = some (o, rows)) : Fin t o rows := by
  obtain ⟨h1, _, h3⟩ := min_ok h hu
  have hc : o.length ≤ t.rows.length := h1.cap
  have := h.n1
  exact ⟨h1, h3 hc, by omega, h1.pos⟩
theorem mem_rowMv {i : Nat} {r : List Nat} {m : Mv} (h : m ∈ rowMv i r) : ∃ n s : Nat, r[s]? = some n ∧ m = ⟨(i : Nat), (n : Nat), (s : Nat)⟩ := by
  unfold rowMv at h
  obtain ⟨p, hp, rfl⟩ := List.mem_map.1 h
  exact ⟨p.1, p.2, by have := List.mem_zipIdx_iff_getElem?.1 hp; exact this, rfl⟩
theorem mem_movesT {rows : List (List Nat)} {m : Mv} (h : m ∈ movesT rows) : ∃ (i s n : Nat) (r : List Nat), rows[i]? = some r ∧ r[s]? = some n ∧ m = ⟨(i : Nat), (n : Nat), (s : Nat)⟩ := by
  unfold movesT at h
  obtain ⟨p, hp, hm⟩ := List.mem_flatMap.1 h
  obtain ⟨n, s, h1, h2⟩ := mem_rowMv hm
  exact ⟨p.2, s, n, p.1, List.mem_zipIdx_iff_getElem?.1 hp, h1, h2⟩
theorem autQ_aok {t : Tab} (ht : TOk t) {o : List Nat} {rows : List (List Nat)} (h : Fin t o rows) (hm : (movesT rows).length ≤ 20000) : AOk (autQ t (o, rows)) := by
  have hp := h.pos
  have hn := h.n1
  have hm1 := ht.m1
  have hll := listedL_len o.length (finAt t o)
  refine ⟨by show (0 : Int) ≤ (o.length : Nat); omega, by show ((o.length : Nat) : Int) ≤ 2000; omega, by show (0 : Int) ≤ (t.m : Nat); omega, by show ((t.m : Nat) : Int) ≤ 40; omega, hm, fun s hs => ?_, fun s hs => ?_, by show [(0 : Int)].length ≤ 2000; simp, by show (listedL o.length (finAt t o)).length ≤ 2000; omega, fun m hmm => ?_⟩
  · rw [show s = 0 from List.mem_singleton.1 hs]
    exact ⟨Int.le_refl _, by show (0 : Int) < (o.length : Nat); omega⟩
  · obtain ⟨h1, h2, _⟩ := listedL_mem.1 hs
    exact ⟨h1, h2⟩
  · obtain ⟨i, s, n, r, h1, h2, rfl⟩ := mem_movesT hmm
    have h3 : i < rows.length := lt_of_get h1
    have h4 := lt_of_get h2
    have h5 : r.length = t.m := h.ok.len r (List.mem_of_getElem? h1)
    obtain ⟨x, hx⟩ := get_some (show i < o.length by rw [← h.len]; exact h3)
    have h6 := (h.ok.to i x r s n hx h1 h2).1
    have h7 := h.len
    refine ⟨by show (0 : Int) ≤ (i : Nat); omega, by show ((i : Nat) : Int) < (o.length : Nat); omega, by show (0 : Int) ≤ (n : Nat); omega, by show ((n : Nat) : Int) < (o.length : Nat); omega, by show (-1 : Int) ≤ (s : Nat); omega, by show ((s : Nat) : Int) < (t.m : Nat); omega⟩
theorem redX_ok {a A : Aut} (h : AOk a) (hr : redX a = .ok A) : ∃ t o rows, subT a = some t ∧ TOk t ∧ (minW t).all 0 = some (o, rows) ∧ Fin t o rows ∧ A = autQ t (o, rows) ∧ (movesT rows).length ≤ 20000 := by
  unfold redX at hr
  split at hr
  · rename_i t ht
    cases hl : leastT t with
    | none => rw [hl] at hr; cases hr
    | some B =>
      rw [hl] at hr; cases hr
      obtain ⟨o, rows, h1, h2, h3⟩ := leastT_some hl
      have hT := sub_tok h ht
      exact ⟨t, o, rows, ht, hT, h1, fin_of hT h1, h2, h3⟩
  · cases hr
end Go.Proofs.YtgigclnaicbiaaaGreatDoor

namespace Go.Proofs.YtgigclnaicbiaaaGreatDoor
open Go.RowKit Go.Cb Go.En
set_option linter.all false
set_option maxRecDepth 100000

theorem tAgg25_LfF : AggT Tryz.prog 25 5 = true := by kernel_rfl
theorem tSt25_LfF : stInfo Tryz.prog 25 = some ((.agg #[(.int .i64 0), (.int .i64 0), (.slice none 0 0), (.slice none 0 0), (.slice none 0 0)]), ([0, 1, 2, 3, 4] : List Nat).map fun o => (o, 1)) := by kernel_rfl
theorem tZr25_LfF : ZeroT Tryz.prog 25 (.agg #[(.int .i64 0), (.int .i64 0), (.slice none 0 0), (.slice none 0 0), (.slice none 0 0)]) := by unfold ZeroT; kernel_rfl

theorem aMinimalW_bad (a : Aut) (hv : autOk a = false) : AF Tryz.prog 26 [pAut a] (· = .tup [rawZ, pInt 1]) := by
  refine AF.of_body 12 Tryz.func26 rfl Tryz.ntmps26 (Nat.le_of_ble_eq_true rfl) ?_
  intro w0 M0 vs hl hv
  obtain ⟨v0, rfl⟩ := len1 hl
  clear hl hv
  refine nav ?_
  (refine aC_region ?_
    <;> refine s_boxa 1 5 fun h1 => ?_
    <;> refine s_alloc [(.int .i64 0), (.int .i64 0), (.slice none 0 0), (.slice none 0 0), (.slice none 0 0)] 5 2 tZr25_LfF fun h2 => ?_
    <;> refine xL 3 q_assign ?_
    <;> refine aL_end (nav ?_) <;> try dsimp only)
  (refine aC_region ?_
    <;> (refine yL 4 (q_ldao 1 tAgg25_LfF) fun v4 hv4 => ?_; cases hv4)
    <;> (refine cS 5 (cA Tryz.call24 (aValid_e a)) fun v5 hv5 => ?_; cases hv5)
    <;> refine xL 6 q_not ?_
    <;> refine aL_end (nav ?_) <;> try dsimp only)
  first | refine cCd (fun hb6 => ?_) (fun hb6 => ?_) | refine cC (fun hb6 => ?_) (fun hb6 => ?_)
  · refine nav ?_
    (refine aC_region ?_
      <;> refine xL 7 (q_build tSt25_LfF) ?_
      <;> refine s_sta 2 tAgg25_LfF ?_
      <;> refine xL 3 q_assign ?_
      <;> refine aL_end (nav ?_) <;> try dsimp only)
    exact ret_cs (k := 5) 2 (by kernel_rfl) (Tryz.results26) rfl rfl rfl (Nat.le_of_ble_eq_true rfl) (by decide) rfl rfl
  · rw [hv] at hb6; simp at hb6
theorem aMinimalW_ok (a : Aut) (hv : autOk a = true) {A : Aut} (hm : AF Tryz.prog 83 [pAut a] (· = .tup [pAut A, pInt 0])) : AF Tryz.prog 26 [pAut a] (· = .tup [pAut A, pInt 0]) := by
  refine AF.of_body 12 Tryz.func26 rfl Tryz.ntmps26 (Nat.le_of_ble_eq_true rfl) ?_
  intro w0 M0 vs hl hv
  obtain ⟨v0, rfl⟩ := len1 hl
  clear hl hv
  refine nav ?_
  (refine aC_region ?_
    <;> refine s_boxa 1 5 fun h1 => ?_
    <;> refine s_alloc [(.int .i64 0), (.int .i64 0), (.slice none 0 0), (.slice none 0 0), (.slice none 0 0)] 5 2 tZr25_LfF fun h2 => ?_
    <;> refine xL 3 q_assign ?_
    <;> refine aL_end (nav ?_) <;> try dsimp only)
  (refine aC_region ?_
    <;> (refine yL 4 (q_ldao 1 tAgg25_LfF) fun v4 hv4 => ?_; cases hv4)
    <;> (refine cS 5 (cA Tryz.call24 (aValid_e a)) fun v5 hv5 => ?_; cases hv5)
    <;> refine xL 6 q_not ?_
    <;> refine aL_end (nav ?_) <;> try dsimp only)
  first | refine cCd (fun hb6 => ?_) (fun hb6 => ?_) | refine cC (fun hb6 => ?_) (fun hb6 => ?_)
  · rw [hv] at hb6; simp at hb6
  · refine nav ?_
    (refine aC_region ?_
      <;> (refine yL 8 (q_ldao 1 tAgg25_LfF) fun v8 hv8 => ?_; cases hv8)
      <;> (refine cP 9 (cA Tryz.call83 (hm)) fun va9 vb9 hva9 hvb9 => ?_; cases hvb9)
      <;> refine xL 10 q_extract ?_
      <;> refine xL 11 q_extract ?_
      <;> refine s_sta 2 tAgg25_LfF ?_
      <;> refine xL 3 q_assign ?_
      <;> refine aL_end (nav ?_) <;> try dsimp only)
    exact ret_cs (k := 5) 2 (by kernel_rfl) (Tryz.results26) rfl rfl rfl (Nat.le_of_ble_eq_true rfl) (by decide) rfl rfl
theorem aMinimalW_err (a : Aut) (hv : autOk a = true) {e : Int} (hm : AF Tryz.prog 83 [pAut a] (· = .tup [rawZ, pInt e])) : AF Tryz.prog 26 [pAut a] (· = .tup [rawZ, pInt e]) := by
  refine AF.of_body 12 Tryz.func26 rfl Tryz.ntmps26 (Nat.le_of_ble_eq_true rfl) ?_
  intro w0 M0 vs hl hv
  obtain ⟨v0, rfl⟩ := len1 hl
  clear hl hv
  refine nav ?_
  (refine aC_region ?_
    <;> refine s_boxa 1 5 fun h1 => ?_
    <;> refine s_alloc [(.int .i64 0), (.int .i64 0), (.slice none 0 0), (.slice none 0 0), (.slice none 0 0)] 5 2 tZr25_LfF fun h2 => ?_
    <;> refine xL 3 q_assign ?_
    <;> refine aL_end (nav ?_) <;> try dsimp only)
  (refine aC_region ?_
    <;> (refine yL 4 (q_ldao 1 tAgg25_LfF) fun v4 hv4 => ?_; cases hv4)
    <;> (refine cS 5 (cA Tryz.call24 (aValid_e a)) fun v5 hv5 => ?_; cases hv5)
    <;> refine xL 6 q_not ?_
    <;> refine aL_end (nav ?_) <;> try dsimp only)
  first | refine cCd (fun hb6 => ?_) (fun hb6 => ?_) | refine cC (fun hb6 => ?_) (fun hb6 => ?_)
  · rw [hv] at hb6; simp at hb6
  · refine nav ?_
    (refine aC_region ?_
      <;> (refine yL 8 (q_ldao 1 tAgg25_LfF) fun v8 hv8 => ?_; cases hv8)
      <;> (refine cP 9 (cA Tryz.call83 (hm)) fun va9 vb9 hva9 hvb9 => ?_; cases hvb9)
      <;> refine xL 10 q_extract ?_
      <;> refine xL 11 q_extract ?_
      <;> refine s_sta 2 tAgg25_LfF ?_
      <;> refine xL 3 q_assign ?_
      <;> refine aL_end (nav ?_) <;> try dsimp only)
    exact ret_cs (k := 5) 2 (by kernel_rfl) (Tryz.results26) rfl rfl rfl (Nat.le_of_ble_eq_true rfl) (by decide) rfl rfl
theorem aMinimalW_e (a : Aut) : AF Tryz.prog 26 [pAut a] (· = resW (minX a)) := by
  unfold minX
  cases hv : autOk a with
  | false => rw [if_neg (by simp)]; exact aMinimalW_bad a hv
  | true =>
    rw [if_pos rfl]
    have hm := aReduced_x a (aok_of hv)
    rcases res_cases (redX a) with ⟨A, _, h2⟩ | ⟨e, _, h2⟩
    · rw [h2] at hm ⊢; exact aMinimalW_ok a hv hm
    · rw [h2] at hm ⊢; exact aMinimalW_err a hv hm
end Go.Proofs.YtgigclnaicbiaaaGreatDoor

namespace Go.En
open Go.RowKit Go.Cb
set_option linter.all false
section
variable {P : Program} {st : St} {o : Oper} {x y : Operand} {q q' : PV} {t t' : TypeId}
end
section
variable {P : Program} {c : Ctx} {sL hP : List (Nat × Ent)}
theorem ret_hcs {fn : Func} {R : Value → PV → List (Nat × Ent) → Prop} {t ty s k e k' n : Nat} {h u : Value} {q p : PV} {cs : List PV} (l : Nat) (H' : List (Nat × Ent)) (hT : AggT P ty k = true) (hr : fn.results = #[.cell t ty, .tmp s]) (ht : lk sL t = some (padd (sbase h) 0, q)) (hl : lk hP l = some (h, .own e k' n cs)) (hs : lk sL s = some (u, p)) (hp : k ≤ cs.length) (hk : 0 < k) (hsh : (cs.take k).all isSh = true) (hsub : Sub H' hP) (hR : ∀ V : Value, R (.tuple [V, u].toArray) (.tup [.agg (cs.take k), p]) H') : aR c (bodyPost P fn (RetH c R)) (⟨sL, hP⟩ : St) := fun a w ⟨F, H⟩ => by
  obtain ⟨V, A, h0, h1, h2⟩ := cell_run H hT ht hl hp hk hsh
  obtain ⟨h3, h4⟩ := H.sl s _ _ hs
  have H2 : HoldsF c (⟨sL, H'⟩ : St) F a w := H.less (fun _ _ h => h) fun t x hx => hsub.lk hx
  have hM : ∀ b, b < w.heap.size → mof c H' F b → mof c hP F b := fun b _ hb => by
    rcases hb with hb | ⟨l, x, h1, h2⟩
    · exact .inl hb
    · exact .inr ⟨l, x, hsub.lk h1, h2⟩
  refine ⟨H.df, .tuple #[V, u], ?_, .tuple #[V, u], .tup [.agg (cs.take k), p], H', F, rfl, hR _, H2.toHeapF, .tup [V, u] _ rfl fun i v q' hv hq' => ?_⟩
  · simp only [results, hr]
    simp at h0
    simp [h0, h1, Array.getD_eq_getD_getElem?, h3]
  · match i with
    | 0 => simp at hv hq'; subst hv hq'; exact h2.anti hM
    | 1 => simp at hv hq'; subst hv hq'; exact h4.anti hM
    | i + 2 => simp at hv
end
end Go.En

namespace Go.Proofs.YtgigclnaicbiaaaGreatDoor
open Go.RowKit Go.Cb Go.En
set_option linter.all false
set_option maxRecDepth 100000

end Go.Proofs.YtgigclnaicbiaaaGreatDoor

namespace Go.Proofs.YtgigclnaicbiaaaGreatDoor
open Go.RowKit Go.Cb Go.En
set_option linter.all false
set_option maxRecDepth 100000

section
variable {α : Type}
end
end Go.Proofs.YtgigclnaicbiaaaGreatDoor

namespace Go.Proofs.YtgigclnaicbiaaaGreatDoor
open Go.RowKit Go.Cb Go.En
set_option linter.all false
set_option maxRecDepth 100000

end Go.Proofs.YtgigclnaicbiaaaGreatDoor

namespace Go.Proofs.YtgigclnaicbiaaaGreatDoor
open Go.RowKit Go.Cb Go.En
set_option linter.all false
set_option maxRecDepth 100000

end Go.Proofs.YtgigclnaicbiaaaGreatDoor

namespace Go.Proofs.YtgigclnaicbiaaaGreatDoor
open Go.RowKit Go.Cb Go.En
set_option linter.all false
set_option maxRecDepth 100000

end Go.Proofs.YtgigclnaicbiaaaGreatDoor

namespace Go.Proofs.YtgigclnaicbiaaaGreatDoor
open Go.RowKit Go.Cb Go.En
set_option linter.all false

section
variable {α β κ κ' : Type} [DecidableEq κ] [DecidableEq κ']
variable {W : Srch α κ} {W' : Srch β κ'} {R : α → β → Prop}
end
section
variable {κ κ' : Type} [DecidableEq κ] [DecidableEq κ']
end
end Go.Proofs.YtgigclnaicbiaaaGreatDoor

namespace Go.Proofs.YtgigclnaicbiaaaGreatDoor
open Go.RowKit Go.Cb Go.En
set_option linter.all false
set_option maxRecDepth 100000

end Go.Proofs.YtgigclnaicbiaaaGreatDoor

namespace Go.Proofs.YtgigclnaicbiaaaGreatDoor
open Go.RowKit Go.Cb Go.En
set_option linter.all false
set_option maxRecDepth 100000

theorem tAgg72_LfM : AggT Tryz.prog 72 3 = true := by kernel_rfl
theorem tEl23_LfM : ElT Tryz.prog 23 72 3 24 (.agg #[(.int .i64 0), (.int .i64 0), (.int .i64 0)]) := ⟨Tryz.underlying23, by kernel_rfl, rfl, by decide⟩
theorem tSl23_LfM : SlT Tryz.prog 23 72 3 = true := by kernel_rfl

theorem aL_sort0 {P : Program} {c : Ctx} {sL hP : List (Nat × Ent)} {ops : Array Oper} {Q : Exit → Act → World → Prop} {o : Oper} {rest : List Oper} {fs g k e d l : Nat} {cs : List PV} {h : Value} {q q' : PV} {x y : Operand} {ats : Array TypeId} (hS : ∀ (p : Option Addr) (cap : Nat) (fv : Value) (w : World), Calls P fs #[.slice p 0 cap, fv] w fun e w' => e = .returned (.tuple #[]) ∧ w' = w)
    (hw : wants ops sL o = some true) (hd : o.dst = some d) (hdn : d < c.nt) (ho : o.op = .call { callee := .value (.func fs), args := #[x, y], argTypes := ats }) (hc : ∀ args w, (callFunc fs args).run P w = .ok (.enter fs args) w) (hx : ev sL x = some (h, q)) (hy : ev sL y = some (.func (.func g) #[] #[], q')) (hl : lk hP l = some (h, .own e k 0 cs))
    (kk : aL P c ops Q rest ⟨put d (.tuple #[], .val (.tuple #[])) sL, hP⟩) : aL P c ops Q (o :: rest) (⟨sL, hP⟩ : St) :=
  aL_run hw fun a w F H => by
    have hxv := (H.rd.ev hx).1
    have hyv := (H.rd.ev hy).1
    obtain ⟨xs, Fs, hrow, _⟩ := (H.tr l _ _ hl).row
    obtain ⟨p, cap, rfl⟩ : ∃ p cap, h = .slice p 0 cap := by
      rcases row_form hrow with ⟨h1, _⟩ | ⟨g, cap, h1, _⟩
      · exact ⟨_, _, h1⟩
      · exact ⟨_, _, h1⟩
    unfold Oper.wp
    have hrun : (execOp a.eval o).run P w = .ok (.enter fs #[.slice p 0 cap, .func (.func g) #[] #[]]) w := by
      have hev : a.eval (.func fs) = .func (.func fs) #[] #[] := rfl
      simp [execOp, ho, resolve, Deferred.ofValue, hev, invoke, hxv, hyv, hc]
    rw [hrun, Oper.upon_enter]
    refine (hS p cap _ w).mono fun e' w' ⟨he', hw'⟩ => ?_
    subst he' hw'
    rw [hd]
    exact kk _ _ ⟨F, H.put hdn (.val _)⟩
theorem mvCmp_lt {a b : Mv} : mvCmp a b < 0 ↔ mvLt a b = true := by unfold mvLt; rw [decide_eq_true_eq]
theorem mvCmp_irr (a : Mv) : ¬ mvCmp a a < 0 := fun h => by have := mvCmp_lt.1 h; rw [mvLt_irr] at this; cases this
theorem mvCmp_tr (a b c : Mv) (h1 : mvCmp a b < 0) (h2 : mvCmp b c < 0) : mvCmp a c < 0 := mvCmp_lt.2 (mvLt_tr (mvCmp_lt.1 h1) (mvCmp_lt.1 h2))
theorem mvCmp_nt (a b c : Mv) (h1 : ¬ mvCmp a b < 0) (h2 : ¬ mvCmp b c < 0) : ¬ mvCmp a c < 0 := fun h => by
  rw [mvCmp_lt, mvLt_iff] at h1 h2 h
  omega
def Sorted (l : List Mv) : Prop := ∀ (i j : Nat) (a b : Mv), i < j → l[i]? = some a → l[j]? = some b → ¬ mvCmp b a < 0
theorem sorted_asc {l : List Mv} (h : Sorted l) (hn : l.Nodup) : AscM l := by
  unfold AscM
  rw [List.pairwise_iff_getElem]
  intro i j hi hj hij
  have h1 := h i j l[i] l[j] hij (List.getElem?_eq_getElem hi) (List.getElem?_eq_getElem hj)
  rw [mvCmp_lt] at h1
  cases h2 : mvLt l[i] l[j] with
  | true => rfl
  | false =>
    have h3 := mvLt_tri h2 (by simpa using h1)
    exact absurd (List.getElem_inj hn |>.1 h3) (by omega)
theorem asc_next {l : List Mv} (h : AscM l) {k : Nat} {x y : Mv} (hy : l[k]? = some y) (hx : l[k + 1]? = some x) : eqM x y = false := by
  have h1 := List.pairwise_iff_getElem.1 h k (k + 1) (lt_of_get hy) (lt_of_get hx) (by omega)
  rw [(List.getElem?_eq_some_iff.1 hy).2, (List.getElem?_eq_some_iff.1 hx).2] at h1
  cases h2 : eqM x y with
  | false => rfl
  | true => rw [eqM_iff.1 h2, mvLt_irr] at h1; cases h1
theorem uMvS : Tryz.prog.underlying 72 = some (.struct (Tryz.prog.fieldsOf 72)) := by kernel_rfl
theorem hMvS : Tryz.prog.stoodInHeld 72 = false := by kernel_rfl
theorem gMvS : Tryz.prog.eqGuardType Tryz.prog.depth 72 = false := by kernel_rfl
def vMv (m : Mv) : List Value := [Value.int .i64 m.src, .int .i64 m.dst, .int .i64 m.sym]
theorem eqMv_runG (x y : Mv) (w : World) : (Op.eqFields 9999 (vMv x).toArray (vMv y).toArray (Tryz.prog.fieldsOf 72).toList).run Tryz.prog w = .ok (eqM x y) w := by
  unfold vMv eqM
  simp only [Program.fieldsOf, Tryz.underlying72]
  simp [Op.eqFields, part, run_equalIn_int w 9998 3 .i64 .i64 x.src y.src Tryz.underlying3, run_equalIn_int w 9998 3 .i64 .i64 x.dst y.dst Tryz.underlying3, run_equalIn_int w 9998 3 .i64 .i64 x.sym y.sym Tryz.underlying3]
  by_cases h1 : x.src = y.src <;> by_cases h2 : x.dst = y.dst <;> by_cases h3 : x.sym = y.sym <;> simp [h1, h2, h3]
theorem cloneMv_e (l : List Mv) (hl : l.length ≤ 1000000) : AF Tryz.prog 96 [pMvs l] (· = .own 72 3 l.length (l.flatMap cMv)) := by
  refine AF.of_body 8 Tryz.func96 rfl Tryz.ntmps96 (Nat.le_of_ble_eq_true rfl) ?_
  intro w0 M0 vs hl hv
  obtain ⟨v0, rfl⟩ := len1 hl
  clear hl hv
  have f3 : (l.flatMap cMv).length = l.length * 3 := flat_len cMv_len l
  have f4 : (l.flatMap cMv).all En.one = true := cMv_one l
  refine nav ?_
  (refine aC_region ?_
    <;> refine xL 2 q_assign ?_
    <;> refine aL_end (nav ?_) <;> try dsimp only)
  (refine aC_region ?_
    <;> refine xL 3 q_move ?_
    <;> (refine yL 4 (q_eqnil tSl23_LfM) fun v4 hv4 => ?_; rcases hv4 with rfl | ⟨rfl, hn0⟩)
    <;> refine aL_end (nav ?_) <;> try dsimp only) <;> (
   first | refine cCd (fun hb4 => ?_) (fun hb4 => ?_) | refine cC (fun hb4 => ?_) (fun hb4 => ?_)
   · first
     | exact Bool.noConfusion hb4
     | (
      refine nav ?_
      (refine aC_region ?_
        <;> refine xL 2 q_assign ?_
        <;> refine aL_end (nav ?_) <;> try dsimp only)
      have hl0 : l = [] := List.eq_nil_of_length_eq_zero hn0
      subst hl0
      refine aR_ent (nilOwn 200 72 3 rfl) fun _ => ?_
      exact ret_own 200 (Tryz.results96) rfl rfl rfl)
   · first
     | exact Bool.noConfusion hb4
     | (
      refine nav ?_
      (refine aC_region ?_
        <;> refine s_lit0 5 tEl23_LfM fun h5 ho5 => ?_
        <;> refine xL 6 q_move ?_
        <;> refine s_apps 5 7 tEl23_LfM (fun h7 ho7 => ?_) f3 f4
        <;> refine xL 2 q_assign ?_
        <;> refine aL_end (nav ?_) <;> try dsimp only)
      refine ret_own 7 (Tryz.results96) rfl rfl ?_
      rw [Nat.zero_add, List.nil_append]))
theorem tAggMv : AggT Tryz.prog 72 3 = true := by kernel_rfl
theorem sortMv_c : SortC Tryz.prog 116 80 3 := fun enc hk h1 cf hO blk cap d w hcmp hH hblk hsz =>
  AnyQ.slices_SortFunc Tryz.sortMvL 3 (fun w => AggT.run tAggMv w) (fun w => AggT.size tAggMv w) enc hk h1 cf hO 80 #[] blk 0 cap d w (Tryz.call80) hcmp hH hblk hsz
theorem sortMv_none (p : Option Addr) (cap : Nat) (fv : Value) (w : World) : Calls Tryz.prog 116 #[.slice p 0 cap, fv] w fun e w' => e = .returned (.tuple #[]) ∧ w' = w := (AnyF.slices_SortFunc_none Tryz.sortMvL p cap fv w).mono fun e w' ⟨h1, h2⟩ => ⟨h1, h2⟩
theorem mv_exact2 (x y : Mv) (M : BS) (W : World) (u v : Value) (hu : Shr M W u (.agg (cMv x))) (hv : Shr M W v (.agg (cMv y))) : Calls Tryz.prog 80 #[u, v] W fun e w' => e = .returned (.int .i64 (mvCmp x y)) ∧ ∃ q os', w' = Go.Sort.grow (W.drewN q) os' := (aCmpMoves_g x y).exact2 hu hv
theorem compactMv_asc (l : List Mv) (hl : l.length ≤ 1000000) (ha : AscM l) (hv : Value) : AFh False Tryz.prog 117 [(0, hv, .val hv)] [(1000, hv, .own 72 3 l.length (l.flatMap cMv))] (fun v q h => v = hv ∧ q = .val hv ∧ h = [(1000, hv, .own 72 3 l.length (l.flatMap cMv))]) := by
  refine AFh.of_body 61 Tryz.func117 rfl Tryz.ntmps117 (Nat.le_of_ble_eq_true rfl) rfl ?_
  intro w0 M0 N0
  refine nav ?_
  (refine aC_region ?_
    <;> refine xL 2 q_assign ?_
    <;> refine aL_end (nav ?_) <;> try dsimp only)
  (refine aC_region ?_
    <;> refine xL 6 q_move ?_
    <;> refine xL 7 (q_leno 1000 tSl23_LfM) ?_
    <;> refine xL 8 q_lss ?_
    <;> refine aL_end (nav ?_) <;> try dsimp only)
  first | refine cCd (fun hb8 => ?_) (fun hb8 => ?_) | refine cC (fun hb8 => ?_) (fun hb8 => ?_)
  · first
    | exact Bool.noConfusion hb8
    | (
     refine nav ?_
     (refine aC_region ?_
       <;> refine xL 9 q_move ?_
       <;> refine xL 2 q_assign ?_
       <;> refine aL_end (nav ?_) <;> try dsimp only)
     exact ret_h [(1000, hv, PV.own 72 3 l.length (l.flatMap cMv))] (Tryz.results117) rfl ⟨rfl, trivial⟩ ⟨rfl, rfl, rfl⟩)
  · first
    | exact Bool.noConfusion hb8
    | (
     refine nav ?_
     (refine aC_region ?_
       <;> refine xL 3 q_assign ?_
       <;> refine aL_end (nav ?_) <;> try dsimp only)
     refine aC_loop (ι := { k : Nat // 1 ≤ k ∧ k ≤ l.length }) (fun k => ⟨[(0, _, _), (3, .int .i64 k.1, pInt k.1)], [(1000, _, _)]⟩) (fun k => l.length - k.1) ⟨1, Nat.le_refl _, by omega⟩ (fun a w H => H.weaken ⟨rfl, rfl, trivial⟩ ⟨rfl, trivial⟩) ?_
     rintro ⟨k1, hk1, hk⟩
     dsimp only
     obtain ⟨k, rfl⟩ : ∃ k, k1 = k + 1 := ⟨k1 - 1, by omega⟩
     refine nav ?_
     (refine aC_region ?_
       <;> refine xL 10 q_move ?_
       <;> refine xL 11 q_move ?_
       <;> refine xL 12 (q_leno 1000 tSl23_LfM) ?_
       <;> refine xL 13 q_lss ?_
       <;> refine aL_end (nav ?_) <;> try dsimp only)
     first | refine cCd (fun hb13 => ?_) (fun hb13 => ?_) | refine cC (fun hb13 => ?_) (fun hb13 => ?_)
     · first
       | exact Bool.noConfusion hb13
       | (
        obtain ⟨x, hx⟩ := get_some (show k + 1 < l.length by omega)
        obtain ⟨y, hy⟩ := get_some (show k < l.length by omega)
        have e1 := flat_drop cMv_len l (k + 1) x hx
        have e2 := flat_fit cMv_len hx
        have e3 : ((l.flatMap cMv).drop ((((k + 1 : Nat) : Int) - 1).toNat * 3)).take 3 = cMv y := by rw [show (((k + 1 : Nat) : Int) - 1).toNat * 3 = k * 3 by omega]; exact flat_drop cMv_len l k y hy
        have e4 := flat_fit cMv_len hy
        have hne := asc_next ha hy hx
        refine nav ?_
        (refine aC_draw (fun i => ([] : List Nat).elem i) [1000] (by kernel_rfl) ?_
          <;> refine xD 0 16 rfl q_move ?_
          <;> refine xD 1 17 rfl q_move ?_
          <;> refine xD 2 18 rfl (q_idxoN 1000 tSl23_LfM) ?_
          <;> (refine yD 3 19 rfl (q_ldao 1000 tAgg72_LfM) fun v19 hv19 => ?_; cases hv19)
          <;> refine xD 4 20 rfl q_move ?_
          <;> refine xE 5 21 rfl q_move ?_
          <;> refine xE 6 22 rfl q_sub ?_
          <;> refine xE 7 23 rfl (q_idxo 1000 tSl23_LfM) ?_
          <;> (refine yE 8 24 rfl (q_ldao 1000 tAgg72_LfM) fun v24 hv24 => ?_; cases hv24)
          <;> refine xE 9 25 rfl ((q_eqS (us := vMv x) (us' := vMv y) uMvS hMvS gMvS (eqMv_runG x y) rfl rfl)) ?_
          <;> refine aD_end (by kernel_rfl) (nav ?_)
          <;> try dsimp only)
        first | refine cCd (fun hb25 => ?_) (fun hb25 => ?_) | refine cC (fun hb25 => ?_) (fun hb25 => ?_)
        · rw [hne] at hb25; cases hb25
        · refine nav ?_
          (refine aC_region ?_
            <;> refine xL 14 q_move ?_
            <;> refine xL 15 q_add ?_
            <;> refine xL 3 q_assign ?_
            <;> refine aL_end (nav ?_) <;> try dsimp only)
          refine aN_again (
            ⟨k + 1 + 1, by omega, by omega⟩
            ) (by dsimp only; omega) ⟨rfl, rfl, trivial⟩ ⟨rfl, trivial⟩)
     · first
       | exact Bool.noConfusion hb13
       | (
        refine nav ?_
        (refine aC_region ?_
          <;> refine xL 60 q_move ?_
          <;> refine xL 2 q_assign ?_
          <;> refine aL_end (nav ?_) <;> try dsimp only)
        exact ret_h [(1000, hv, PV.own 72 3 l.length (l.flatMap cMv))] (Tryz.results117) rfl ⟨rfl, trivial⟩ ⟨rfl, rfl, rfl⟩))
end Go.Proofs.YtgigclnaicbiaaaGreatDoor

namespace Go.Proofs.YtgigclnaicbiaaaGreatDoor
open Go.RowKit Go.Cb Go.En
set_option linter.all false

structure PreA (a : Aut) : Prop where
  n0 : 0 ≤ a.n
  s0 : 0 ≤ a.syms
  s1 : a.syms ≤ 40
  st : InS a a.start
  fi : InS a a.fin
  sn : a.start.Nodup
  fn : a.fin.Nodup
  mv : ∀ m ∈ a.moves, 0 ≤ m.src ∧ m.src < a.n ∧ 0 ≤ m.dst ∧ m.dst < a.n ∧ -1 ≤ m.sym ∧ m.sym < a.syms
def mkA (a : Aut) : Aut := { a with moves := mkM a.moves }
theorem PreA.aok {a : Aut} (h : PreA a) (hb : ¬ (2000 < (mkA a).n ∨ 20000 < (mkA a).moves.length)) : AOk (mkA a) := by
  have hn : ¬ 2000 < a.n := fun h => hb (.inl h)
  have hl : ∀ {l : List Int}, l.Nodup → InS a l → l.length ≤ 2000 := fun {l} h1 h2 => by
    have := nodup_len a.n.toNat l h1 fun s hs => by have := h2 s hs; have := h.n0; omega
    omega
  exact ⟨h.n0, by show a.n ≤ 2000; omega, h.s0, h.s1, by have := hb; omega, h.st, h.fi, hl h.sn h.st, hl h.fn h.fi, fun m hm => h.mv m (mkM_mem.1 hm)⟩
theorem stOk_srt {n : Int} {l : List Int} (h : stOk n l = true) : Srt l := by
  unfold stOk at h
  rw [Bool.and_eq_true] at h
  have := h.2
  clear h
  induction l with
  | nil => exact .nil
  | cons x l ih =>
    cases l with
    | nil => exact List.pairwise_singleton ..
    | cons y l =>
      rw [chainB, Bool.and_eq_true] at this
      have h1 := ih this.2
      have hxy : x < y := by have := this.1; unfold ltI at this; simpa using this
      refine List.pairwise_cons.2 ⟨fun z hz => ?_, h1⟩
      rcases List.mem_cons.1 hz with rfl | hz
      · exact hxy
      · exact Int.lt_trans hxy ((List.pairwise_cons.1 h1).1 z hz)
theorem chain_asc : ∀ {l : List Mv}, chainB mvLt l = true → AscM l
  | [], _ => .nil
  | [x], _ => List.pairwise_singleton ..
  | x :: y :: l, h => by
    rw [chainB, Bool.and_eq_true] at h
    have h1 := chain_asc h.2
    refine List.pairwise_cons.2 ⟨fun z hz => ?_, h1⟩
    rcases List.mem_cons.1 hz with rfl | hz
    · exact h.1
    · exact mvLt_tr h.1 ((List.pairwise_cons.1 h1).1 z hz)
theorem srt_nodup {l : List Int} (h : Srt l) : l.Nodup := h.imp fun h => by omega
structure VOk (a : Aut) : Prop extends AOk a where
  ss : Srt a.start
  fs : Srt a.fin
  ms : AscM a.moves
theorem vok_of {a : Aut} (h : autOk a = true) : VOk a := by
  have h' := h
  unfold autOk at h'
  simp only [Bool.and_eq_true, decide_eq_true_eq] at h'
  obtain ⟨⟨⟨⟨⟨⟨⟨⟨_, _⟩, _⟩, _⟩, _⟩, h6⟩, h7⟩, _⟩, h9⟩ := h'
  exact ⟨aok_of h, stOk_srt h6, stOk_srt h7, chain_asc h9⟩
theorem asc_nodup2 {l : List Mv} (h : AscM l) : l.Nodup := h.imp fun {a b} h1 e => by rw [e, mvLt_irr] at h1; cases h1
theorem map_nodup {α β : Type} {f : α → β} {l : List α} (h : l.Nodup) (hf : ∀ x ∈ l, ∀ y ∈ l, f x = f y → x = y) : (l.map f).Nodup := by
  induction l with
  | nil => exact List.nodup_nil
  | cons x l ih =>
    rw [List.nodup_cons] at h
    rw [List.map_cons, List.nodup_cons]
    refine ⟨fun hm => ?_, ih h.2 fun y hy z hz => hf y (List.mem_cons_of_mem _ hy) z (List.mem_cons_of_mem _ hz)⟩
    obtain ⟨y, hy, e⟩ := List.mem_map.1 hm
    have := hf y (List.mem_cons_of_mem _ hy) x (List.mem_cons_self ..) e
    rw [this] at hy
    exact h.1 hy
theorem star_pre {a : Aut} (h : VOk a) : PreA (starA a) := by
  have hn := h.n0
  refine ⟨by show 0 ≤ a.n + 1; omega, h.s0, h.s1, fun s hs => ?_, fun s hs => ?_, by show [a.n].Nodup; simp, by show [a.n].Nodup; simp, fun m hm => ?_⟩
  · rw [show s = a.n from List.mem_singleton.1 hs]
    exact ⟨hn, by show a.n < a.n + 1; omega⟩
  · rw [show s = a.n from List.mem_singleton.1 hs]
    exact ⟨hn, by show a.n < a.n + 1; omega⟩
  · have hs := h.s0
    show 0 ≤ m.src ∧ m.src < a.n + 1 ∧ 0 ≤ m.dst ∧ m.dst < a.n + 1 ∧ -1 ≤ m.sym ∧ m.sym < a.syms
    have hm' : m ∈ a.moves ++ (a.start.map fun s => (⟨a.n, s, -1⟩ : Mv)) ++ a.fin.map fun s => (⟨s, a.n, -1⟩ : Mv) := hm
    rcases List.mem_append.1 hm' with hm | hm
    · rcases List.mem_append.1 hm with hm | hm
      · have := h.mv m hm; omega
      · obtain ⟨s, hs, rfl⟩ := List.mem_map.1 hm
        have := h.st s hs
        dsimp only; omega
    · obtain ⟨s, hs, rfl⟩ := List.mem_map.1 hm
      have := h.fi s hs
      dsimp only; omega
theorem star_nodup {a : Aut} (h : VOk a) : (starA a).moves.Nodup := by
  show (a.moves ++ (a.start.map fun s => (⟨a.n, s, -1⟩ : Mv)) ++ a.fin.map fun s => (⟨s, a.n, -1⟩ : Mv)).Nodup
  rw [List.nodup_append, List.nodup_append]
  refine ⟨⟨asc_nodup2 h.ms, map_nodup (srt_nodup h.ss) fun x _ y _ e => (Mv.mk.inj e).2.1, fun x hx y hy e => ?_⟩, map_nodup (srt_nodup h.fs) fun x _ y _ e => (Mv.mk.inj e).1, fun x hx y hy e => ?_⟩
  · obtain ⟨s, hs, rfl⟩ := List.mem_map.1 hy
    have := h.mv x hx
    rw [e] at this
    dsimp only at this; omega
  · obtain ⟨s, hs, rfl⟩ := List.mem_map.1 hy
    have h1 := h.fi s hs
    rcases List.mem_append.1 hx with hx | hx
    · have := h.mv x hx
      rw [e] at this
      dsimp only at this; omega
    · obtain ⟨s', hs', e'⟩ := List.mem_map.1 hx
      rw [e] at e'
      have := (Mv.mk.inj e').1
      omega
end Go.Proofs.YtgigclnaicbiaaaGreatDoor

namespace Go.En
open Go.RowKit Go.Cb
set_option linter.all false
section
variable {P : Program} {c : Ctx} {ops : Array Oper} {Q : Exit → Act → World → Prop} {Z : Nat → Bool} {K : List Nat} {fuel : Nat} {listed : Array Bool} {sL hP : List (Nat × Ent)} {o : Oper}
theorem aD_four (i j k l : Nat) (hr : Region.ready .any ops listed = [i, j, k, l]) (h : aW P c ops Q Z K fuel listed (⟨sL, hP⟩ : St) i) (h' : aW P c ops Q Z K fuel listed (⟨sL, hP⟩ : St) j) (h'' : aW P c ops Q Z K fuel listed (⟨sL, hP⟩ : St) k) (h3 : aW P c ops Q Z K fuel listed (⟨sL, hP⟩ : St) l) : aD P c ops Q Z K (fuel + 1) listed (⟨sL, hP⟩ : St) := fun a w F H C hC =>
  ⟨(fun hn => by rw [hr] at hn; cases hn), fun m hm => by
    rw [hr] at hm
    rcases (by simpa using hm : m = i ∨ m = j ∨ m = k ∨ m = l) with rfl | rfl | rfl | rfl
    · exact h a w F H C hC
    · exact h' a w F H C hC
    · exact h'' a w F H C hC
    · exact h3 a w F H C hC⟩
end
end Go.En

namespace Go.Proofs.YtgigclnaicbiaaaGreatDoor
open Go.RowKit Go.Cb Go.En
set_option linter.all false
set_option maxRecDepth 100000

theorem tAgg25_LfN : AggT Tryz.prog 25 5 = true := by kernel_rfl
theorem tFl25_4_LfN : FldT Tryz.prog 25 4 4 = true := by kernel_rfl
theorem tNa23_LfN : NoAgg Tryz.prog 23 = true := by kernel_rfl
theorem tSz23_LfN : (Tryz.prog.info? 23).map (·.size) = some 1 := by kernel_rfl
theorem tZr25_LfN : ZeroT Tryz.prog 25 (.agg #[(.int .i64 0), (.int .i64 0), (.slice none 0 0), (.slice none 0 0), (.slice none 0 0)]) := by unfold ZeroT; kernel_rfl

theorem sorted_mk {l r : List Mv} (hp : r.Perm l) (hs : Sorted r) (hn : l.Nodup) : r = mkM l := mkM_eq (sorted_asc hs (hp.nodup_iff.2 hn)) fun x => hp.mem_iff
theorem mkM_nd_len {l : List Mv} (hn : l.Nodup) : (mkM l).length = l.length := by
  refine Nat.le_antisymm (mkM_len l) ?_
  have : ∀ {l : List Mv} {m : List Mv}, l.Nodup → (∀ x ∈ l, x ∈ m) → l.length ≤ m.length := fun {l} => by
    induction l with
    | nil => intro m _ _; exact Nat.zero_le _
    | cons x l ih =>
      intro m h hm
      rw [List.nodup_cons] at h
      obtain ⟨a, b, rfl⟩ := List.append_of_mem (hm x (List.mem_cons_self ..))
      have := ih (m := a ++ b) h.2 fun y hy => by
        rcases List.mem_append.1 (hm y (List.mem_cons_of_mem _ hy)) with h1 | h1
        · exact List.mem_append_left _ h1
        · rcases List.mem_cons.1 h1 with rfl | h1
          · exact absurd hy h.1
          · exact List.mem_append_right _ h1
      simp only [List.length_append, List.length_cons] at this ⊢
      omega
  exact this hn fun x hx => mkM_mem.2 hx
theorem aMade_ok (a : Aut) (hl : a.moves.length ≤ 1000000) (hnd : a.moves.Nodup) (V hM : Value) (hMo : hM.oneCell' = true) {A : Aut} (hr : AF Tryz.prog 83 [pAut (mkA a)] (· = .tup [pAut A, pInt 0])) : AFh False Tryz.prog 88 [(0, V, .agg [pInt a.n, pInt a.syms, pInts a.start, pInts a.fin, .val hM])] [(1000, hM, .own 72 3 a.moves.length (a.moves.flatMap cMv))] (fun v q h => (∃ V1 : Value, v = .tuple [V1, .int .i64 0].toArray) ∧ q = .tup [pAut A, pInt 0] ∧ h = []) := by
  refine AFh.of_body 15 Tryz.func88 rfl Tryz.ntmps88 (Nat.le_of_ble_eq_true rfl) rfl ?_
  intro w0 M0 N0
  have hone : En.one (PV.val hM) = true := hMo
  refine nav ?_
  (refine aC_region ?_
    <;> refine s_boxa 1 5 fun h1 => ?_
    <;> refine s_alloc [(.int .i64 0), (.int .i64 0), (.slice none 0 0), (.slice none 0 0), (.slice none 0 0)] 5 2 tZr25_LfN fun h2 => ?_
    <;> refine xL 3 q_assign ?_
    <;> refine aL_end (nav ?_) <;> try dsimp only)
  (refine aC_region ?_
    <;> refine xL 4 (q_fldo 1 tFl25_4_LfN) ?_
    <;> (refine yL 5 (q_ldo 1 tNa23_LfN) fun v5 hv5 => ?_; cases hv5)
    <;> (rcases Nat.eq_zero_or_pos a.moves.length with h0 | h0 <;> first | (refine aL_ent (recast (l := 1000) (p' := .own 72 3 0 []) rfl (by rw [List.eq_nil_of_length_eq_zero h0]; rfl)) fun _ => ?_; refine aL_sort0 (l := 1000) sortMv_none rfl rfl (Nat.le_of_ble_eq_true rfl) rfl (Tryz.call116) rfl rfl rfl ?_; refine aL_ent (recast (l := 1000) (p' := .own 72 3 (mkM a.moves).length ((mkM a.moves).flatMap cMv)) rfl (by rw [List.eq_nil_of_length_eq_zero h0]; rfl)) fun _ => ?_) | (refine aL_sort (l := 1000) (β := Mv) (f := cMv) (cmp := mvCmp) (rows := a.moves) sortMv_c cMv_len (by decide) (fun _ => rfl) mvCmp_irr mvCmp_tr mvCmp_nt (fun x y M W u v _ _ hu hv => mv_exact2 x y M W u v hu hv) h0 (by omega) rfl rfl (Nat.le_of_ble_eq_true rfl) rfl (Tryz.call116) rfl rfl rfl (fun rows' hperm hord => ?_); refine aL_ent (recast (l := 1000) (p' := .own 72 3 (mkM a.moves).length ((mkM a.moves).flatMap cMv)) rfl (by rw [sorted_mk hperm hord hnd, mkM_nd_len hnd])) fun _ => ?_))
    <;> refine aL_end (nav ?_) <;> try dsimp only) <;> (
   (refine aC_region ?_
     <;> refine xL 7 (q_fldo 1 tFl25_4_LfN) ?_
     <;> (refine yL 8 (q_ldo 1 tNa23_LfN) fun v8 hv8 => ?_; cases hv8)
     <;> (refine aL_heap [(1000, hM, PV.own 72 3 (mkM a.moves).length ((mkM a.moves).flatMap cMv)), (1, _, _), (2, _, _)] ⟨rfl, rfl, rfl, trivial⟩ ?_; refine aL_ch [1, 2] 9 (Tryz.call117) (compactMv_asc (mkM a.moves) (by have := mkM_len a.moves; omega) (mkM_asc _) hM) ?_; rintro v9 _ _ ⟨hv9, rfl, rfl⟩; have hv9' := hv9.symm; subst hv9')
     <;> refine xL 10 (q_fldo 1 tFl25_4_LfN) ?_
     <;> refine s_st 1 tNa23_LfN tSz23_LfN ?_
     <;> refine aL_end (nav ?_) <;> try dsimp only)
   refine aC_ent (freezeCell (l := 1) (l' := 1000) (j := 4) rfl rfl rfl rfl) fun _ => ?_
   rw [share_mvl _ _ _ rfl]
   (refine aC_region ?_
     <;> (refine yL 11 (q_ldao 1 tAgg25_LfN) fun v11 hv11 => ?_; cases hv11)
     <;> (refine cP 12 (cA Tryz.call83 (hr)) fun va12 vb12 hva12 hvb12 => ?_; cases hvb12)
     <;> refine xL 13 q_extract ?_
     <;> refine xL 14 q_extract ?_
     <;> refine s_sta 2 tAgg25_LfN ?_
     <;> refine xL 3 q_assign ?_
     <;> refine aL_end (nav ?_) <;> try dsimp only)
   exact ret_hcs (k := 5) 2 [] (by kernel_rfl) (Tryz.results88) rfl rfl rfl (Nat.le_of_ble_eq_true rfl) (by decide) rfl trivial fun V => ⟨⟨V, rfl⟩, rfl, rfl⟩)
theorem aMade_err (a : Aut) (hl : a.moves.length ≤ 1000000) (hnd : a.moves.Nodup) (V hM : Value) (hMo : hM.oneCell' = true) {e : Int} (hr : AF Tryz.prog 83 [pAut (mkA a)] (· = .tup [rawZ, pInt e])) : AFh False Tryz.prog 88 [(0, V, .agg [pInt a.n, pInt a.syms, pInts a.start, pInts a.fin, .val hM])] [(1000, hM, .own 72 3 a.moves.length (a.moves.flatMap cMv))] (fun v q h => (∃ V1 : Value, v = .tuple [V1, .int .i64 e].toArray) ∧ q = .tup [rawZ, pInt e] ∧ h = []) := by
  refine AFh.of_body 15 Tryz.func88 rfl Tryz.ntmps88 (Nat.le_of_ble_eq_true rfl) rfl ?_
  intro w0 M0 N0
  have hone : En.one (PV.val hM) = true := hMo
  refine nav ?_
  (refine aC_region ?_
    <;> refine s_boxa 1 5 fun h1 => ?_
    <;> refine s_alloc [(.int .i64 0), (.int .i64 0), (.slice none 0 0), (.slice none 0 0), (.slice none 0 0)] 5 2 tZr25_LfN fun h2 => ?_
    <;> refine xL 3 q_assign ?_
    <;> refine aL_end (nav ?_) <;> try dsimp only)
  (refine aC_region ?_
    <;> refine xL 4 (q_fldo 1 tFl25_4_LfN) ?_
    <;> (refine yL 5 (q_ldo 1 tNa23_LfN) fun v5 hv5 => ?_; cases hv5)
    <;> (rcases Nat.eq_zero_or_pos a.moves.length with h0 | h0 <;> first | (refine aL_ent (recast (l := 1000) (p' := .own 72 3 0 []) rfl (by rw [List.eq_nil_of_length_eq_zero h0]; rfl)) fun _ => ?_; refine aL_sort0 (l := 1000) sortMv_none rfl rfl (Nat.le_of_ble_eq_true rfl) rfl (Tryz.call116) rfl rfl rfl ?_; refine aL_ent (recast (l := 1000) (p' := .own 72 3 (mkM a.moves).length ((mkM a.moves).flatMap cMv)) rfl (by rw [List.eq_nil_of_length_eq_zero h0]; rfl)) fun _ => ?_) | (refine aL_sort (l := 1000) (β := Mv) (f := cMv) (cmp := mvCmp) (rows := a.moves) sortMv_c cMv_len (by decide) (fun _ => rfl) mvCmp_irr mvCmp_tr mvCmp_nt (fun x y M W u v _ _ hu hv => mv_exact2 x y M W u v hu hv) h0 (by omega) rfl rfl (Nat.le_of_ble_eq_true rfl) rfl (Tryz.call116) rfl rfl rfl (fun rows' hperm hord => ?_); refine aL_ent (recast (l := 1000) (p' := .own 72 3 (mkM a.moves).length ((mkM a.moves).flatMap cMv)) rfl (by rw [sorted_mk hperm hord hnd, mkM_nd_len hnd])) fun _ => ?_))
    <;> refine aL_end (nav ?_) <;> try dsimp only) <;> (
   (refine aC_region ?_
     <;> refine xL 7 (q_fldo 1 tFl25_4_LfN) ?_
     <;> (refine yL 8 (q_ldo 1 tNa23_LfN) fun v8 hv8 => ?_; cases hv8)
     <;> (refine aL_heap [(1000, hM, PV.own 72 3 (mkM a.moves).length ((mkM a.moves).flatMap cMv)), (1, _, _), (2, _, _)] ⟨rfl, rfl, rfl, trivial⟩ ?_; refine aL_ch [1, 2] 9 (Tryz.call117) (compactMv_asc (mkM a.moves) (by have := mkM_len a.moves; omega) (mkM_asc _) hM) ?_; rintro v9 _ _ ⟨hv9, rfl, rfl⟩; have hv9' := hv9.symm; subst hv9')
     <;> refine xL 10 (q_fldo 1 tFl25_4_LfN) ?_
     <;> refine s_st 1 tNa23_LfN tSz23_LfN ?_
     <;> refine aL_end (nav ?_) <;> try dsimp only)
   refine aC_ent (freezeCell (l := 1) (l' := 1000) (j := 4) rfl rfl rfl rfl) fun _ => ?_
   rw [share_mvl _ _ _ rfl]
   (refine aC_region ?_
     <;> (refine yL 11 (q_ldao 1 tAgg25_LfN) fun v11 hv11 => ?_; cases hv11)
     <;> (refine cP 12 (cA Tryz.call83 (hr)) fun va12 vb12 hva12 hvb12 => ?_; cases hvb12)
     <;> refine xL 13 q_extract ?_
     <;> refine xL 14 q_extract ?_
     <;> refine s_sta 2 tAgg25_LfN ?_
     <;> refine xL 3 q_assign ?_
     <;> refine aL_end (nav ?_) <;> try dsimp only)
   exact ret_hcs (k := 5) 2 [] (by kernel_rfl) (Tryz.results88) rfl rfl rfl (Nat.le_of_ble_eq_true rfl) (by decide) rfl trivial fun V => ⟨⟨V, rfl⟩, rfl, rfl⟩)
theorem aReduced_mk (a : Aut) (hl : a.moves.length ≤ 1000000) (h : PreA a) : AF Tryz.prog 83 [pAut (mkA a)] (· = resW (madeX a)) :=
  aReduced_e (mkA a) (by have := mkM_len a.moves; show (mkM a.moves).length ≤ 1000000; omega) h.aok
end Go.Proofs.YtgigclnaicbiaaaGreatDoor
