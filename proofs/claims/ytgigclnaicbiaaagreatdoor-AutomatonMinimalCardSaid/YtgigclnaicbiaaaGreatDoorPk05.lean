/-
  Walks: automata: the minimal automaton of a table.
  Walks: automata: the minimal automaton of an automaton.
  Plain laws: what minimal automata are like; complements. No program in sight.
  Walks: automata: Minimal and Complement.
  The engine: quotients; a struct and a value are handed back beside what is owned. No program in sight.
  Walks: the reference's automata: lists of numbers as texts.
  Walks: the reference's automata: the subset automaton. Its final states are handed over.
  Walks: the reference's automata: the classes of a table's states.
  Walks: the reference's automata: the automaton of a table.
  Walks: the reference's automata: the least automaton of a table.
  Plain laws: searches that go alike; the least automaton of a table whose final states are turned. No program in sight.
  Walks: the reference's automata: Minimal and Complement.
  Walks: automata: moves are sorted, each is kept once.
  Plain laws: automata that operations make. No program in sight.
  The engine: four operations that come up together. No program in sight.
  Walks: automata: what an operation made is minimized; Star.
-/
import Derived.Test.YtgigclnaicbiaaaGreatDoorPk04
import Derived.Test.YtgigclnaicbiaaaGreatDoorMShelfF
namespace Go.Proofs.YtgigclnaicbiaaaGreatDoor
open Go.RowKit Go.Cb Go.En
set_option linter.all false
set_option maxRecDepth 100000

theorem tAgg25_LfD : AggT Tryz.prog 25 5 = true := by kernel_rfl
theorem tAgg93_LfD : AggT Tryz.prog 93 3 = true := by kernel_rfl
theorem tEl22_LfD : ElT Tryz.prog 22 3 1 8 (.int .i64 0) := ⟨Tryz.underlying22, by kernel_rfl, rfl, by decide⟩
theorem tEl23_LfD : ElT Tryz.prog 23 72 3 24 (.agg #[(.int .i64 0), (.int .i64 0), (.int .i64 0)]) := ⟨Tryz.underlying23, by kernel_rfl, rfl, by decide⟩
theorem tFl25_0_LfD : FldT Tryz.prog 25 0 0 = true := by kernel_rfl
theorem tFl25_3_LfD : FldT Tryz.prog 25 3 3 = true := by kernel_rfl
theorem tFl25_4_LfD : FldT Tryz.prog 25 4 4 = true := by kernel_rfl
theorem tFl93_0_LfD : FldT Tryz.prog 93 0 0 = true := by kernel_rfl
theorem tFl93_1_LfD : FldT Tryz.prog 93 1 1 = true := by kernel_rfl
theorem tFl93_2_LfD : FldT Tryz.prog 93 2 2 = true := by kernel_rfl
theorem tMp132_LfD : MpT Tryz.prog 132 3 3 (.int .i64) (.int .i64 0) := ⟨Tryz.underlying132, Tryz.underlying3, .inr ⟨_, rfl⟩, by show ZeroT _ _ _; unfold ZeroT; kernel_rfl⟩
theorem tNa22_LfD : NoAgg Tryz.prog 22 = true := by kernel_rfl
theorem tNa23_LfD : NoAgg Tryz.prog 23 = true := by kernel_rfl
theorem tNa28_LfD : NoAgg Tryz.prog 28 = true := by kernel_rfl
theorem tNa3_LfD : NoAgg Tryz.prog 3 = true := by kernel_rfl
theorem tNa4_LfD : NoAgg Tryz.prog 4 = true := by kernel_rfl
theorem tNa66_LfD : NoAgg Tryz.prog 66 = true := by kernel_rfl
theorem tSl22_LfD : SlT Tryz.prog 22 3 1 = true := by kernel_rfl
theorem tSl23_LfD : SlT Tryz.prog 23 72 3 = true := by kernel_rfl
theorem tSl28_LfD : SlT Tryz.prog 28 22 1 = true := by kernel_rfl
theorem tSl66_LfD : SlT Tryz.prog 66 4 1 = true := by kernel_rfl
theorem tSt25_LfD : stInfo Tryz.prog 25 = some ((.agg #[(.int .i64 0), (.int .i64 0), (.slice none 0 0), (.slice none 0 0), (.slice none 0 0)]), ([0, 1, 2, 3, 4] : List Nat).map fun o => (o, 1)) := by kernel_rfl
theorem tSt72_LfD : stInfo Tryz.prog 72 = some ((.agg #[(.int .i64 0), (.int .i64 0), (.int .i64 0)]), ([0, 1, 2] : List Nat).map fun o => (o, 1)) := by kernel_rfl
theorem tSz22_LfD : (Tryz.prog.info? 22).map (·.size) = some 1 := by kernel_rfl
theorem tSz23_LfD : (Tryz.prog.info? 23).map (·.size) = some 1 := by kernel_rfl
theorem tSz3_LfD : (Tryz.prog.info? 3).map (·.size) = some 1 := by kernel_rfl
theorem tZr25_LfD : ZeroT Tryz.prog 25 (.agg #[(.int .i64 0), (.int .i64 0), (.slice none 0 0), (.slice none 0 0), (.slice none 0 0)]) := by unfold ZeroT; kernel_rfl

section
variable {α : Type}
def numAtI (f : α → Int) (o : List α) (x : α) : Nat := if posK f o (f x) < o.length then posK f o (f x) else 0
theorem num_lookI (f : α → Int) (o : List α) (x : α) : (mget (ikv (numE f 0 o)) (.int .i64 (f x))).getD (.int .i64 0) = .int .i64 (numAtI f o x : Nat) ∧ (mget (ikv (numE f 0 o)) (.int .i64 (f x))).isSome = decide (posK f o (f x) < o.length) := by
  rw [mget_ikv, numE_get]
  unfold numAtI
  by_cases h : posK f o (f x) < o.length
  · rw [if_pos h, if_pos h, decide_eq_true h, Nat.zero_add]; exact ⟨rfl, rfl⟩
  · rw [if_neg h, if_neg h, decide_eq_false h]; exact ⟨rfl, rfl⟩
theorem num_putI {f : α → Int} {o : List α} {x : α} (h : ¬ posK f o (f x) < o.length) : mput (ikv (numE f 0 o)) (.int .i64 (f x)) (.int .i64 (o.length : Nat)) = ikv (numE f 0 (o ++ [x])) := by
  have := numE_put f x o 0 h
  rw [Nat.zero_add] at this
  rw [mput_ikv, this]
end
section
variable {α : Type} {P : Program} {sL hP : List (Nat × Ent)} {o : Oper}
theorem q_num2I {t ks e : Nat} {kd : TypeDesc} {z : Value} {x y : Operand} {m : Value} {f : α → Int} {L : List α} {a : α} {p q : PV} (l : Nat) (hT : MpT P t ks e kd z) (hz : z = .int .i64 0) (hkd : kd = .int .i64) (ho : o.op = .lookup t x y true := by exact rfl) (hx : ev sL x = some (m, p) := by exact rfl) (hl : lk hP l = some (m, .omap (ikv (numE f 0 L))) := by exact rfl) (hy : ev sL y = some (.int .i64 (f a), q) := by exact rfl) :
    YE P (⟨sL, hP⟩ : St) o (· = .tuple [.int .i64 (numAtI f L a : Nat), .bool (decide (posK f L (f a) < L.length))].toArray) (.tup [.val (.int .i64 (numAtI f L a : Nat)), .val (.bool (decide (posK f L (f a) < L.length)))]) := by
  subst hz hkd
  have h := q_looko2 (sL := sL) (hP := hP) (o := o) l hT ho hx hl hy (kok_ikv _ _)
  rw [(num_lookI f L a).1, (num_lookI f L a).2] at h
  exact h
end
def clsI (t : Tab) (x : Nat) : Int := (clsT t x : Nat)
theorem clsI_id (t : Tab) (o : List Nat) (x : Nat) : posK (clsI t) o (clsI t x) = posK (clsT t) o (clsT t x) := posK_inj fun y _ => by unfold clsI; omega
theorem listedL_pre {t : Tab} {o o' : List Nat} (h : o <+: o') : ∀ k, k ≤ o.length → listedL k (finAt t o) = listedL k (finAt t o')
  | 0, _ => rfl
  | k + 1, hk => by
    rw [listedL_snoc, listedL_snoc, listedL_pre h k (by omega)]
    obtain ⟨x, hx⟩ := get_some (show k < o.length by omega)
    unfold finAt
    rw [hx, preG_get h hx]
theorem snoc_mv (e : Nat) (L : List Mv) (x : Mv) : PV.own e 3 (L.length + 1) (L.flatMap cMv ++ cMv x) = .own e 3 (L ++ [x]).length ((L ++ [x]).flatMap cMv) := by simp
theorem share_mvl (e n : Nat) (l : List Mv) (hn : n = l.length) : share (.own e 3 n (l.flatMap cMv)) = pMvs l := by
  subst hn
  rw [share, shares_eq, List.map_flatMap]; rfl
theorem own_ints (e : Nat) (L : List Int) (x : Int) : PV.own e 1 (L.length + 1) (L.map pInt ++ [pInt x]) = .own e 1 (L ++ [x]).length ((L ++ [x]).map pInt) := by simp
theorem mv_room {rows : List (List Nat)} {r : List Nat} {n m : Nat} (h : ∀ x ∈ rows, x.length = m) (hm : m ≤ 40) (hn : rows.length ≤ 2000) (hr : r.length ≤ m) : (movesT rows ++ rowMv n r).length ≤ 80040 := by
  rw [List.length_append, movesT_len rows h, rowMv_len]
  have : rows.length * m ≤ 2000 * 40 := Nat.mul_le_mul hn hm
  omega
set_option maxHeartbeats 4000000 in
theorem aMinimal_e (t : Tab) (ht : TOk t) : AF Tryz.prog 72 [pTab t] (· = resW (lim (leastT t))) := by
  have hn1 := ht.n1
  have hfl := ht.fl
  have hm1 := ht.m1
  have hpos := ht.pos
  refine AF.of_body 101 Tryz.func72 rfl Tryz.ntmps72 (Nat.le_of_ble_eq_true rfl) ?_
  intro w0 M0 vs hl hv
  obtain ⟨v0, rfl⟩ := len1 hl
  clear hl hv
  refine nav ?_
  (refine aC_region ?_
    <;> refine s_boxa 1 3 fun h1 => ?_
    <;> refine s_alloc [(.int .i64 0), (.int .i64 0), (.slice none 0 0), (.slice none 0 0), (.slice none 0 0)] 5 2 tZr25_LfD fun h2 => ?_
    <;> refine xL 3 q_assign ?_
    <;> refine aL_end (nav ?_) <;> try dsimp only)
  (refine aC_region ?_
    <;> (refine yL 13 (q_ldao 1 tAgg93_LfD) fun v13 hv13 => ?_; cases hv13)
    <;> (refine cO 14 (cA Tryz.call105 (aClasses_e t ht)) fun v14 ho14 => ?_; refine aL_ent (En.freeze (l := 14) (t := 14) rfl rfl) fun _ => ?_; rw [show share (.own 3 1 t.rows.length (vec t.rows.length fun s => pInt (clsT t s : Nat))) = .sl t.rows.length (vec t.rows.length fun s => pInt (clsT t s : Nat)) by rw [share, shares_eq, vec_map]; rfl])
    <;> refine xL 4 q_assign ?_
    <;> refine aL_end (nav ?_) <;> try dsimp only)
  have e1 := vec_at1 (fun s => pInt (clsT t s : Nat)) hpos
  (refine aC_region ?_
    <;> refine s_mkmap 15 fun h15 ho15 => ?_
    <;> refine xL 16 q_move ?_
    <;> refine xL 17 (q_idxN (i := 0) tSl22_LfD) ?_
    <;> (refine yL 18 (q_ld tNa3_LfD) fun v18 hv18 => ?_; cases hv18)
    <;> (refine s_mins 15 tMp132_LfD ?_; rw [show mput [] (.int .i64 ((clsT t 0 : Nat) : Int)) (.int .i64 0) = ikv (numE (clsI t) 0 [0]) from rfl])
    <;> refine xL 19 q_move ?_
    <;> refine xL 5 q_assign ?_
    <;> refine aL_end (nav ?_) <;> try dsimp only)
  (refine aC_region ?_
    <;> refine s_lit1 (kk := 1) 20 tEl22_LfD fun h20 ho20 => ?_
    <;> refine xL 6 q_assign ?_
    <;> refine aL_end (nav ?_) <;> try dsimp only)
  refine aC_ent (relabel (l := 15) 304 rfl rfl) fun _ => ?_
  refine aC_ent (relabel (l := 20) 303 rfl rfl) fun _ => ?_
  refine aC_ent (recast (l := 303) (p' := .own 3 1 ([0] : List Nat).length ((toI [0]).map pInt)) rfl rfl) fun _ => ?_
  (refine aC_region ?_
    <;> refine xL 21 (q_fldo 1 tFl93_0_LfD) ?_
    <;> (refine yL 22 (q_ldo 1 tNa3_LfD) fun v22 hv22 => ?_; cases hv22)
    <;> (refine s_lit1 (kk := 1) 23 tEl22_LfD fun h23 ho23 => ?_; refine aL_ent (En.freeze (l := 23) (t := 23) rfl rfl) fun _ => ?_; rw [show share (PV.own 3 1 1 [PV.val (.int .i64 0)]) = pInts [0] from rfl])
    <;> refine xL 24 (q_build tSt25_LfD) ?_
    <;> refine s_alloc [(.int .i64 0), (.int .i64 0), (.slice none 0 0), (.slice none 0 0), (.slice none 0 0)] 5 7 tZr25_LfD fun h7 => ?_
    <;> refine s_sta 7 tAgg25_LfD ?_
    <;> refine aL_end (nav ?_) <;> try dsimp only)
  refine aC_ent (nilCells (l := 7) [pInt 0, pInt (t.m : Nat), pInts [0], .own 3 1 0 [], .own 72 3 0 []] rfl rfl (fun i p p' h1 h2 => by
    match i with
    | 0 => cases h1; cases h2; exact .inl rfl
    | 1 => cases h1; cases h2; exact .inl rfl
    | 2 => cases h1; cases h2; exact .inl rfl
    | 3 => cases h1; cases h2; exact .inr ⟨rfl, _, _, rfl⟩
    | 4 => cases h1; cases h2; exact .inr ⟨rfl, _, _, rfl⟩
    | i + 5 => simp at h2)) fun _ => ?_
  refine aC_ent (focusO (l := 7) (l' := 301) (j := 3) rfl rfl rfl rfl) fun i => ?_
  obtain ⟨v301, ho301⟩ := i
  refine aC_ent (focusO (l := 7) (l' := 302) (j := 4) rfl rfl rfl rfl) fun i => ?_
  obtain ⟨v302, ho302⟩ := i
  dsimp only [List.set]
  (refine aC_region ?_
    <;> refine xL 8 q_assign ?_
    <;> refine aL_end (nav ?_) <;> try dsimp only)
  refine aC_loop (ι := { q : Nat × Value × Value × Value × List Nat × List (List Nat) // (minW t).upto 0 q.1 = some (q.2.2.2.2.1, q.2.2.2.2.2) ∧ q.1 ≤ q.2.2.2.2.1.length ∧ q.2.1.oneCell' = true ∧ q.2.2.1.oneCell' = true ∧ q.2.2.2.1.oneCell' = true }) (fun k => ⟨[(1, _, _), (2, _, _), (3, _, _), (4, _, _), (5, _, _), (7, _, _), (6, k.1.2.2.2.1, .val k.1.2.2.2.1), (8, .int .i64 k.1.1, pInt k.1.1)], [(1, _, _), (2, _, _), (7, h7, .own 25 5 1 [pInt 0, pInt (t.m : Nat), pInts [0], .val k.1.2.1, .val k.1.2.2.1]), (301, k.1.2.1, .own 3 1 (listedL k.1.1 (finAt t k.1.2.2.2.2.1)).length ((listedL k.1.1 (finAt t k.1.2.2.2.2.1)).map pInt)), (302, k.1.2.2.1, .own 72 3 (movesT k.1.2.2.2.2.2).length ((movesT k.1.2.2.2.2.2).flatMap cMv)), (303, k.1.2.2.2.1, .own 3 1 k.1.2.2.2.2.1.length ((toI k.1.2.2.2.2.1).map pInt)), (304, h15, .omap (ikv (numE (clsI t) 0 k.1.2.2.2.2.1)))]⟩) (fun k => 2000 - k.1.1) ⟨(0, v301, v302, h20, [0], []), rfl, Nat.zero_le _, ho301, ho302, ho20⟩ (fun a w H => H.weaken ⟨rfl, rfl, rfl, rfl, rfl, rfl, rfl, rfl, trivial⟩ ⟨rfl, rfl, rfl, rfl, rfl, rfl, rfl, trivial⟩) ?_
  rintro ⟨⟨i, hF, hM, hO, o, rows⟩, hU, hi, hFo, hMo, hOo⟩
  dsimp only
  dsimp only at hU hi hFo hMo hOo
  obtain ⟨hOk, hRl, _⟩ := min_ok ht hU
  have hRl := hRl hi
  have hcap : o.length ≤ t.rows.length := hOk.cap
  have hrw := hOk.len
  have htl := toI_len o
  have hll := listedL_len i (finAt t o)
  refine nav ?_
  (refine aC_region ?_
    <;> refine xL 25 q_move ?_
    <;> refine xL 26 q_move ?_
    <;> refine xL 27 (q_leno 303 tSl22_LfD) ?_
    <;> refine xL 28 q_lss ?_
    <;> refine aL_end (nav ?_) <;> try dsimp only)
  first | refine cCd (fun hb28 => ?_) (fun hb28 => ?_) | refine cC (fun hb28 => ?_) (fun hb28 => ?_)
  · first
    | exact Bool.noConfusion hb28
    | (
     obtain ⟨x, hx⟩ := get_some (show i < o.length by omega)
     have hxn : x < t.rows.length := hOk.p x (List.mem_of_getElem? hx)
     have e1 : ((toI o).map pInt)[i * 1]? = some (pInt (x : Nat)) := by rw [Nat.mul_one, List.getElem?_map]; unfold toI; rw [List.getElem?_map, hx]; rfl
     obtain ⟨b, hb⟩ := get_some (show x < t.fin.length by omega)
     have e2 := map_at (f := pBool) hb
     obtain ⟨row, hrow⟩ := get_some hxn
     have e3 := map_at (f := pNats) hrow
     have hrl := ht.rl row (List.mem_of_getElem? hrow)
     have hrt := ht.to row (List.mem_of_getElem? hrow)
     have hrtl := toI_len row
     have hfa : finAt t o i = b := by unfold finAt; rw [hx]; show (t.fin[x]?).getD false = b; rw [hb]; rfl
     have hL1 := listedL_snoc i (finAt t o)
     rw [hfa] at hL1
     refine nav ?_
     (refine aC_draw (fun i => ([] : List Nat).elem i) [1, 303] (by kernel_rfl) ?_
       <;> refine xD 0 31 rfl (q_fldo 1 tFl93_2_LfD) ?_
       <;> (refine yD 1 32 rfl (q_ldo 1 tNa66_LfD) fun v32 hv32 => ?_; cases hv32)
       <;> refine xD 2 33 rfl q_move ?_
       <;> refine xE 3 34 rfl q_move ?_
       <;> refine xE 4 35 rfl (q_idxoN 303 tSl22_LfD) ?_
       <;> (refine yE 5 36 rfl (q_ldo 303 tNa3_LfD) fun v36 hv36 => ?_; cases hv36)
       <;> refine xE 6 37 rfl (q_idxN tSl66_LfD) ?_
       <;> (refine yE 7 38 rfl (q_ld tNa4_LfD) fun v38 hv38 => ?_; cases hv38)
       <;> refine aD_end (by kernel_rfl) (nav ?_)
       <;> try dsimp only)
     first | refine cCd (fun hb38 => ?_) (fun hb38 => ?_) | refine cC (fun hb38 => ?_) (fun hb38 => ?_)
     · first
       | exact Bool.noConfusion hb38
       | (
        rw [if_pos hb38] at hL1
        refine nav ?_
        (refine aC_region ?_
          <;> refine xL 39 (q_fldo 7 tFl25_3_LfD) ?_
          <;> (refine yL 40 (q_ldo 7 tNa22_LfD) fun v40 hv40 => ?_; cases hv40)
          <;> refine xL 41 q_move ?_
          <;> refine s_lit1 (kk := 1) 42 tEl22_LfD fun h42 ho42 => ?_
          <;> (refine s_app 301 42 43 tEl22_LfD fun h43 ho43 => ?_; refine aL_ent (relabel (l := 43) 301 rfl rfl) fun _ => ?_; refine aL_ent (recast (l := 301) rfl (own_ints _ (listedL i (finAt t o)) i)) fun _ => ?_)
          <;> refine xL 44 (q_fldo 7 tFl25_3_LfD) ?_
          <;> refine s_st 7 tNa22_LfD tSz22_LfD ?_
          <;> refine aL_end (nav ?_) <;> try dsimp only)
        (refine aC_draw (fun i => ([] : List Nat).elem i) [1, 303] (by kernel_rfl) ?_
          <;> refine xD 0 45 rfl (q_fldo 1 tFl93_1_LfD) ?_
          <;> (refine yD 1 46 rfl (q_ldo 1 tNa28_LfD) fun v46 hv46 => ?_; cases hv46)
          <;> refine xD 2 47 rfl q_move ?_
          <;> refine xD 3 48 rfl q_move ?_
          <;> refine xD 4 49 rfl (q_idxoN 303 tSl22_LfD) ?_
          <;> (refine yD 5 50 rfl (q_ldo 303 tNa3_LfD) fun v50 hv50 => ?_; cases hv50)
          <;> refine xD 6 51 rfl (q_idxN tSl28_LfD) ?_
          <;> (refine yD 7 52 rfl (q_ld tNa22_LfD) fun v52 hv52 => ?_; cases hv52)
          <;> refine xD 8 53 rfl (q_len tSl22_LfD) ?_
          <;> refine xE 9 54 rfl q_move ?_
          <;> refine aD_end (by kernel_rfl) (nav ?_)
          <;> try dsimp only)
        rw [← hL1]
        rw [show movesT rows = movesT rows ++ rowMv i ([] : List Nat) from (List.append_nil _).symm]
        refine aC_loop (ι := { q : Nat × Value × Value × List Nat × List Nat // (minW t).row i x o q.1 = some (q.2.2.2.1, q.2.2.2.2) ∧ q.1 ≤ t.m ∧ q.2.1.oneCell' = true ∧ q.2.2.1.oneCell' = true }) (fun k => ⟨[(1, _, _), (2, _, _), (3, _, _), (4, _, _), (5, _, _), (7, _, _), (8, _, _), (52, _, _), (53, _, _), (6, k.1.2.2.1, .val k.1.2.2.1), (54, .int .i64 k.1.1, pInt k.1.1)], [(1, _, _), (2, _, _), (301, _, _), (7, h7, .own 25 5 1 [pInt 0, pInt (t.m : Nat), pInts [0], _, .val k.1.2.1]), (302, k.1.2.1, .own 72 3 (movesT rows ++ rowMv i k.1.2.2.2.2).length ((movesT rows ++ rowMv i k.1.2.2.2.2).flatMap cMv)), (303, k.1.2.2.1, .own 3 1 k.1.2.2.2.1.length ((toI k.1.2.2.2.1).map pInt)), (304, h15, .omap (ikv (numE (clsI t) 0 k.1.2.2.2.1)))]⟩) (fun k => t.m - k.1.1) ⟨(0, hM, hO, o, []), rfl, Nat.zero_le _, hMo, hOo⟩ (fun a w H => H.weaken ⟨rfl, rfl, rfl, rfl, rfl, rfl, rfl, rfl, rfl, rfl, rfl, trivial⟩ ⟨rfl, rfl, rfl, rfl, rfl, rfl, rfl, trivial⟩) ?_
        rintro ⟨⟨s, hM', hO', o', r⟩, hW, hs, hM'o, hO'o⟩
        dsimp only
        dsimp only at hW hs hM'o hO'o
        obtain ⟨hMt, hpr, hrl2, _⟩ := hOk.toMet.row (fun s _ => toT_lt ht) (show s ≤ (minW t).m from hs) hW
        have hcap' : o'.length ≤ t.rows.length := hMt.cap
        have htl' := toI_len o'
        have hmr := mv_room (n := i) hrw hm1 (by omega) (show r.length ≤ t.m by omega)
        refine nav ?_
        (refine aC_region ?_
          <;> refine xL 55 q_lss ?_
          <;> refine aL_end (nav ?_) <;> try dsimp only)
        first | refine cCd (fun hb55 => ?_) (fun hb55 => ?_) | refine cC (fun hb55 => ?_) (fun hb55 => ?_)
        · first
          | exact Bool.noConfusion hb55
          | (
           obtain ⟨y, hy⟩ := get_some (show s < row.length by omega)
           have hyn := hrt y (List.mem_of_getElem? hy)
           have e4 : ((toI row).map pInt)[s * 1]? = some (pInt (y : Nat)) := by rw [Nat.mul_one, List.getElem?_map]; unfold toI; rw [List.getElem?_map, hy]; rfl
           have e5 := vec_at1 (fun s => pInt (clsT t s : Nat)) hyn
           have hto : (minW t).step i x s = y := toT_at hrow hy
           have hid := clsI_id t o' y
           refine nav ?_
           (refine aC_region ?_
             <;> refine xL 56 q_move ?_
             <;> refine xL 57 (q_idxN tSl22_LfD) ?_
             <;> (refine yL 58 (q_ld tNa3_LfD) fun v58 hv58 => ?_; cases hv58)
             <;> refine xL 9 q_assign ?_
             <;> refine xL 10 q_assign ?_
             <;> refine aL_end (nav ?_) <;> try dsimp only)
           (refine aC_region ?_
             <;> refine xL 60 q_move ?_
             <;> refine xL 61 q_move ?_
             <;> refine xL 62 q_move ?_
             <;> refine xL 63 (q_idxN tSl22_LfD) ?_
             <;> (refine yL 64 (q_ld tNa3_LfD) fun v64 hv64 => ?_; cases hv64)
             <;> refine xL 65 (q_num2I (f := clsI t) (L := o') (a := y) 304 tMp132_LfD rfl rfl) ?_
             <;> refine xL 59 q_move ?_
             <;> refine xL 66 q_extract ?_
             <;> refine xL 67 q_extract ?_
             <;> refine xL 11 q_assign ?_
             <;> refine xL 12 q_assign ?_
             <;> refine aL_end (nav ?_) <;> try dsimp only)
           (refine aC_region ?_
             <;> refine xL 68 q_move ?_
             <;> refine xL 69 q_not ?_
             <;> refine aL_end (nav ?_) <;> try dsimp only)
           first | refine cCd (fun hb69 => ?_) (fun hb69 => ?_) | refine cC (fun hb69 => ?_) (fun hb69 => ?_)
           · first
             | exact Bool.noConfusion hb69
             | (
              have hnew : ¬ posK (clsI t) o' (clsI t y) < o'.length := by simpa using hb69
              have hnew2 : ¬ posK (minW t).key o' ((minW t).key ((minW t).step i x s)) < o'.length := by
                rw [hto]
                show ¬ posK (clsT t) o' (clsT t y) < o'.length
                rw [← hid]; exact hnew
              have hroom := min_visit ht hMt (show (minW t).step i x s < t.rows.length by rw [hto]; exact hyn) hnew2
              refine nav ?_
              (refine aC_region ?_
                <;> refine xL 70 q_move ?_
                <;> refine xL 71 (q_leno 303 tSl22_LfD) ?_
                <;> refine xL 11 q_assign ?_
                <;> refine aL_end (nav ?_) <;> try dsimp only)
              (refine aC_region ?_
                <;> refine xL 72 q_move ?_
                <;> refine xL 73 q_move ?_
                <;> refine xL 74 q_move ?_
                <;> refine xL 75 (q_idxN tSl22_LfD) ?_
                <;> (refine yL 76 (q_ld tNa3_LfD) fun v76 hv76 => ?_; cases hv76)
                <;> refine xL 77 q_move ?_
                <;> (refine s_mput 304 tMp132_LfD ?_; rw [show mput (ikv (numE (clsI t) 0 o')) (.int .i64 ((clsT t y : Nat) : Int)) (.int .i64 ((o'.length : Nat) : Int)) = ikv (numE (clsI t) 0 (o' ++ [y])) from num_putI hnew])
                <;> refine aL_end (nav ?_) <;> try dsimp only)
              (refine aC_region ?_
                <;> refine xL 78 q_move ?_
                <;> refine xL 79 q_move ?_
                <;> refine s_lit1 (kk := 1) 80 tEl22_LfD fun h80 ho80 => ?_
                <;> (refine s_app 303 80 81 tEl22_LfD fun h81 ho81 => ?_; refine aL_ent (relabel (l := 81) 303 rfl rfl) fun _ => ?_; refine aL_ent (recast (l := 303) rfl (own_nats _ o' y)) fun _ => ?_)
                <;> refine xL 6 q_assign ?_
                <;> refine aL_end (nav ?_) <;> try dsimp only)
              (refine aC_region ?_
                <;> refine xL 82 (q_fldo 7 tFl25_4_LfD) ?_
                <;> (refine yL 83 (q_ldo 7 tNa23_LfD) fun v83 hv83 => ?_; cases hv83)
                <;> refine xL 84 q_move ?_
                <;> refine xL 85 q_move ?_
                <;> refine xL 86 q_move ?_
                <;> refine xL 87 (q_build tSt72_LfD) ?_
                <;> refine s_lit1a 88 tEl23_LfD fun h88 ho88 => ?_
                <;> (refine s_app 302 88 89 tEl23_LfD fun h89 ho89 => ?_; refine aL_ent (relabel (l := 89) 302 rfl rfl) fun _ => ?_; first | refine aL_ent (recast (l := 302) rfl (snoc_mv _ (movesT rows ++ rowMv i r) ⟨(i : Nat), (o'.length : Nat), (s : Nat)⟩)) fun _ => ?_ | refine aL_ent (recast (l := 302) rfl (snoc_mv _ (movesT rows ++ rowMv i r) ⟨(i : Nat), (numAtI (clsI t) o' y : Nat), (s : Nat)⟩)) fun _ => ?_)
                <;> refine xL 90 (q_fldo 7 tFl25_4_LfD) ?_
                <;> refine s_st 7 tNa23_LfD tSz23_LfD ?_
                <;> refine aL_end (nav ?_) <;> try dsimp only)
              (refine aC_region ?_
                <;> refine xL 91 q_add ?_
                <;> refine xL 54 q_move ?_
                <;> refine aL_end (nav ?_) <;> try dsimp only)
              try rw [show (movesT rows ++ rowMv i r) ++ [(⟨(i : Nat), (o'.length : Nat), (s : Nat)⟩ : Mv)] = movesT rows ++ rowMv i (r ++ [o'.length]) by rw [rowMv_snoc, hrl2, List.append_assoc]]
              try rw [show (movesT rows ++ rowMv i r) ++ [(⟨(i : Nat), (numAtI (clsI t) o' y : Nat), (s : Nat)⟩ : Mv)] = movesT rows ++ rowMv i (r ++ [numAtI (clsI t) o' y]) by rw [rowMv_snoc, hrl2, List.append_assoc]]
              first
                | (exact aN_again (
                    ⟨(s + 1, h89, h81, o' ++ [y], r ++ [o'.length]), (by dsimp only; exact (by have h9 := Srch.row_snoc hW (visit_new hnew2 hroom); rwa [hto] at h9)), (by dsimp only; omega), ho89, ho81⟩
                    ) (by dsimp only; omega) ⟨rfl, rfl, rfl, rfl, rfl, rfl, rfl, rfl, rfl, rfl, rfl, trivial⟩ ⟨rfl, rfl, rfl, rfl, rfl, rfl, rfl, trivial⟩)
                | (exact aN_again (
                    ⟨(s + 1, h89, hO', o', r ++ [numAtI (clsI t) o' y]), (by dsimp only; rw [hnum]; exact Srch.row_snoc hW (visit_old hold2)), (by dsimp only; omega), ho89, hO'o⟩
                    ) (by dsimp only; omega) ⟨rfl, rfl, rfl, rfl, rfl, rfl, rfl, rfl, rfl, rfl, rfl, trivial⟩ ⟨rfl, rfl, rfl, rfl, rfl, rfl, rfl, trivial⟩))
           · first
             | exact Bool.noConfusion hb69
             | (
              have hold : posK (clsI t) o' (clsI t y) < o'.length := by simpa using hb69
              have hold2 : posK (minW t).key o' ((minW t).key ((minW t).step i x s)) < o'.length := by
                rw [hto]
                show posK (clsT t) o' (clsT t y) < o'.length
                rw [← hid]; exact hold
              have hnum : numAtI (clsI t) o' y = posK (minW t).key o' ((minW t).key ((minW t).step i x s)) := by
                rw [hto]
                show numAtI (clsI t) o' y = posK (clsT t) o' (clsT t y)
                unfold numAtI
                rw [if_pos hold, hid]
              refine nav ?_
              (refine aC_region ?_
                <;> refine xL 82 (q_fldo 7 tFl25_4_LfD) ?_
                <;> (refine yL 83 (q_ldo 7 tNa23_LfD) fun v83 hv83 => ?_; cases hv83)
                <;> refine xL 84 q_move ?_
                <;> refine xL 85 q_move ?_
                <;> refine xL 86 q_move ?_
                <;> refine xL 87 (q_build tSt72_LfD) ?_
                <;> refine s_lit1a 88 tEl23_LfD fun h88 ho88 => ?_
                <;> (refine s_app 302 88 89 tEl23_LfD fun h89 ho89 => ?_; refine aL_ent (relabel (l := 89) 302 rfl rfl) fun _ => ?_; first | refine aL_ent (recast (l := 302) rfl (snoc_mv _ (movesT rows ++ rowMv i r) ⟨(i : Nat), (o'.length : Nat), (s : Nat)⟩)) fun _ => ?_ | refine aL_ent (recast (l := 302) rfl (snoc_mv _ (movesT rows ++ rowMv i r) ⟨(i : Nat), (numAtI (clsI t) o' y : Nat), (s : Nat)⟩)) fun _ => ?_)
                <;> refine xL 90 (q_fldo 7 tFl25_4_LfD) ?_
                <;> refine s_st 7 tNa23_LfD tSz23_LfD ?_
                <;> refine aL_end (nav ?_) <;> try dsimp only)
              (refine aC_region ?_
                <;> refine xL 91 q_add ?_
                <;> refine xL 54 q_move ?_
                <;> refine aL_end (nav ?_) <;> try dsimp only)
              try rw [show (movesT rows ++ rowMv i r) ++ [(⟨(i : Nat), (o'.length : Nat), (s : Nat)⟩ : Mv)] = movesT rows ++ rowMv i (r ++ [o'.length]) by rw [rowMv_snoc, hrl2, List.append_assoc]]
              try rw [show (movesT rows ++ rowMv i r) ++ [(⟨(i : Nat), (numAtI (clsI t) o' y : Nat), (s : Nat)⟩ : Mv)] = movesT rows ++ rowMv i (r ++ [numAtI (clsI t) o' y]) by rw [rowMv_snoc, hrl2, List.append_assoc]]
              first
                | (exact aN_again (
                    ⟨(s + 1, h89, h81, o' ++ [y], r ++ [o'.length]), (by dsimp only; exact (by have h9 := Srch.row_snoc hW (visit_new hnew2 hroom); rwa [hto] at h9)), (by dsimp only; omega), ho89, ho81⟩
                    ) (by dsimp only; omega) ⟨rfl, rfl, rfl, rfl, rfl, rfl, rfl, rfl, rfl, rfl, rfl, trivial⟩ ⟨rfl, rfl, rfl, rfl, rfl, rfl, rfl, trivial⟩)
                | (exact aN_again (
                    ⟨(s + 1, h89, hO', o', r ++ [numAtI (clsI t) o' y]), (by dsimp only; rw [hnum]; exact Srch.row_snoc hW (visit_old hold2)), (by dsimp only; omega), ho89, hO'o⟩
                    ) (by dsimp only; omega) ⟨rfl, rfl, rfl, rfl, rfl, rfl, rfl, rfl, rfl, rfl, rfl, trivial⟩ ⟨rfl, rfl, rfl, rfl, rfl, rfl, rfl, trivial⟩)))
        · first
          | exact Bool.noConfusion hb55
          | (
           have hsm : s = t.m := by omega
           subst hsm
           have hU2 := Srch.upto_snoc hU hx hW
           rw [show movesT rows ++ rowMv i r = movesT (rows ++ [r]) by rw [movesT_snoc, hRl]]
           rw [listedL_pre hpr (i + 1) (by omega)]
           refine nav ?_
           (refine aC_region ?_
             <;> refine xL 29 q_move ?_
             <;> refine xL 30 q_add ?_
             <;> refine xL 8 q_assign ?_
             <;> refine aL_end (nav ?_) <;> try dsimp only)
           first
             | (exact aN_again (
                 ⟨(i + 1, h43, hM', hO', o', rows ++ [r]), hU2, (by dsimp only; have := hpr.length_le; omega), ho43, hM'o, hO'o⟩
                 ) (by dsimp only; omega) ⟨rfl, rfl, rfl, rfl, rfl, rfl, rfl, rfl, trivial⟩ ⟨rfl, rfl, rfl, rfl, rfl, rfl, rfl, trivial⟩)
             | (exact aN_again (
                 ⟨(i + 1, hF, hM', hO', o', rows ++ [r]), hU2, (by dsimp only; have := hpr.length_le; omega), hFo, hM'o, hO'o⟩
                 ) (by dsimp only; omega) ⟨rfl, rfl, rfl, rfl, rfl, rfl, rfl, rfl, trivial⟩ ⟨rfl, rfl, rfl, rfl, rfl, rfl, rfl, trivial⟩)))
     · first
       | exact Bool.noConfusion hb38
       | (
        rw [if_neg (by simpa using hb38), List.append_nil] at hL1
        refine nav ?_
        (refine aC_draw (fun i => ([] : List Nat).elem i) [1, 303] (by kernel_rfl) ?_
          <;> refine xD 0 45 rfl (q_fldo 1 tFl93_1_LfD) ?_
          <;> (refine yD 1 46 rfl (q_ldo 1 tNa28_LfD) fun v46 hv46 => ?_; cases hv46)
          <;> refine xD 2 47 rfl q_move ?_
          <;> refine xD 3 48 rfl q_move ?_
          <;> refine xD 4 49 rfl (q_idxoN 303 tSl22_LfD) ?_
          <;> (refine yD 5 50 rfl (q_ldo 303 tNa3_LfD) fun v50 hv50 => ?_; cases hv50)
          <;> refine xD 6 51 rfl (q_idxN tSl28_LfD) ?_
          <;> (refine yD 7 52 rfl (q_ld tNa22_LfD) fun v52 hv52 => ?_; cases hv52)
          <;> refine xD 8 53 rfl (q_len tSl22_LfD) ?_
          <;> refine xE 9 54 rfl q_move ?_
          <;> refine aD_end (by kernel_rfl) (nav ?_)
          <;> try dsimp only)
        rw [← hL1]
        rw [show movesT rows = movesT rows ++ rowMv i ([] : List Nat) from (List.append_nil _).symm]
        refine aC_loop (ι := { q : Nat × Value × Value × List Nat × List Nat // (minW t).row i x o q.1 = some (q.2.2.2.1, q.2.2.2.2) ∧ q.1 ≤ t.m ∧ q.2.1.oneCell' = true ∧ q.2.2.1.oneCell' = true }) (fun k => ⟨[(1, _, _), (2, _, _), (3, _, _), (4, _, _), (5, _, _), (7, _, _), (8, _, _), (52, _, _), (53, _, _), (6, k.1.2.2.1, .val k.1.2.2.1), (54, .int .i64 k.1.1, pInt k.1.1)], [(1, _, _), (2, _, _), (301, _, _), (7, h7, .own 25 5 1 [pInt 0, pInt (t.m : Nat), pInts [0], _, .val k.1.2.1]), (302, k.1.2.1, .own 72 3 (movesT rows ++ rowMv i k.1.2.2.2.2).length ((movesT rows ++ rowMv i k.1.2.2.2.2).flatMap cMv)), (303, k.1.2.2.1, .own 3 1 k.1.2.2.2.1.length ((toI k.1.2.2.2.1).map pInt)), (304, h15, .omap (ikv (numE (clsI t) 0 k.1.2.2.2.1)))]⟩) (fun k => t.m - k.1.1) ⟨(0, hM, hO, o, []), rfl, Nat.zero_le _, hMo, hOo⟩ (fun a w H => H.weaken ⟨rfl, rfl, rfl, rfl, rfl, rfl, rfl, rfl, rfl, rfl, rfl, trivial⟩ ⟨rfl, rfl, rfl, rfl, rfl, rfl, rfl, trivial⟩) ?_
        rintro ⟨⟨s, hM', hO', o', r⟩, hW, hs, hM'o, hO'o⟩
        dsimp only
        dsimp only at hW hs hM'o hO'o
        obtain ⟨hMt, hpr, hrl2, _⟩ := hOk.toMet.row (fun s _ => toT_lt ht) (show s ≤ (minW t).m from hs) hW
        have hcap' : o'.length ≤ t.rows.length := hMt.cap
        have htl' := toI_len o'
        have hmr := mv_room (n := i) hrw hm1 (by omega) (show r.length ≤ t.m by omega)
        refine nav ?_
        (refine aC_region ?_
          <;> refine xL 55 q_lss ?_
          <;> refine aL_end (nav ?_) <;> try dsimp only)
        first | refine cCd (fun hb55 => ?_) (fun hb55 => ?_) | refine cC (fun hb55 => ?_) (fun hb55 => ?_)
        · first
          | exact Bool.noConfusion hb55
          | (
           obtain ⟨y, hy⟩ := get_some (show s < row.length by omega)
           have hyn := hrt y (List.mem_of_getElem? hy)
           have e4 : ((toI row).map pInt)[s * 1]? = some (pInt (y : Nat)) := by rw [Nat.mul_one, List.getElem?_map]; unfold toI; rw [List.getElem?_map, hy]; rfl
           have e5 := vec_at1 (fun s => pInt (clsT t s : Nat)) hyn
           have hto : (minW t).step i x s = y := toT_at hrow hy
           have hid := clsI_id t o' y
           refine nav ?_
           (refine aC_region ?_
             <;> refine xL 56 q_move ?_
             <;> refine xL 57 (q_idxN tSl22_LfD) ?_
             <;> (refine yL 58 (q_ld tNa3_LfD) fun v58 hv58 => ?_; cases hv58)
             <;> refine xL 9 q_assign ?_
             <;> refine xL 10 q_assign ?_
             <;> refine aL_end (nav ?_) <;> try dsimp only)
           (refine aC_region ?_
             <;> refine xL 60 q_move ?_
             <;> refine xL 61 q_move ?_
             <;> refine xL 62 q_move ?_
             <;> refine xL 63 (q_idxN tSl22_LfD) ?_
             <;> (refine yL 64 (q_ld tNa3_LfD) fun v64 hv64 => ?_; cases hv64)
             <;> refine xL 65 (q_num2I (f := clsI t) (L := o') (a := y) 304 tMp132_LfD rfl rfl) ?_
             <;> refine xL 59 q_move ?_
             <;> refine xL 66 q_extract ?_
             <;> refine xL 67 q_extract ?_
             <;> refine xL 11 q_assign ?_
             <;> refine xL 12 q_assign ?_
             <;> refine aL_end (nav ?_) <;> try dsimp only)
           (refine aC_region ?_
             <;> refine xL 68 q_move ?_
             <;> refine xL 69 q_not ?_
             <;> refine aL_end (nav ?_) <;> try dsimp only)
           first | refine cCd (fun hb69 => ?_) (fun hb69 => ?_) | refine cC (fun hb69 => ?_) (fun hb69 => ?_)
           · first
             | exact Bool.noConfusion hb69
             | (
              have hnew : ¬ posK (clsI t) o' (clsI t y) < o'.length := by simpa using hb69
              have hnew2 : ¬ posK (minW t).key o' ((minW t).key ((minW t).step i x s)) < o'.length := by
                rw [hto]
                show ¬ posK (clsT t) o' (clsT t y) < o'.length
                rw [← hid]; exact hnew
              have hroom := min_visit ht hMt (show (minW t).step i x s < t.rows.length by rw [hto]; exact hyn) hnew2
              refine nav ?_
              (refine aC_region ?_
                <;> refine xL 70 q_move ?_
                <;> refine xL 71 (q_leno 303 tSl22_LfD) ?_
                <;> refine xL 11 q_assign ?_
                <;> refine aL_end (nav ?_) <;> try dsimp only)
              (refine aC_region ?_
                <;> refine xL 72 q_move ?_
                <;> refine xL 73 q_move ?_
                <;> refine xL 74 q_move ?_
                <;> refine xL 75 (q_idxN tSl22_LfD) ?_
                <;> (refine yL 76 (q_ld tNa3_LfD) fun v76 hv76 => ?_; cases hv76)
                <;> refine xL 77 q_move ?_
                <;> (refine s_mput 304 tMp132_LfD ?_; rw [show mput (ikv (numE (clsI t) 0 o')) (.int .i64 ((clsT t y : Nat) : Int)) (.int .i64 ((o'.length : Nat) : Int)) = ikv (numE (clsI t) 0 (o' ++ [y])) from num_putI hnew])
                <;> refine aL_end (nav ?_) <;> try dsimp only)
              (refine aC_region ?_
                <;> refine xL 78 q_move ?_
                <;> refine xL 79 q_move ?_
                <;> refine s_lit1 (kk := 1) 80 tEl22_LfD fun h80 ho80 => ?_
                <;> (refine s_app 303 80 81 tEl22_LfD fun h81 ho81 => ?_; refine aL_ent (relabel (l := 81) 303 rfl rfl) fun _ => ?_; refine aL_ent (recast (l := 303) rfl (own_nats _ o' y)) fun _ => ?_)
                <;> refine xL 6 q_assign ?_
                <;> refine aL_end (nav ?_) <;> try dsimp only)
              (refine aC_region ?_
                <;> refine xL 82 (q_fldo 7 tFl25_4_LfD) ?_
                <;> (refine yL 83 (q_ldo 7 tNa23_LfD) fun v83 hv83 => ?_; cases hv83)
                <;> refine xL 84 q_move ?_
                <;> refine xL 85 q_move ?_
                <;> refine xL 86 q_move ?_
                <;> refine xL 87 (q_build tSt72_LfD) ?_
                <;> refine s_lit1a 88 tEl23_LfD fun h88 ho88 => ?_
                <;> (refine s_app 302 88 89 tEl23_LfD fun h89 ho89 => ?_; refine aL_ent (relabel (l := 89) 302 rfl rfl) fun _ => ?_; first | refine aL_ent (recast (l := 302) rfl (snoc_mv _ (movesT rows ++ rowMv i r) ⟨(i : Nat), (o'.length : Nat), (s : Nat)⟩)) fun _ => ?_ | refine aL_ent (recast (l := 302) rfl (snoc_mv _ (movesT rows ++ rowMv i r) ⟨(i : Nat), (numAtI (clsI t) o' y : Nat), (s : Nat)⟩)) fun _ => ?_)
                <;> refine xL 90 (q_fldo 7 tFl25_4_LfD) ?_
                <;> refine s_st 7 tNa23_LfD tSz23_LfD ?_
                <;> refine aL_end (nav ?_) <;> try dsimp only)
              (refine aC_region ?_
                <;> refine xL 91 q_add ?_
                <;> refine xL 54 q_move ?_
                <;> refine aL_end (nav ?_) <;> try dsimp only)
              try rw [show (movesT rows ++ rowMv i r) ++ [(⟨(i : Nat), (o'.length : Nat), (s : Nat)⟩ : Mv)] = movesT rows ++ rowMv i (r ++ [o'.length]) by rw [rowMv_snoc, hrl2, List.append_assoc]]
              try rw [show (movesT rows ++ rowMv i r) ++ [(⟨(i : Nat), (numAtI (clsI t) o' y : Nat), (s : Nat)⟩ : Mv)] = movesT rows ++ rowMv i (r ++ [numAtI (clsI t) o' y]) by rw [rowMv_snoc, hrl2, List.append_assoc]]
              first
                | (exact aN_again (
                    ⟨(s + 1, h89, h81, o' ++ [y], r ++ [o'.length]), (by dsimp only; exact (by have h9 := Srch.row_snoc hW (visit_new hnew2 hroom); rwa [hto] at h9)), (by dsimp only; omega), ho89, ho81⟩
                    ) (by dsimp only; omega) ⟨rfl, rfl, rfl, rfl, rfl, rfl, rfl, rfl, rfl, rfl, rfl, trivial⟩ ⟨rfl, rfl, rfl, rfl, rfl, rfl, rfl, trivial⟩)
                | (exact aN_again (
                    ⟨(s + 1, h89, hO', o', r ++ [numAtI (clsI t) o' y]), (by dsimp only; rw [hnum]; exact Srch.row_snoc hW (visit_old hold2)), (by dsimp only; omega), ho89, hO'o⟩
                    ) (by dsimp only; omega) ⟨rfl, rfl, rfl, rfl, rfl, rfl, rfl, rfl, rfl, rfl, rfl, trivial⟩ ⟨rfl, rfl, rfl, rfl, rfl, rfl, rfl, trivial⟩))
           · first
             | exact Bool.noConfusion hb69
             | (
              have hold : posK (clsI t) o' (clsI t y) < o'.length := by simpa using hb69
              have hold2 : posK (minW t).key o' ((minW t).key ((minW t).step i x s)) < o'.length := by
                rw [hto]
                show posK (clsT t) o' (clsT t y) < o'.length
                rw [← hid]; exact hold
              have hnum : numAtI (clsI t) o' y = posK (minW t).key o' ((minW t).key ((minW t).step i x s)) := by
                rw [hto]
                show numAtI (clsI t) o' y = posK (clsT t) o' (clsT t y)
                unfold numAtI
                rw [if_pos hold, hid]
              refine nav ?_
              (refine aC_region ?_
                <;> refine xL 82 (q_fldo 7 tFl25_4_LfD) ?_
                <;> (refine yL 83 (q_ldo 7 tNa23_LfD) fun v83 hv83 => ?_; cases hv83)
                <;> refine xL 84 q_move ?_
                <;> refine xL 85 q_move ?_
                <;> refine xL 86 q_move ?_
                <;> refine xL 87 (q_build tSt72_LfD) ?_
                <;> refine s_lit1a 88 tEl23_LfD fun h88 ho88 => ?_
                <;> (refine s_app 302 88 89 tEl23_LfD fun h89 ho89 => ?_; refine aL_ent (relabel (l := 89) 302 rfl rfl) fun _ => ?_; first | refine aL_ent (recast (l := 302) rfl (snoc_mv _ (movesT rows ++ rowMv i r) ⟨(i : Nat), (o'.length : Nat), (s : Nat)⟩)) fun _ => ?_ | refine aL_ent (recast (l := 302) rfl (snoc_mv _ (movesT rows ++ rowMv i r) ⟨(i : Nat), (numAtI (clsI t) o' y : Nat), (s : Nat)⟩)) fun _ => ?_)
                <;> refine xL 90 (q_fldo 7 tFl25_4_LfD) ?_
                <;> refine s_st 7 tNa23_LfD tSz23_LfD ?_
                <;> refine aL_end (nav ?_) <;> try dsimp only)
              (refine aC_region ?_
                <;> refine xL 91 q_add ?_
                <;> refine xL 54 q_move ?_
                <;> refine aL_end (nav ?_) <;> try dsimp only)
              try rw [show (movesT rows ++ rowMv i r) ++ [(⟨(i : Nat), (o'.length : Nat), (s : Nat)⟩ : Mv)] = movesT rows ++ rowMv i (r ++ [o'.length]) by rw [rowMv_snoc, hrl2, List.append_assoc]]
              try rw [show (movesT rows ++ rowMv i r) ++ [(⟨(i : Nat), (numAtI (clsI t) o' y : Nat), (s : Nat)⟩ : Mv)] = movesT rows ++ rowMv i (r ++ [numAtI (clsI t) o' y]) by rw [rowMv_snoc, hrl2, List.append_assoc]]
              first
                | (exact aN_again (
                    ⟨(s + 1, h89, h81, o' ++ [y], r ++ [o'.length]), (by dsimp only; exact (by have h9 := Srch.row_snoc hW (visit_new hnew2 hroom); rwa [hto] at h9)), (by dsimp only; omega), ho89, ho81⟩
                    ) (by dsimp only; omega) ⟨rfl, rfl, rfl, rfl, rfl, rfl, rfl, rfl, rfl, rfl, rfl, trivial⟩ ⟨rfl, rfl, rfl, rfl, rfl, rfl, rfl, trivial⟩)
                | (exact aN_again (
                    ⟨(s + 1, h89, hO', o', r ++ [numAtI (clsI t) o' y]), (by dsimp only; rw [hnum]; exact Srch.row_snoc hW (visit_old hold2)), (by dsimp only; omega), ho89, hO'o⟩
                    ) (by dsimp only; omega) ⟨rfl, rfl, rfl, rfl, rfl, rfl, rfl, rfl, rfl, rfl, rfl, trivial⟩ ⟨rfl, rfl, rfl, rfl, rfl, rfl, rfl, trivial⟩)))
        · first
          | exact Bool.noConfusion hb55
          | (
           have hsm : s = t.m := by omega
           subst hsm
           have hU2 := Srch.upto_snoc hU hx hW
           rw [show movesT rows ++ rowMv i r = movesT (rows ++ [r]) by rw [movesT_snoc, hRl]]
           rw [listedL_pre hpr (i + 1) (by omega)]
           refine nav ?_
           (refine aC_region ?_
             <;> refine xL 29 q_move ?_
             <;> refine xL 30 q_add ?_
             <;> refine xL 8 q_assign ?_
             <;> refine aL_end (nav ?_) <;> try dsimp only)
           first
             | (exact aN_again (
                 ⟨(i + 1, h43, hM', hO', o', rows ++ [r]), hU2, (by dsimp only; have := hpr.length_le; omega), ho43, hM'o, hO'o⟩
                 ) (by dsimp only; omega) ⟨rfl, rfl, rfl, rfl, rfl, rfl, rfl, rfl, trivial⟩ ⟨rfl, rfl, rfl, rfl, rfl, rfl, rfl, trivial⟩)
             | (exact aN_again (
                 ⟨(i + 1, hF, hM', hO', o', rows ++ [r]), hU2, (by dsimp only; have := hpr.length_le; omega), hFo, hM'o, hO'o⟩
                 ) (by dsimp only; omega) ⟨rfl, rfl, rfl, rfl, rfl, rfl, rfl, rfl, trivial⟩ ⟨rfl, rfl, rfl, rfl, rfl, rfl, rfl, trivial⟩))))
  · first
    | exact Bool.noConfusion hb28
    | (
     have hio : i = o.length := by omega
     subst hio
     have hA := Srch.all_some hU (Nat.le_refl _) (show o.length ≤ (minW t).cap from hcap)
     refine nav ?_
     (refine aC_region ?_
       <;> refine xL 92 q_move ?_
       <;> refine xL 93 (q_leno 303 tSl22_LfD) ?_
       <;> refine xL 94 (q_fldo 7 tFl25_0_LfD) ?_
       <;> refine s_st 7 tNa3_LfD tSz3_LfD ?_
       <;> refine aL_end (nav ?_) <;> try dsimp only)
     (refine aC_region ?_
       <;> refine xL 95 (q_fldo 7 tFl25_4_LfD) ?_
       <;> (refine yL 96 (q_ldo 7 tNa23_LfD) fun v96 hv96 => ?_; cases hv96)
       <;> refine xL 97 (q_leno 302 tSl23_LfD) ?_
       <;> refine xL 98 q_gtr ?_
       <;> refine aL_end (nav ?_) <;> try dsimp only)
     first | refine cCd (fun hb98 => ?_) (fun hb98 => ?_) | refine cC (fun hb98 => ?_) (fun hb98 => ?_)
     · first
       | exact Bool.noConfusion hb98
       | (
        refine nav ?_
        (refine aC_region ?_
          <;> refine xL 99 (q_build tSt25_LfD) ?_
          <;> refine s_sta 2 tAgg25_LfD ?_
          <;> refine xL 3 q_assign ?_
          <;> refine aL_end (nav ?_) <;> try dsimp only)
        refine ret_cs (k := 5) 2 (by kernel_rfl) (Tryz.results72) rfl rfl rfl (Nat.le_of_ble_eq_true rfl) (by decide) rfl ?_
        unfold leastT
        rw [hA, Option.bind_some, if_pos (by dsimp only; omega)]; rfl)
     · first
       | exact Bool.noConfusion hb98
       | (
        refine nav ?_
        refine aC_ent (freezeCell (l := 7) (l' := 301) (j := 3) rfl rfl rfl rfl) fun _ => ?_
        refine aC_ent (freezeCell (l := 7) (l' := 302) (j := 4) rfl rfl rfl rfl) fun _ => ?_
        rw [share_ints _ _ _ rfl, share_mvl _ _ _ rfl]
        (refine aC_region ?_
          <;> (refine yL 100 (q_ldao 7 tAgg25_LfD) fun v100 hv100 => ?_; cases hv100)
          <;> refine s_sta 2 tAgg25_LfD ?_
          <;> refine xL 3 q_assign ?_
          <;> refine aL_end (nav ?_) <;> try dsimp only)
        refine ret_cs (k := 5) 2 (by kernel_rfl) (Tryz.results72) rfl rfl rfl (Nat.le_of_ble_eq_true rfl) (by decide) rfl ?_
        unfold leastT
        rw [hA, Option.bind_some, if_neg (by dsimp only; omega)]; rfl))
end Go.Proofs.YtgigclnaicbiaaaGreatDoor

namespace Go.Proofs.YtgigclnaicbiaaaGreatDoor
open Go.RowKit Go.Cb Go.En
set_option linter.all false
set_option maxRecDepth 100000

theorem tAgg25_LfE : AggT Tryz.prog 25 5 = true := by kernel_rfl
theorem tAgg93_LfE : AggT Tryz.prog 93 3 = true := by kernel_rfl
theorem tFl25_0_LfE : FldT Tryz.prog 25 0 0 = true := by kernel_rfl
theorem tFl25_4_LfE : FldT Tryz.prog 25 4 4 = true := by kernel_rfl
theorem tNa23_LfE : NoAgg Tryz.prog 23 = true := by kernel_rfl
theorem tNa3_LfE : NoAgg Tryz.prog 3 = true := by kernel_rfl
theorem tSl23_LfE : SlT Tryz.prog 23 72 3 = true := by kernel_rfl
theorem tSt25_LfE : stInfo Tryz.prog 25 = some ((.agg #[(.int .i64 0), (.int .i64 0), (.slice none 0 0), (.slice none 0 0), (.slice none 0 0)]), ([0, 1, 2, 3, 4] : List Nat).map fun o => (o, 1)) := by kernel_rfl
theorem tZr25_LfE : ZeroT Tryz.prog 25 (.agg #[(.int .i64 0), (.int .i64 0), (.slice none 0 0), (.slice none 0 0), (.slice none 0 0)]) := by unfold ZeroT; kernel_rfl
theorem tZr93_LfE : ZeroT Tryz.prog 93 (.agg #[(.int .i64 0), (.slice none 0 0), (.slice none 0 0)]) := by unfold ZeroT; kernel_rfl

theorem redL_big {a : Aut} (h : 2000 < a.n ∨ 20000 < a.moves.length) : redL a = .error 13 := by unfold redL; rw [if_pos h]
theorem redL_in {a : Aut} (h : ¬ (2000 < a.n ∨ 20000 < a.moves.length)) : redL a = redX a := by unfold redL; rw [if_neg h]
theorem lim_cases (x : Option Aut) : (∃ A, x = some A ∧ resW (lim x) = .tup [pAut A, pInt 0]) ∨ (x = none ∧ resW (lim x) = .tup [rawZ, pInt 13]) := by
  cases x with
  | none => exact .inr ⟨rfl, rfl⟩
  | some A => exact .inl ⟨A, rfl, rfl⟩
theorem res_cases (x : Except Int Aut) : (∃ A, x = .ok A ∧ resW x = .tup [pAut A, pInt 0]) ∨ (∃ e, x = .error e ∧ resW x = .tup [rawZ, pInt e]) := by
  cases x with
  | error e => exact .inr ⟨e, rfl, rfl⟩
  | ok A => exact .inl ⟨A, rfl, rfl⟩
theorem redX_some {a : Aut} {t : Tab} (h : subT a = some t) : redX a = lim (leastT t) := by unfold redX; rw [h]
theorem redX_none {a : Aut} (h : subT a = none) : redX a = .error 13 := by unfold redX; rw [h]
theorem aReduced_big (a : Aut) (hl : a.moves.length ≤ 1000000) (hb : 2000 < a.n ∨ 20000 < a.moves.length) : AF Tryz.prog 83 [pAut a] (· = .tup [rawZ, pInt 13]) := by
  refine AF.of_body 28 Tryz.func83 rfl Tryz.ntmps83 (Nat.le_of_ble_eq_true rfl) ?_
  intro w0 M0 vs hl hv
  obtain ⟨v0, rfl⟩ := len1 hl
  clear hl hv
  refine nav ?_
  (refine aC_region ?_
    <;> refine s_boxa 1 5 fun h1 => ?_
    <;> refine s_alloc [(.int .i64 0), (.int .i64 0), (.slice none 0 0), (.slice none 0 0), (.slice none 0 0)] 5 2 tZr25_LfE fun h2 => ?_
    <;> refine xL 3 q_assign ?_
    <;> refine aL_end (nav ?_) <;> try dsimp only)
  (refine aC_region ?_
    <;> refine xL 6 (q_fldo 1 tFl25_0_LfE) ?_
    <;> (refine yL 7 (q_ldo 1 tNa3_LfE) fun v7 hv7 => ?_; cases hv7)
    <;> refine xL 8 q_gtr ?_
    <;> refine xL 9 q_move ?_
    <;> (refine bLd 9 (fun hb9 => ?_) (fun hb9 => ?_) <;> (first | refine kL 10 ?_ | refine xL 10 (q_fldo 1 tFl25_4_LfE) ?_))
    <;> (first | refine kL 11 ?_ | (refine yL 11 (q_ldo 1 tNa23_LfE) fun v11 hv11 => ?_; cases hv11))
    <;> (first | refine kL 12 ?_ | refine xL 12 (q_len tSl23_LfE) ?_)
    <;> (first | refine kL 13 ?_ | refine xL 13 q_gtr ?_)
    <;> refine xL 14 q_pick ?_
    <;> refine aL_end (nav ?_) <;> try dsimp only) <;> (
   first | refine cCd (fun hb14 => ?_) (fun hb14 => ?_) | refine cC (fun hb14 => ?_) (fun hb14 => ?_)
   · refine nav ?_
     (refine aC_region ?_
       <;> refine xL 15 (q_build tSt25_LfE) ?_
       <;> refine s_sta 2 tAgg25_LfE ?_
       <;> refine xL 3 q_assign ?_
       <;> refine aL_end (nav ?_) <;> try dsimp only)
     exact ret_cs (k := 5) 2 (by kernel_rfl) (Tryz.results83) rfl rfl rfl (Nat.le_of_ble_eq_true rfl) (by decide) rfl rfl
   · exfalso
     first
       | omega
       | (simp at hb14; done)
       | (simp at hb14; omega))
theorem aReduced_none (a : Aut) (h : AOk a) (hs : subT a = none) : AF Tryz.prog 83 [pAut a] (· = .tup [rawZ, pInt 13]) := by
  have hn1 := h.n1
  have hml := h.ml
  have hS : AF Tryz.prog 114 [pAut a] (fun p => ∃ i : { i : Value × Value × Value // i.1.oneCell' = true ∧ i.2.1.oneCell' = true ∧ i.2.2.oneCell' = true }, p = .tup [.agg [.val i.1.1, .val i.1.2.1, .val i.1.2.2], pBool false]) := (aSubsets_e a h).mono fun p hp => by
    rcases hp with ⟨t, h1, _⟩ | ⟨_, u1, u2, u3, o1, o2, o3, h2⟩
    · rw [hs] at h1; cases h1
    · exact ⟨⟨(u1, u2, u3), o1, o2, o3⟩, h2⟩
  refine AF.of_body 28 Tryz.func83 rfl Tryz.ntmps83 (Nat.le_of_ble_eq_true rfl) ?_
  intro w0 M0 vs hl hv
  obtain ⟨v0, rfl⟩ := len1 hl
  clear hl hv
  refine nav ?_
  (refine aC_region ?_
    <;> refine s_boxa 1 5 fun h1 => ?_
    <;> refine s_alloc [(.int .i64 0), (.int .i64 0), (.slice none 0 0), (.slice none 0 0), (.slice none 0 0)] 5 2 tZr25_LfE fun h2 => ?_
    <;> refine xL 3 q_assign ?_
    <;> refine aL_end (nav ?_) <;> try dsimp only)
  (refine aC_region ?_
    <;> refine xL 6 (q_fldo 1 tFl25_0_LfE) ?_
    <;> (refine yL 7 (q_ldo 1 tNa3_LfE) fun v7 hv7 => ?_; cases hv7)
    <;> refine xL 8 q_gtr ?_
    <;> refine xL 9 q_move ?_
    <;> (refine bLd 9 (fun hb9 => ?_) (fun hb9 => ?_) <;> (first | refine kL 10 ?_ | refine xL 10 (q_fldo 1 tFl25_4_LfE) ?_))
    <;> (first | refine kL 11 ?_ | (refine yL 11 (q_ldo 1 tNa23_LfE) fun v11 hv11 => ?_; cases hv11))
    <;> (first | refine kL 12 ?_ | refine xL 12 (q_len tSl23_LfE) ?_)
    <;> (first | refine kL 13 ?_ | refine xL 13 q_gtr ?_)
    <;> refine xL 14 q_pick ?_
    <;> refine aL_end (nav ?_) <;> try dsimp only) <;> (
   first | refine cCd (fun hb14 => ?_) (fun hb14 => ?_) | refine cC (fun hb14 => ?_) (fun hb14 => ?_)
   · exfalso
     first
       | omega
       | (simp at hb14; done)
       | (simp at hb14; omega)
   · refine nav ?_
     (refine aC_region ?_
       <;> (refine yL 17 (q_ldao 1 tAgg25_LfE) fun v17 hv17 => ?_; cases hv17)
       <;> (refine cPx 18 (cA Tryz.call114 hS) (fun i va18 vb18 hva18 hvb18 => ?_) (fun _ => rfl); cases hvb18; obtain ⟨⟨u1, u2, u3⟩, o1, o2, o3⟩ := i; dsimp only at o1 o2 o3 hva18 ⊢; have q1 : En.one (PV.val u1) = true := o1; have q2 : En.one (PV.val u2) = true := o2; have q3 : En.one (PV.val u3) = true := o3)
       <;> refine xL 16 q_move ?_
       <;> refine xL 19 q_extract ?_
       <;> refine xL 20 q_extract ?_
       <;> refine s_alloc [(.int .i64 0), (.slice none 0 0), (.slice none 0 0)] 3 4 tZr93_LfE fun h4 => ?_
       <;> refine s_sta 4 tAgg93_LfE ?_
       <;> refine xL 5 q_assign ?_
       <;> refine aL_end (nav ?_) <;> try dsimp only)
     (refine aC_region ?_
       <;> refine xL 21 q_move ?_
       <;> refine xL 22 q_not ?_
       <;> refine aL_end (nav ?_) <;> try dsimp only)
     refine cCt ?_
     refine nav ?_
     (refine aC_region ?_
       <;> refine xL 23 (q_build tSt25_LfE) ?_
       <;> refine s_sta 2 tAgg25_LfE ?_
       <;> refine xL 3 q_assign ?_
       <;> refine aL_end (nav ?_) <;> try dsimp only)
     exact ret_cs (k := 5) 2 (by kernel_rfl) (Tryz.results83) rfl rfl rfl (Nat.le_of_ble_eq_true rfl) (by decide) rfl rfl)
theorem aReduced_ok (a : Aut) (h : AOk a) {t : Tab} (hs : subT a = some t) {A : Aut} (hm : AF Tryz.prog 72 [pTab t] (· = .tup [pAut A, pInt 0])) : AF Tryz.prog 83 [pAut a] (· = .tup [pAut A, pInt 0]) := by
  have hn1 := h.n1
  have hml := h.ml
  have hS : AF Tryz.prog 114 [pAut a] (· = .tup [pTab t, pBool true]) := (aSubsets_e a h).mono fun p hp => by
    rcases hp with ⟨t', h1, h2⟩ | ⟨h1, _⟩
    · rw [hs] at h1; cases h1; exact h2
    · rw [hs] at h1; cases h1
  refine AF.of_body 28 Tryz.func83 rfl Tryz.ntmps83 (Nat.le_of_ble_eq_true rfl) ?_
  intro w0 M0 vs hl hv
  obtain ⟨v0, rfl⟩ := len1 hl
  clear hl hv
  refine nav ?_
  (refine aC_region ?_
    <;> refine s_boxa 1 5 fun h1 => ?_
    <;> refine s_alloc [(.int .i64 0), (.int .i64 0), (.slice none 0 0), (.slice none 0 0), (.slice none 0 0)] 5 2 tZr25_LfE fun h2 => ?_
    <;> refine xL 3 q_assign ?_
    <;> refine aL_end (nav ?_) <;> try dsimp only)
  (refine aC_region ?_
    <;> refine xL 6 (q_fldo 1 tFl25_0_LfE) ?_
    <;> (refine yL 7 (q_ldo 1 tNa3_LfE) fun v7 hv7 => ?_; cases hv7)
    <;> refine xL 8 q_gtr ?_
    <;> refine xL 9 q_move ?_
    <;> (refine bLd 9 (fun hb9 => ?_) (fun hb9 => ?_) <;> (first | refine kL 10 ?_ | refine xL 10 (q_fldo 1 tFl25_4_LfE) ?_))
    <;> (first | refine kL 11 ?_ | (refine yL 11 (q_ldo 1 tNa23_LfE) fun v11 hv11 => ?_; cases hv11))
    <;> (first | refine kL 12 ?_ | refine xL 12 (q_len tSl23_LfE) ?_)
    <;> (first | refine kL 13 ?_ | refine xL 13 q_gtr ?_)
    <;> refine xL 14 q_pick ?_
    <;> refine aL_end (nav ?_) <;> try dsimp only) <;> (
   first | refine cCd (fun hb14 => ?_) (fun hb14 => ?_) | refine cC (fun hb14 => ?_) (fun hb14 => ?_)
   · exfalso
     first
       | omega
       | (simp at hb14; done)
       | (simp at hb14; omega)
   · refine nav ?_
     (refine aC_region ?_
       <;> (refine yL 17 (q_ldao 1 tAgg25_LfE) fun v17 hv17 => ?_; cases hv17)
       <;> (refine cP 18 (cA Tryz.call114 (hS)) fun va18 vb18 hva18 hvb18 => ?_; cases hvb18)
       <;> refine xL 16 q_move ?_
       <;> refine xL 19 q_extract ?_
       <;> refine xL 20 q_extract ?_
       <;> refine s_alloc [(.int .i64 0), (.slice none 0 0), (.slice none 0 0)] 3 4 tZr93_LfE fun h4 => ?_
       <;> refine s_sta 4 tAgg93_LfE ?_
       <;> refine xL 5 q_assign ?_
       <;> refine aL_end (nav ?_) <;> try dsimp only)
     (refine aC_region ?_
       <;> refine xL 21 q_move ?_
       <;> refine xL 22 q_not ?_
       <;> refine aL_end (nav ?_) <;> try dsimp only)
     refine cCf ?_
     refine nav ?_
     (refine aC_region ?_
       <;> (refine yL 24 (q_ldao 4 tAgg93_LfE) fun v24 hv24 => ?_; cases hv24)
       <;> (refine cP 25 (cA Tryz.call72 (hm)) fun va25 vb25 hva25 hvb25 => ?_; cases hvb25)
       <;> refine xL 26 q_extract ?_
       <;> refine xL 27 q_extract ?_
       <;> refine s_sta 2 tAgg25_LfE ?_
       <;> refine xL 3 q_assign ?_
       <;> refine aL_end (nav ?_) <;> try dsimp only)
     exact ret_cs (k := 5) 2 (by kernel_rfl) (Tryz.results83) rfl rfl rfl (Nat.le_of_ble_eq_true rfl) (by decide) rfl rfl)
theorem aReduced_lim (a : Aut) (h : AOk a) {t : Tab} (hs : subT a = some t) (hm : AF Tryz.prog 72 [pTab t] (· = .tup [rawZ, pInt 13])) : AF Tryz.prog 83 [pAut a] (· = .tup [rawZ, pInt 13]) := by
  have hn1 := h.n1
  have hml := h.ml
  have hS : AF Tryz.prog 114 [pAut a] (· = .tup [pTab t, pBool true]) := (aSubsets_e a h).mono fun p hp => by
    rcases hp with ⟨t', h1, h2⟩ | ⟨h1, _⟩
    · rw [hs] at h1; cases h1; exact h2
    · rw [hs] at h1; cases h1
  refine AF.of_body 28 Tryz.func83 rfl Tryz.ntmps83 (Nat.le_of_ble_eq_true rfl) ?_
  intro w0 M0 vs hl hv
  obtain ⟨v0, rfl⟩ := len1 hl
  clear hl hv
  refine nav ?_
  (refine aC_region ?_
    <;> refine s_boxa 1 5 fun h1 => ?_
    <;> refine s_alloc [(.int .i64 0), (.int .i64 0), (.slice none 0 0), (.slice none 0 0), (.slice none 0 0)] 5 2 tZr25_LfE fun h2 => ?_
    <;> refine xL 3 q_assign ?_
    <;> refine aL_end (nav ?_) <;> try dsimp only)
  (refine aC_region ?_
    <;> refine xL 6 (q_fldo 1 tFl25_0_LfE) ?_
    <;> (refine yL 7 (q_ldo 1 tNa3_LfE) fun v7 hv7 => ?_; cases hv7)
    <;> refine xL 8 q_gtr ?_
    <;> refine xL 9 q_move ?_
    <;> (refine bLd 9 (fun hb9 => ?_) (fun hb9 => ?_) <;> (first | refine kL 10 ?_ | refine xL 10 (q_fldo 1 tFl25_4_LfE) ?_))
    <;> (first | refine kL 11 ?_ | (refine yL 11 (q_ldo 1 tNa23_LfE) fun v11 hv11 => ?_; cases hv11))
    <;> (first | refine kL 12 ?_ | refine xL 12 (q_len tSl23_LfE) ?_)
    <;> (first | refine kL 13 ?_ | refine xL 13 q_gtr ?_)
    <;> refine xL 14 q_pick ?_
    <;> refine aL_end (nav ?_) <;> try dsimp only) <;> (
   first | refine cCd (fun hb14 => ?_) (fun hb14 => ?_) | refine cC (fun hb14 => ?_) (fun hb14 => ?_)
   · exfalso
     first
       | omega
       | (simp at hb14; done)
       | (simp at hb14; omega)
   · refine nav ?_
     (refine aC_region ?_
       <;> (refine yL 17 (q_ldao 1 tAgg25_LfE) fun v17 hv17 => ?_; cases hv17)
       <;> (refine cP 18 (cA Tryz.call114 (hS)) fun va18 vb18 hva18 hvb18 => ?_; cases hvb18)
       <;> refine xL 16 q_move ?_
       <;> refine xL 19 q_extract ?_
       <;> refine xL 20 q_extract ?_
       <;> refine s_alloc [(.int .i64 0), (.slice none 0 0), (.slice none 0 0)] 3 4 tZr93_LfE fun h4 => ?_
       <;> refine s_sta 4 tAgg93_LfE ?_
       <;> refine xL 5 q_assign ?_
       <;> refine aL_end (nav ?_) <;> try dsimp only)
     (refine aC_region ?_
       <;> refine xL 21 q_move ?_
       <;> refine xL 22 q_not ?_
       <;> refine aL_end (nav ?_) <;> try dsimp only)
     refine cCf ?_
     refine nav ?_
     (refine aC_region ?_
       <;> (refine yL 24 (q_ldao 4 tAgg93_LfE) fun v24 hv24 => ?_; cases hv24)
       <;> (refine cP 25 (cA Tryz.call72 (hm)) fun va25 vb25 hva25 hvb25 => ?_; cases hvb25)
       <;> refine xL 26 q_extract ?_
       <;> refine xL 27 q_extract ?_
       <;> refine s_sta 2 tAgg25_LfE ?_
       <;> refine xL 3 q_assign ?_
       <;> refine aL_end (nav ?_) <;> try dsimp only)
     exact ret_cs (k := 5) 2 (by kernel_rfl) (Tryz.results83) rfl rfl rfl (Nat.le_of_ble_eq_true rfl) (by decide) rfl rfl)
theorem aReduced_x (a : Aut) (h : AOk a) : AF Tryz.prog 83 [pAut a] (· = resW (redX a)) := by
  rcases hs : subT a with _ | t
  · rw [redX_none hs]; exact aReduced_none a h hs
  · have hm := aMinimal_e t (sub_tok h hs)
    rw [redX_some hs]
    rcases lim_cases (leastT t) with ⟨A, _, h2⟩ | ⟨_, h2⟩
    · rw [h2] at hm ⊢; exact aReduced_ok a h hs hm
    · rw [h2] at hm ⊢; exact aReduced_lim a h hs hm
theorem aReduced_e (a : Aut) (hl : a.moves.length ≤ 1000000) (h : ¬ (2000 < a.n ∨ 20000 < a.moves.length) → AOk a) : AF Tryz.prog 83 [pAut a] (· = resW (redL a)) := by
  by_cases hb : 2000 < a.n ∨ 20000 < a.moves.length
  · rw [redL_big hb]; exact aReduced_big a hl hb
  · rw [redL_in hb]; exact aReduced_x a (h hb)
end Go.Proofs.YtgigclnaicbiaaaGreatDoor

namespace Go.Proofs.YtgigclnaicbiaaaGreatDoor
open Go.RowKit Go.Cb Go.En
set_option linter.all false

theorem leastT_some {t : Tab} {A : Aut} (h : leastT t = some A) : ∃ o rows, (minW t).all 0 = some (o, rows) ∧ A = autQ t (o, rows) ∧ (movesT rows).length ≤ 20000 := by
  unfold leastT at h
  obtain ⟨⟨o, rows⟩, h1, h2⟩ := Option.bind_eq_some_iff.1 h
  dsimp only at h2
  split at h2
  · cases h2
  · cases h2
    exact ⟨o, rows, h1, rfl, by omega⟩
structure Fin (t : Tab) (o : List Nat) (rows : List (List Nat)) : Prop where
  ok : (minW t).Ok (· < t.rows.length) 0 o rows
  len : rows.length = o.length
  n1 : o.length ≤ 2000
  pos : 0 < o.length
theorem fin_of {t : Tab} (h : TOk t) {o : List Nat} {rows : List (List Nat)} (hu : (minW t).all 0 = some (o, rows)) : Fin t o rows := by
  obtain ⟨h1, _, h3⟩ := min_ok h hu
  have hc : o.length ≤ t.rows.length := h1.cap
  have := h.n1
  exact ⟨h1, h3 hc, by omega, h1.pos⟩
theorem mem_rowMv {i : Nat} {r : List Nat} {m : Mv} (h : m ∈ rowMv i r) : ∃ n s : Nat, r[s]? = some n ∧ m = ⟨(i : Nat), (n : Nat), (s : Nat)⟩ := by
  unfold rowMv at h
  obtain ⟨p, hp, rfl⟩ := List.mem_map.1 h
  exact ⟨p.1, p.2, by have := List.mem_zipIdx_iff_getElem?.1 hp; exact this, rfl⟩
theorem mem_movesT {rows : List (List Nat)} {m : Mv} (h : m ∈ movesT rows) : ∃ (i s n : Nat) (r : List Nat), rows[i]? = some r ∧ r[s]? = some n ∧ m = ⟨(i : Nat), (n : Nat), (s : Nat)⟩ := by
  unfold movesT at h
  obtain ⟨p, hp, hm⟩ := List.mem_flatMap.1 h
  obtain ⟨n, s, h1, h2⟩ := mem_rowMv hm
  exact ⟨p.2, s, n, p.1, List.mem_zipIdx_iff_getElem?.1 hp, h1, h2⟩
theorem autQ_aok {t : Tab} (ht : TOk t) {o : List Nat} {rows : List (List Nat)} (h : Fin t o rows) (hm : (movesT rows).length ≤ 20000) : AOk (autQ t (o, rows)) := by
  have hp := h.pos
  have hn := h.n1
  have hm1 := ht.m1
  have hll := listedL_len o.length (finAt t o)
  refine ⟨by show (0 : Int) ≤ (o.length : Nat); omega, by show ((o.length : Nat) : Int) ≤ 2000; omega, by show (0 : Int) ≤ (t.m : Nat); omega, by show ((t.m : Nat) : Int) ≤ 40; omega, hm, fun s hs => ?_, fun s hs => ?_, by show [(0 : Int)].length ≤ 2000; simp, by show (listedL o.length (finAt t o)).length ≤ 2000; omega, fun m hmm => ?_⟩
  · rw [show s = 0 from List.mem_singleton.1 hs]
    exact ⟨Int.le_refl _, by show (0 : Int) < (o.length : Nat); omega⟩
  · obtain ⟨h1, h2, _⟩ := listedL_mem.1 hs
    exact ⟨h1, h2⟩
  · obtain ⟨i, s, n, r, h1, h2, rfl⟩ := mem_movesT hmm
    have h3 : i < rows.length := lt_of_get h1
    have h4 := lt_of_get h2
    have h5 : r.length = t.m := h.ok.len r (List.mem_of_getElem? h1)
    obtain ⟨x, hx⟩ := get_some (show i < o.length by rw [← h.len]; exact h3)
    have h6 := (h.ok.to i x r s n hx h1 h2).1
    have h7 := h.len
    refine ⟨by show (0 : Int) ≤ (i : Nat); omega, by show ((i : Nat) : Int) < (o.length : Nat); omega, by show (0 : Int) ≤ (n : Nat); omega, by show ((n : Nat) : Int) < (o.length : Nat); omega, by show (-1 : Int) ≤ (s : Nat); omega, by show ((s : Nat) : Int) < (t.m : Nat); omega⟩
theorem redX_ok {a A : Aut} (h : AOk a) (hr : redX a = .ok A) : ∃ t o rows, subT a = some t ∧ TOk t ∧ (minW t).all 0 = some (o, rows) ∧ Fin t o rows ∧ A = autQ t (o, rows) ∧ (movesT rows).length ≤ 20000 := by
  unfold redX at hr
  split at hr
  · rename_i t ht
    cases hl : leastT t with
    | none => rw [hl] at hr; cases hr
    | some B =>
      rw [hl] at hr; cases hr
      obtain ⟨o, rows, h1, h2, h3⟩ := leastT_some hl
      have hT := sub_tok h ht
      exact ⟨t, o, rows, ht, hT, h1, fin_of hT h1, h2, h3⟩
  · cases hr
theorem redX_aok {a A : Aut} (h : AOk a) (hr : redX a = .ok A) : AOk A := by
  obtain ⟨t, o, rows, _, hT, _, hF, rfl, hm⟩ := redX_ok h hr
  exact autQ_aok hT hF hm
theorem minX_ok {a A : Aut} (h : minX a = .ok A) : autOk a = true ∧ redX a = .ok A := by
  unfold minX at h
  split at h
  · rename_i h1; exact ⟨h1, h⟩
  · cases h
def compA (A : Aut) : Aut := { A with fin := listedL A.n.toNat fun i => !finB A (i : Nat) }
def compX (a : Aut) : Except Int Aut := match minX a with
  | .ok A => .ok (compA A)
  | .error e => .error e
def insL (l : List Int) : List (Int × Value) := l.foldl (fun m x => aput m x (.bool true)) []
theorem insL_snoc {l : List Int} {k : Nat} {x : Int} (h : l[k]? = some x) : insL (l.take (k + 1)) = aput (insL (l.take k)) x (.bool true) := by
  unfold insL; rw [take_snoc h, List.foldl_append]; rfl
theorem aget_aputI (m : List (Int × Value)) (x : Int) (v : Value) (y : Int) : aget (aput m x v) y = if y = x then some v else aget m y := by
  induction m with
  | nil =>
    rw [aput, aget]; rfl
  | cons p m ih =>
    rw [aput]
    by_cases h : x = p.1
    · rw [if_pos h, aget, aget]
      by_cases h2 : y = x
      · rw [if_pos h2, if_pos h2]
      · rw [if_neg h2, if_neg h2, if_neg (by rw [← h]; exact h2)]
    · rw [if_neg h, aget, aget, ih]
      by_cases h2 : y = p.1
      · rw [if_pos h2, if_pos h2, if_neg (by rw [h2]; exact fun e => h e.symm)]
      · rw [if_neg h2, if_neg h2]
theorem insL_get (l : List Int) (y : Int) : (aget (insL l) y).getD (.bool false) = .bool (hasI l y) := by
  have key : ∀ (l : List Int) (m : List (Int × Value)) (b : Bool), (aget m y).getD (.bool false) = .bool b → (aget (l.foldl (fun m x => aput m x (.bool true)) m) y).getD (.bool false) = .bool (b || hasI l y) := by
    intro l
    induction l with
    | nil => intro m b h; rw [List.foldl_nil, h]; simp [hasI]
    | cons x l ih =>
      intro m b h
      rw [List.foldl_cons, ih (aput m x (.bool true)) (b || decide (x = y)) (by
        rw [aget_aputI]
        by_cases e : y = x
        · rw [if_pos e, decide_eq_true e.symm]; simp
        · rw [if_neg e, decide_eq_false (fun e2 => e e2.symm), h]; simp)]
      unfold hasI
      rw [List.any_cons, Bool.or_assoc]
  have := key l [] false rfl
  rw [Bool.false_or] at this
  exact this
end Go.Proofs.YtgigclnaicbiaaaGreatDoor

namespace Go.Proofs.YtgigclnaicbiaaaGreatDoor
open Go.RowKit Go.Cb Go.En
set_option linter.all false
set_option maxRecDepth 100000

theorem tAgg25_LfF : AggT Tryz.prog 25 5 = true := by kernel_rfl
theorem tEl22_LfF : ElT Tryz.prog 22 3 1 8 (.int .i64 0) := ⟨Tryz.underlying22, by kernel_rfl, rfl, by decide⟩
theorem tFl25_0_LfF : FldT Tryz.prog 25 0 0 = true := by kernel_rfl
theorem tFl25_3_LfF : FldT Tryz.prog 25 3 3 = true := by kernel_rfl
theorem tMp113_LfF : MpT Tryz.prog 113 3 4 (.int .i64) (.bool false) := ⟨Tryz.underlying113, Tryz.underlying3, .inr ⟨_, rfl⟩, by show ZeroT _ _ _; unfold ZeroT; kernel_rfl⟩
theorem tNa22_LfF : NoAgg Tryz.prog 22 = true := by kernel_rfl
theorem tNa3_LfF : NoAgg Tryz.prog 3 = true := by kernel_rfl
theorem tSl22_LfF : SlT Tryz.prog 22 3 1 = true := by kernel_rfl
theorem tSt25_LfF : stInfo Tryz.prog 25 = some ((.agg #[(.int .i64 0), (.int .i64 0), (.slice none 0 0), (.slice none 0 0), (.slice none 0 0)]), ([0, 1, 2, 3, 4] : List Nat).map fun o => (o, 1)) := by kernel_rfl
theorem tSz22_LfF : (Tryz.prog.info? 22).map (·.size) = some 1 := by kernel_rfl
theorem tZr25_LfF : ZeroT Tryz.prog 25 (.agg #[(.int .i64 0), (.int .i64 0), (.slice none 0 0), (.slice none 0 0), (.slice none 0 0)]) := by unfold ZeroT; kernel_rfl

theorem rr_rawZ (e : Int) : Rr (.tup [rawZ, pInt e]) (.tup [pAut autZ, pInt e]) := Rr.tup2 (Rr.agg rfl fun i p p' h1 h2 => by
  match i with
  | 0 => cases h1; cases h2; exact Rr.rfl' _
  | 1 => cases h1; cases h2; exact Rr.rfl' _
  | 2 => cases h1; cases h2; exact Rr.nil
  | 3 => cases h1; cases h2; exact Rr.nil
  | 4 => cases h1; cases h2; exact Rr.nil
  | i + 5 => simp at h1)
theorem resW_A {P : Program} {f : Nat} {ps : List PV} {x : Except Int Aut} (h : AF P f ps (· = resW x)) : AF P f ps (· = resA x) := by
  cases x with
  | ok A => exact h
  | error e => exact h.reread rfl (rr_rawZ e)
theorem aMinimalW_bad (a : Aut) (hv : autOk a = false) : AF Tryz.prog 26 [pAut a] (· = .tup [rawZ, pInt 1]) := by
  refine AF.of_body 12 Tryz.func26 rfl Tryz.ntmps26 (Nat.le_of_ble_eq_true rfl) ?_
  intro w0 M0 vs hl hv
  obtain ⟨v0, rfl⟩ := len1 hl
  clear hl hv
  refine nav ?_
  (refine aC_region ?_
    <;> refine s_boxa 1 5 fun h1 => ?_
    <;> refine s_alloc [(.int .i64 0), (.int .i64 0), (.slice none 0 0), (.slice none 0 0), (.slice none 0 0)] 5 2 tZr25_LfF fun h2 => ?_
    <;> refine xL 3 q_assign ?_
    <;> refine aL_end (nav ?_) <;> try dsimp only)
  (refine aC_region ?_
    <;> (refine yL 4 (q_ldao 1 tAgg25_LfF) fun v4 hv4 => ?_; cases hv4)
    <;> (refine cS 5 (cA Tryz.call24 (aValid_e a)) fun v5 hv5 => ?_; cases hv5)
    <;> refine xL 6 q_not ?_
    <;> refine aL_end (nav ?_) <;> try dsimp only)
  first | refine cCd (fun hb6 => ?_) (fun hb6 => ?_) | refine cC (fun hb6 => ?_) (fun hb6 => ?_)
  · refine nav ?_
    (refine aC_region ?_
      <;> refine xL 7 (q_build tSt25_LfF) ?_
      <;> refine s_sta 2 tAgg25_LfF ?_
      <;> refine xL 3 q_assign ?_
      <;> refine aL_end (nav ?_) <;> try dsimp only)
    exact ret_cs (k := 5) 2 (by kernel_rfl) (Tryz.results26) rfl rfl rfl (Nat.le_of_ble_eq_true rfl) (by decide) rfl rfl
  · rw [hv] at hb6; simp at hb6
theorem aMinimalW_ok (a : Aut) (hv : autOk a = true) {A : Aut} (hm : AF Tryz.prog 83 [pAut a] (· = .tup [pAut A, pInt 0])) : AF Tryz.prog 26 [pAut a] (· = .tup [pAut A, pInt 0]) := by
  refine AF.of_body 12 Tryz.func26 rfl Tryz.ntmps26 (Nat.le_of_ble_eq_true rfl) ?_
  intro w0 M0 vs hl hv
  obtain ⟨v0, rfl⟩ := len1 hl
  clear hl hv
  refine nav ?_
  (refine aC_region ?_
    <;> refine s_boxa 1 5 fun h1 => ?_
    <;> refine s_alloc [(.int .i64 0), (.int .i64 0), (.slice none 0 0), (.slice none 0 0), (.slice none 0 0)] 5 2 tZr25_LfF fun h2 => ?_
    <;> refine xL 3 q_assign ?_
    <;> refine aL_end (nav ?_) <;> try dsimp only)
  (refine aC_region ?_
    <;> (refine yL 4 (q_ldao 1 tAgg25_LfF) fun v4 hv4 => ?_; cases hv4)
    <;> (refine cS 5 (cA Tryz.call24 (aValid_e a)) fun v5 hv5 => ?_; cases hv5)
    <;> refine xL 6 q_not ?_
    <;> refine aL_end (nav ?_) <;> try dsimp only)
  first | refine cCd (fun hb6 => ?_) (fun hb6 => ?_) | refine cC (fun hb6 => ?_) (fun hb6 => ?_)
  · rw [hv] at hb6; simp at hb6
  · refine nav ?_
    (refine aC_region ?_
      <;> (refine yL 8 (q_ldao 1 tAgg25_LfF) fun v8 hv8 => ?_; cases hv8)
      <;> (refine cP 9 (cA Tryz.call83 (hm)) fun va9 vb9 hva9 hvb9 => ?_; cases hvb9)
      <;> refine xL 10 q_extract ?_
      <;> refine xL 11 q_extract ?_
      <;> refine s_sta 2 tAgg25_LfF ?_
      <;> refine xL 3 q_assign ?_
      <;> refine aL_end (nav ?_) <;> try dsimp only)
    exact ret_cs (k := 5) 2 (by kernel_rfl) (Tryz.results26) rfl rfl rfl (Nat.le_of_ble_eq_true rfl) (by decide) rfl rfl
theorem aMinimalW_err (a : Aut) (hv : autOk a = true) {e : Int} (hm : AF Tryz.prog 83 [pAut a] (· = .tup [rawZ, pInt e])) : AF Tryz.prog 26 [pAut a] (· = .tup [rawZ, pInt e]) := by
  refine AF.of_body 12 Tryz.func26 rfl Tryz.ntmps26 (Nat.le_of_ble_eq_true rfl) ?_
  intro w0 M0 vs hl hv
  obtain ⟨v0, rfl⟩ := len1 hl
  clear hl hv
  refine nav ?_
  (refine aC_region ?_
    <;> refine s_boxa 1 5 fun h1 => ?_
    <;> refine s_alloc [(.int .i64 0), (.int .i64 0), (.slice none 0 0), (.slice none 0 0), (.slice none 0 0)] 5 2 tZr25_LfF fun h2 => ?_
    <;> refine xL 3 q_assign ?_
    <;> refine aL_end (nav ?_) <;> try dsimp only)
  (refine aC_region ?_
    <;> (refine yL 4 (q_ldao 1 tAgg25_LfF) fun v4 hv4 => ?_; cases hv4)
    <;> (refine cS 5 (cA Tryz.call24 (aValid_e a)) fun v5 hv5 => ?_; cases hv5)
    <;> refine xL 6 q_not ?_
    <;> refine aL_end (nav ?_) <;> try dsimp only)
  first | refine cCd (fun hb6 => ?_) (fun hb6 => ?_) | refine cC (fun hb6 => ?_) (fun hb6 => ?_)
  · rw [hv] at hb6; simp at hb6
  · refine nav ?_
    (refine aC_region ?_
      <;> (refine yL 8 (q_ldao 1 tAgg25_LfF) fun v8 hv8 => ?_; cases hv8)
      <;> (refine cP 9 (cA Tryz.call83 (hm)) fun va9 vb9 hva9 hvb9 => ?_; cases hvb9)
      <;> refine xL 10 q_extract ?_
      <;> refine xL 11 q_extract ?_
      <;> refine s_sta 2 tAgg25_LfF ?_
      <;> refine xL 3 q_assign ?_
      <;> refine aL_end (nav ?_) <;> try dsimp only)
    exact ret_cs (k := 5) 2 (by kernel_rfl) (Tryz.results26) rfl rfl rfl (Nat.le_of_ble_eq_true rfl) (by decide) rfl rfl
theorem aMinimalW_e (a : Aut) : AF Tryz.prog 26 [pAut a] (· = resW (minX a)) := by
  unfold minX
  cases hv : autOk a with
  | false => rw [if_neg (by simp)]; exact aMinimalW_bad a hv
  | true =>
    rw [if_pos rfl]
    have hm := aReduced_x a (aok_of hv)
    rcases res_cases (redX a) with ⟨A, _, h2⟩ | ⟨e, _, h2⟩
    · rw [h2] at hm ⊢; exact aMinimalW_ok a hv hm
    · rw [h2] at hm ⊢; exact aMinimalW_err a hv hm
theorem ikv_put (m : List (Int × Value)) (x : Int) : mput (ikv m) (.int .i64 x) (.bool true) = ikv (aput m x (.bool true)) := mput_ikv _ _ _
theorem ins_look (l : List Int) (s : Int) : (mget (ikv (insL l)) (.int .i64 s)).getD (.bool false) = .bool (hasI l s) := by rw [mget_ikv, insL_get]
theorem aComplement_err (a : Aut) {e : Int} (he : ¬ e = 0) (hm : AF Tryz.prog 26 [pAut a] (· = .tup [rawZ, pInt e])) : AF Tryz.prog 28 [pAut a] (· = .tup [rawZ, pInt e]) := by
  refine AF.of_body 48 Tryz.func28 rfl Tryz.ntmps28 (Nat.le_of_ble_eq_true rfl) ?_
  intro w0 M0 vs hl hv
  obtain ⟨v0, rfl⟩ := len1 hl
  clear hl hv
  refine nav ?_
  (refine aC_region ?_
    <;> refine s_boxa 1 5 fun h1 => ?_
    <;> refine s_alloc [(.int .i64 0), (.int .i64 0), (.slice none 0 0), (.slice none 0 0), (.slice none 0 0)] 5 2 tZr25_LfF fun h2 => ?_
    <;> refine xL 3 q_assign ?_
    <;> refine aL_end (nav ?_) <;> try dsimp only)
  (refine aC_region ?_
    <;> (refine yL 11 (q_ldao 1 tAgg25_LfF) fun v11 hv11 => ?_; cases hv11)
    <;> (refine cP 12 (cA Tryz.call26 (hm)) fun va12 vb12 hva12 hvb12 => ?_; cases hvb12)
    <;> refine xL 10 q_move ?_
    <;> refine xL 13 q_extract ?_
    <;> refine xL 14 q_extract ?_
    <;> refine s_alloc [(.int .i64 0), (.int .i64 0), (.slice none 0 0), (.slice none 0 0), (.slice none 0 0)] 5 4 tZr25_LfF fun h4 => ?_
    <;> refine s_sta 4 tAgg25_LfF ?_
    <;> refine xL 5 q_assign ?_
    <;> refine aL_end (nav ?_) <;> try dsimp only)
  (refine aC_region ?_
    <;> refine xL 15 q_move ?_
    <;> refine xL 16 q_neq ?_
    <;> refine aL_end (nav ?_) <;> try dsimp only)
  first | refine cCd (fun hb16 => ?_) (fun hb16 => ?_) | refine cC (fun hb16 => ?_) (fun hb16 => ?_)
  · refine nav ?_
    (refine aC_region ?_
      <;> refine xL 17 (q_build tSt25_LfF) ?_
      <;> refine xL 18 q_move ?_
      <;> refine s_sta 2 tAgg25_LfF ?_
      <;> refine xL 3 q_assign ?_
      <;> refine aL_end (nav ?_) <;> try dsimp only)
    exact ret_cs (k := 5) 2 (by kernel_rfl) (Tryz.results28) rfl rfl rfl (Nat.le_of_ble_eq_true rfl) (by decide) rfl rfl
  · exfalso; omega
theorem aComplement_ok (a : Aut) {A : Aut} (hA : AOk A) (hm : AF Tryz.prog 26 [pAut a] (· = .tup [pAut A, pInt 0])) : AF Tryz.prog 28 [pAut a] (· = .tup [pAut (compA A), pInt 0]) := by
  have hn0 := hA.n0
  have hn1 := hA.n1
  have hfl := hA.fl
  refine AF.of_body 48 Tryz.func28 rfl Tryz.ntmps28 (Nat.le_of_ble_eq_true rfl) ?_
  intro w0 M0 vs hl hv
  obtain ⟨v0, rfl⟩ := len1 hl
  clear hl hv
  refine nav ?_
  (refine aC_region ?_
    <;> refine s_boxa 1 5 fun h1 => ?_
    <;> refine s_alloc [(.int .i64 0), (.int .i64 0), (.slice none 0 0), (.slice none 0 0), (.slice none 0 0)] 5 2 tZr25_LfF fun h2 => ?_
    <;> refine xL 3 q_assign ?_
    <;> refine aL_end (nav ?_) <;> try dsimp only)
  (refine aC_region ?_
    <;> (refine yL 11 (q_ldao 1 tAgg25_LfF) fun v11 hv11 => ?_; cases hv11)
    <;> (refine cP 12 (cA Tryz.call26 (hm)) fun va12 vb12 hva12 hvb12 => ?_; cases hvb12)
    <;> refine xL 10 q_move ?_
    <;> refine xL 13 q_extract ?_
    <;> refine xL 14 q_extract ?_
    <;> refine s_alloc [(.int .i64 0), (.int .i64 0), (.slice none 0 0), (.slice none 0 0), (.slice none 0 0)] 5 4 tZr25_LfF fun h4 => ?_
    <;> refine s_sta 4 tAgg25_LfF ?_
    <;> refine xL 5 q_assign ?_
    <;> refine aL_end (nav ?_) <;> try dsimp only)
  (refine aC_region ?_
    <;> refine xL 15 q_move ?_
    <;> refine xL 16 q_neq ?_
    <;> refine aL_end (nav ?_) <;> try dsimp only)
  first | refine cCd (fun hb16 => ?_) (fun hb16 => ?_) | refine cC (fun hb16 => ?_) (fun hb16 => ?_)
  · exfalso; exact hb16 rfl
  · refine nav ?_
    (refine aC_region ?_
      <;> refine s_mkmap 19 fun h19 ho19 => ?_
      <;> refine xL 6 q_assign ?_
      <;> refine aL_end (nav ?_) <;> try dsimp only)
    refine aC_ent (recast (l := 19) (p' := .omap (ikv (insL (A.fin.take 0)))) rfl rfl) fun _ => ?_
    (refine aC_region ?_
      <;> refine xL 20 (q_fldo 4 tFl25_3_LfF) ?_
      <;> (refine yL 21 (q_ldo 4 tNa22_LfF) fun v21 hv21 => ?_; cases hv21)
      <;> refine xL 22 (q_len tSl22_LfF) ?_
      <;> refine xL 23 q_move ?_
      <;> refine aL_end (nav ?_) <;> try dsimp only)
    refine aC_loop (ι := { k : Nat // k ≤ A.fin.length }) (fun k => ⟨[(1, _, _), (2, _, _), (3, _, _), (4, _, _), (6, _, _), (21, _, _), (22, _, _), (23, .int .i64 k.1, pInt k.1)], [(1, _, _), (2, _, _), (4, _, _), (19, h19, .omap (ikv (insL (A.fin.take k.1))))]⟩) (fun k => A.fin.length - k.1) ⟨0, Nat.zero_le _⟩ (fun a w H => H.weaken ⟨rfl, rfl, rfl, rfl, rfl, rfl, rfl, rfl, trivial⟩ ⟨rfl, rfl, rfl, rfl, trivial⟩) ?_
    rintro ⟨k, hk⟩
    dsimp only
    refine nav ?_
    (refine aC_region ?_
      <;> refine xL 24 q_lss ?_
      <;> refine aL_end (nav ?_) <;> try dsimp only)
    first | refine cCd (fun hb24 => ?_) (fun hb24 => ?_) | refine cC (fun hb24 => ?_) (fun hb24 => ?_)
    · first
      | exact Bool.noConfusion hb24
      | (
       obtain ⟨x, hx⟩ := get_some (show k < A.fin.length by omega)
       have e1 := map_at (f := pInt) hx
       refine nav ?_
       (refine aC_region ?_
         <;> refine xL 25 (q_idxN tSl22_LfF) ?_
         <;> (refine yL 26 (q_ld tNa3_LfF) fun v26 hv26 => ?_; cases hv26)
         <;> refine xL 8 q_assign ?_
         <;> refine aL_end (nav ?_) <;> try dsimp only)
       (refine aC_region ?_
         <;> refine xL 27 q_move ?_
         <;> refine xL 28 q_move ?_
         <;> (refine s_mput 19 tMp113_LfF ?_; rw [ikv_put, ← insL_snoc hx])
         <;> refine aL_end (nav ?_) <;> try dsimp only)
       (refine aC_region ?_
         <;> refine xL 29 q_add ?_
         <;> refine xL 23 q_move ?_
         <;> refine aL_end (nav ?_) <;> try dsimp only)
       refine aN_again (
         ⟨k + 1, lt_of_get hx⟩
         ) (by dsimp only; omega) ⟨rfl, rfl, rfl, rfl, rfl, rfl, rfl, rfl, trivial⟩ ⟨rfl, rfl, rfl, rfl, trivial⟩)
    · first
      | exact Bool.noConfusion hb24
      | (
       rw [List.take_of_length_le (show A.fin.length ≤ k by omega)]
       refine nav ?_
       (refine aC_region ?_
         <;> refine xL 30 (q_fldo 4 tFl25_3_LfF) ?_
         <;> refine s_st 4 tNa22_LfF tSz22_LfF ?_
         <;> refine aL_end (nav ?_) <;> try dsimp only)
       refine aC_ent (nilCells (l := 4) [pInt A.n, pInt A.syms, pInts A.start, .own 3 1 0 [], pMvs A.moves] rfl rfl (fun i p p' h1 h2 => by
         match i with
         | 0 => cases h1; cases h2; exact .inl rfl
         | 1 => cases h1; cases h2; exact .inl rfl
         | 2 => cases h1; cases h2; exact .inl rfl
         | 3 => cases h1; cases h2; exact .inr ⟨rfl, _, _, rfl⟩
         | 4 => cases h1; cases h2; exact .inl rfl
         | i + 5 => simp at h2)) fun _ => ?_
       refine aC_ent (focusO (l := 4) (l' := 301) (j := 3) rfl rfl rfl rfl) fun i => ?_
       obtain ⟨v301, ho301⟩ := i
       dsimp only [List.set]
       (refine aC_region ?_
         <;> refine xL 31 (q_fldo 4 tFl25_0_LfF) ?_
         <;> (refine yL 32 (q_ldo 4 tNa3_LfF) fun v32 hv32 => ?_; cases hv32)
         <;> refine xL 33 q_move ?_
         <;> refine aL_end (nav ?_) <;> try dsimp only)
       refine aC_loop (ι := { q : Nat × Value // q.1 ≤ A.n.toNat ∧ q.2.oneCell' = true }) (fun k => ⟨[(1, _, _), (2, _, _), (3, _, _), (4, _, _), (6, _, _), (32, _, _), (33, .int .i64 k.1.1, pInt k.1.1)], [(1, _, _), (2, _, _), (19, _, _), (4, h4, .own 25 5 1 [pInt A.n, pInt A.syms, pInts A.start, .val k.1.2, pMvs A.moves]), (301, k.1.2, .own 3 1 (listedL k.1.1 fun i => !finB A (i : Nat)).length ((listedL k.1.1 fun i => !finB A (i : Nat)).map pInt))]⟩) (fun k => A.n.toNat - k.1.1) ⟨(0, v301), Nat.zero_le _, ho301⟩ (fun a w H => H.weaken ⟨rfl, rfl, rfl, rfl, rfl, rfl, rfl, trivial⟩ ⟨rfl, rfl, rfl, rfl, rfl, trivial⟩) ?_
       rintro ⟨⟨s, hF⟩, hs, hFo⟩
       dsimp only
       dsimp only at hs hFo
       have hll := listedL_len s fun i => !finB A (i : Nat)
       have hL1 := listedL_snoc s fun i => !finB A (i : Nat)
       refine nav ?_
       (refine aC_region ?_
         <;> refine xL 34 q_lss ?_
         <;> refine aL_end (nav ?_) <;> try dsimp only)
       first | refine cCd (fun hb34 => ?_) (fun hb34 => ?_) | refine cC (fun hb34 => ?_) (fun hb34 => ?_)
       · first
         | exact Bool.noConfusion hb34
         | (
          refine nav ?_
          (refine aC_region ?_
            <;> refine xL 35 q_move ?_
            <;> refine xL 9 q_assign ?_
            <;> refine aL_end (nav ?_) <;> try dsimp only)
          (refine aC_region ?_
            <;> refine xL 36 q_move ?_
            <;> refine xL 37 q_move ?_
            <;> refine xL 38 (q_lookoE 19 tMp113_LfF (hk := kok_ikv _ _) (hu := ins_look A.fin s)) ?_
            <;> refine xL 39 q_not ?_
            <;> refine aL_end (nav ?_) <;> try dsimp only)
          first | refine cCd (fun hb39 => ?_) (fun hb39 => ?_) | refine cC (fun hb39 => ?_) (fun hb39 => ?_)
          · first
            | exact Bool.noConfusion hb39
            | (
             rw [if_pos (show (!finB A (s : Nat)) = true from hb39)] at hL1
             refine nav ?_
             (refine aC_region ?_
               <;> refine xL 40 (q_fldo 4 tFl25_3_LfF) ?_
               <;> (refine yL 41 (q_ldo 4 tNa22_LfF) fun v41 hv41 => ?_; cases hv41)
               <;> refine xL 42 q_move ?_
               <;> refine s_lit1 (kk := 1) 43 tEl22_LfF fun h43 ho43 => ?_
               <;> (refine s_app 301 43 44 tEl22_LfF fun h44 ho44 => ?_; refine aL_ent (relabel (l := 44) 301 rfl rfl) fun _ => ?_; refine aL_ent (recast (l := 301) rfl (own_ints _ (listedL s fun i => !finB A (i : Nat)) s)) fun _ => ?_)
               <;> refine xL 45 (q_fldo 4 tFl25_3_LfF) ?_
               <;> refine s_st 4 tNa22_LfF tSz22_LfF ?_
               <;> refine aL_end (nav ?_) <;> try dsimp only)
             (refine aC_region ?_
               <;> refine xL 46 q_add ?_
               <;> refine xL 33 q_move ?_
               <;> refine aL_end (nav ?_) <;> try dsimp only)
             rw [← hL1]
             first
               | (exact aN_again (
                   ⟨(s + 1, h44), by dsimp only; omega, ho44⟩
                   ) (by dsimp only; omega) ⟨rfl, rfl, rfl, rfl, rfl, rfl, rfl, trivial⟩ ⟨rfl, rfl, rfl, rfl, rfl, trivial⟩)
               | (exact aN_again (
                   ⟨(s + 1, hF), by dsimp only; omega, hFo⟩
                   ) (by dsimp only; omega) ⟨rfl, rfl, rfl, rfl, rfl, rfl, rfl, trivial⟩ ⟨rfl, rfl, rfl, rfl, rfl, trivial⟩))
          · first
            | exact Bool.noConfusion hb39
            | (
             rw [if_neg (show ¬ (!finB A (s : Nat)) = true by rw [show (!finB A (s : Nat)) = false from hb39]; simp), List.append_nil] at hL1
             refine nav ?_
             (refine aC_region ?_
               <;> refine xL 46 q_add ?_
               <;> refine xL 33 q_move ?_
               <;> refine aL_end (nav ?_) <;> try dsimp only)
             rw [← hL1]
             first
               | (exact aN_again (
                   ⟨(s + 1, h44), by dsimp only; omega, ho44⟩
                   ) (by dsimp only; omega) ⟨rfl, rfl, rfl, rfl, rfl, rfl, rfl, trivial⟩ ⟨rfl, rfl, rfl, rfl, rfl, trivial⟩)
               | (exact aN_again (
                   ⟨(s + 1, hF), by dsimp only; omega, hFo⟩
                   ) (by dsimp only; omega) ⟨rfl, rfl, rfl, rfl, rfl, rfl, rfl, trivial⟩ ⟨rfl, rfl, rfl, rfl, rfl, trivial⟩)))
       · first
         | exact Bool.noConfusion hb34
         | (
          have hsn : s = A.n.toNat := by omega
          subst hsn
          refine nav ?_
          refine aC_ent (freezeCell (l := 4) (l' := 301) (j := 3) rfl rfl rfl rfl) fun _ => ?_
          rw [share_ints _ _ _ rfl]
          (refine aC_region ?_
            <;> (refine yL 47 (q_ldao 4 tAgg25_LfF) fun v47 hv47 => ?_; cases hv47)
            <;> refine s_sta 2 tAgg25_LfF ?_
            <;> refine xL 3 q_assign ?_
            <;> refine aL_end (nav ?_) <;> try dsimp only)
          exact ret_cs (k := 5) 2 (by kernel_rfl) (Tryz.results28) rfl rfl rfl (Nat.le_of_ble_eq_true rfl) (by decide) rfl rfl))
theorem minX_err {a : Aut} {e : Int} (h : minX a = .error e) : ¬ e = 0 := by
  unfold minX redX at h
  split at h
  · split at h
    · rename_i t _
      cases hl : leastT t with
      | some A => rw [hl] at h; cases h
      | none => rw [hl] at h; cases h; decide
    · cases h; decide
  · cases h; decide
theorem aComplement_e (a : Aut) : AF Tryz.prog 28 [pAut a] (· = resW (compX a)) := by
  have hm := aMinimalW_e a
  unfold compX
  cases hx : minX a with
  | error e => rw [hx] at hm; exact aComplement_err a (minX_err hx) hm
  | ok A =>
    rw [hx] at hm
    obtain ⟨h1, h2⟩ := minX_ok hx
    exact aComplement_ok a (redX_aok (aok_of h1) h2) hm
end Go.Proofs.YtgigclnaicbiaaaGreatDoor

namespace Go.En
open Go.RowKit Go.Cb
set_option linter.all false
section
variable {P : Program} {st : St} {o : Oper} {x y : Operand} {q q' : PV} {t t' : TypeId}
theorem q_quo {a b : Int} (c : Int) (hc : a.tdiv b = c) (h0 : -9223372036854775808 ≤ c) (h1 : c ≤ 9223372036854775807) (ho : o.op = .binOp .quo t x y t' := by exact rfl) (hx : ev st.slots x = some (.int .i64 a, q) := by exact rfl) (hy : ev st.slots y = some (.int .i64 b, q') := by exact rfl) (hb : b ≠ 0 := by first | decide | omega) : YE P st o (· = .int .i64 c) (.val (.int .i64 c)) :=
  y2 hx hy fun ρ w h3 h4 => by
    have hw : IntKind.i64.wrap c = c := IntWalk.i64_in _ ⟨h0, h1⟩
    simp [execOp, ho, h3, h4, eqGuard, binOp, Op.intDiv, hb, hc, hw]
end
section
variable {P : Program} {c : Ctx} {sL hP : List (Nat × Ent)}
theorem ret_hcs {fn : Func} {R : Value → PV → List (Nat × Ent) → Prop} {t ty s k e k' n : Nat} {h u : Value} {q p : PV} {cs : List PV} (l : Nat) (H' : List (Nat × Ent)) (hT : AggT P ty k = true) (hr : fn.results = #[.cell t ty, .tmp s]) (ht : lk sL t = some (padd (sbase h) 0, q)) (hl : lk hP l = some (h, .own e k' n cs)) (hs : lk sL s = some (u, p)) (hp : k ≤ cs.length) (hk : 0 < k) (hsh : (cs.take k).all isSh = true) (hsub : Sub H' hP) (hR : ∀ V : Value, R (.tuple [V, u].toArray) (.tup [.agg (cs.take k), p]) H') : aR c (bodyPost P fn (RetH c R)) (⟨sL, hP⟩ : St) := fun a w ⟨F, H⟩ => by
  obtain ⟨V, A, h0, h1, h2⟩ := cell_run H hT ht hl hp hk hsh
  obtain ⟨h3, h4⟩ := H.sl s _ _ hs
  have H2 : HoldsF c (⟨sL, H'⟩ : St) F a w := H.less (fun _ _ h => h) fun t x hx => hsub.lk hx
  have hM : ∀ b, b < w.heap.size → mof c H' F b → mof c hP F b := fun b _ hb => by
    rcases hb with hb | ⟨l, x, h1, h2⟩
    · exact .inl hb
    · exact .inr ⟨l, x, hsub.lk h1, h2⟩
  refine ⟨H.df, .tuple #[V, u], ?_, .tuple #[V, u], .tup [.agg (cs.take k), p], H', F, rfl, hR _, H2.toHeapF, .tup [V, u] _ rfl fun i v q' hv hq' => ?_⟩
  · simp only [results, hr]
    simp at h0
    simp [h0, h1, Array.getD_eq_getD_getElem?, h3]
  · match i with
    | 0 => simp at hv hq'; subst hv hq'; exact h2.anti hM
    | 1 => simp at hv hq'; subst hv hq'; exact h4.anti hM
    | i + 2 => simp at hv
end
end Go.En

namespace Go.Proofs.YtgigclnaicbiaaaGreatDoor
open Go.RowKit Go.Cb Go.En
set_option linter.all false
set_option maxRecDepth 100000

theorem tEl154_LfG : ElT Tryz.prog 154 5 1 1 (.int .u8 0) := ⟨Tryz.underlying154, by kernel_rfl, rfl, by decide⟩
theorem tNa3_LfG : NoAgg Tryz.prog 3 = true := by kernel_rfl
theorem tSl22_LfG : SlT Tryz.prog 22 3 1 = true := by kernel_rfl

theorem digL_snoc {l : List Int} {k : Nat} {x : Int} (h : l[k]? = some x) : digL (l.take (k + 1)) = digL (l.take k) ++ [UInt8.ofNat (x.toNat % 250 + 1), UInt8.ofNat (x.toNat / 250 + 1), 0] := by
  unfold digL; rw [take_snoc h, List.flatMap_append]; simp
theorem digL_len : ∀ l : List Int, (digL l).length = l.length * 3
  | [] => rfl
  | x :: l => by
    have : digL (x :: l) = [UInt8.ofNat (x.toNat % 250 + 1), UInt8.ofNat (x.toNat / 250 + 1), 0] ++ digL l := rfl
    rw [this, List.length_append, digL_len l]
    simp only [List.length_cons, List.length_nil]; omega
theorem dig_step (e : Nat) {l : List Int} {k : Nat} {x : Int} (h : l[k]? = some x) (h0 : 0 ≤ x) (h1 : x ≤ 2000) : PV.own e 1 ((digL (l.take k)).length + 3) ((digL (l.take k)).map pByte ++ [PV.val (.int .u8 (x.tmod 250 + 1)), PV.val (.int .u8 (x.tdiv 250 + 1)), PV.val (.int .u8 0)]) = .own e 1 (digL (l.take (k + 1))).length ((digL (l.take (k + 1))).map pByte) := by
  rw [digL_snoc h, List.map_append, List.length_append]
  have e1 : (((UInt8.ofNat (x.toNat % 250 + 1)).toNat : Nat) : Int) = x.tmod 250 + 1 := by
    rw [UInt8.toNat_ofNat', Int.tmod_eq_emod_of_nonneg h0]; omega
  have e2 : (((UInt8.ofNat (x.toNat / 250 + 1)).toNat : Nat) : Int) = x.tdiv 250 + 1 := by
    rw [UInt8.toNat_ofNat', Int.tdiv_eq_ediv_of_nonneg h0]; omega
  simp only [List.map_cons, List.map_nil, pByte, e1, e2]
  rfl
theorem u8_in {a : Int} (h0 : 0 ≤ a) (h1 : a ≤ 255) : IntKind.u8.wrap a = a := by
  rw [IntKind.wrap_u8]; omega
theorem r07digits_e (l : List Int) (hl : l.length ≤ 1000000) (h0 : ∀ x ∈ l, 0 ≤ x ∧ x ≤ 2000) : AF Tryz.prog 107 [pInts l] (· = .val (.string (digB l))) := by
  refine AF.of_body 31 Tryz.func107 rfl Tryz.ntmps107 (Nat.le_of_ble_eq_true rfl) ?_
  intro w0 M0 vs hl hv
  obtain ⟨v0, rfl⟩ := len1 hl
  clear hl hv
  refine nav ?_
  (refine aC_region ?_
    <;> refine xL 2 q_assign ?_
    <;> refine aL_end (nav ?_) <;> try dsimp only)
  (refine aC_region ?_
    <;> refine s_lit0 5 tEl154_LfG fun h5 ho5 => ?_
    <;> refine xL 3 q_assign ?_
    <;> refine aL_end (nav ?_) <;> try dsimp only)
  refine aC_ent (relabel (l := 5) 200 rfl rfl) fun _ => ?_
  refine aC_slen 0 rfl fun hlen => ?_
  (refine aC_region ?_
    <;> refine xL 4 q_assign ?_
    <;> refine aL_end (nav ?_) <;> try dsimp only)
  refine aC_loop (ι := { q : Nat × Value // q.1 ≤ l.length ∧ q.2.oneCell' = true }) (fun k => ⟨[(0, _, _), (3, k.1.2, .val k.1.2), (4, .int .i64 k.1.1, pInt k.1.1)], [(200, k.1.2, .own 5 1 (digL (l.take k.1.1)).length ((digL (l.take k.1.1)).map pByte))]⟩) (fun k => l.length - k.1.1) ⟨(0, h5), Nat.zero_le _, ho5⟩ (fun a w H => H.weaken ⟨rfl, rfl, rfl, trivial⟩ ⟨rfl, trivial⟩) ?_
  rintro ⟨⟨k, r⟩, hk, hr⟩
  dsimp only
  dsimp only at hk hr
  have hkl := digL_len (l.take k)
  rw [List.length_take] at hkl
  refine nav ?_
  (refine aC_region ?_
    <;> refine xL 6 q_move ?_
    <;> refine xL 7 q_move ?_
    <;> refine xL 8 (q_len tSl22_LfG) ?_
    <;> refine xL 9 q_lss ?_
    <;> refine aL_end (nav ?_) <;> try dsimp only)
  first | refine cCd (fun hb9 => ?_) (fun hb9 => ?_) | refine cC (fun hb9 => ?_) (fun hb9 => ?_)
  · first
    | exact Bool.noConfusion hb9
    | (
     obtain ⟨x, hx⟩ := get_some (show k < l.length by omega)
     have e1 := map_at (f := pInt) hx
     have hx0 := h0 x (List.mem_of_getElem? hx)
     have t1 : 0 ≤ x.tmod 250 ∧ x.tmod 250 < 250 := by rw [Int.tmod_eq_emod_of_nonneg hx0.1]; omega
     have t2 : 0 ≤ x.tdiv 250 ∧ x.tdiv 250 ≤ 8 := by rw [Int.tdiv_eq_ediv_of_nonneg hx0.1]; omega
     refine nav ?_
     (refine aC_draw (fun i => ([] : List Nat).elem i) [] (by kernel_rfl) ?_
       <;> refine xD 0 12 rfl q_move ?_
       <;> refine xD 1 13 rfl q_move ?_
       <;> refine xD 2 14 rfl q_move ?_
       <;> refine xD 3 15 rfl (q_idxN tSl22_LfG) ?_
       <;> (refine yD 4 16 rfl (q_ld tNa3_LfG) fun v16 hv16 => ?_; cases hv16)
       <;> refine xD 5 17 rfl q_rem ?_
       <;> refine xD 6 18 rfl q_add ?_
       <;> refine xD 7 19 rfl (q_conv (hs := Tryz.underlying3) (hd := Tryz.underlying5) (hw := u8_in (by omega) (by omega))) ?_
       <;> refine xD 8 20 rfl q_move ?_
       <;> refine xE 9 21 rfl q_move ?_
       <;> refine xE 10 22 rfl (q_idxN tSl22_LfG) ?_
       <;> (refine yE 11 23 rfl (q_ld tNa3_LfG) fun v23 hv23 => ?_; cases hv23)
       <;> refine xE 12 24 rfl (q_quo (x.tdiv 250) rfl (by omega) (by omega)) ?_
       <;> refine xE 13 25 rfl q_add ?_
       <;> refine xE 14 26 rfl (q_conv (hs := Tryz.underlying3) (hd := Tryz.underlying5) (hw := u8_in (by omega) (by omega))) ?_
       <;> (refine aD_one 15 (by kernel_rfl) ?_)
       <;> (refine aW_run rfl fun w9 M9 N9 DQ back => ?_)
       <;> refine s_litn (xs := [_, _, _]) 27 tEl154_LfG fun h27 ho27 => ?_
       <;> refine aL_end (back _ (nrm ?_))
       <;> (refine aD_one 16 (by kernel_rfl) ?_)
       <;> (refine aW_run rfl fun w9 M9 N9 DQ back => ?_)
       <;> refine s_app 200 27 28 tEl154_LfG fun h28 ho28 => ?_
       <;> refine aL_end (back _ (nrm ?_))
       <;> refine xE 17 3 rfl q_assign ?_
       <;> refine aD_end (by kernel_rfl) (nav ?_)
       <;> try dsimp only)
     refine aC_ent (relabel (l := 28) 200 rfl rfl) fun _ => ?_
     refine aC_ent (recast (l := 200) rfl (dig_step _ hx hx0.1 hx0.2)) fun _ => ?_
     (refine aC_region ?_
       <;> refine xL 10 q_move ?_
       <;> refine xL 11 q_add ?_
       <;> refine xL 4 q_assign ?_
       <;> refine aL_end (nav ?_) <;> try dsimp only)
     refine aN_again (
       ⟨(k + 1, h28), lt_of_get hx, ho28⟩
       ) (by dsimp only; omega) ⟨rfl, rfl, rfl, trivial⟩ ⟨rfl, trivial⟩)
  · first
    | exact Bool.noConfusion hb9
    | (
     refine nav ?_
     (refine aC_region ?_
       <;> refine xL 29 q_move ?_
       <;> refine xL 30 (q_bstr 200 Tryz.underlying154 Tryz.underlying5 Tryz.underlying9) ?_
       <;> refine xL 2 q_assign ?_
       <;> refine aL_end (nav ?_) <;> try dsimp only)
     refine ret_shr (Tryz.results107) rfl ?_
     rw [List.take_of_length_le (by omega)]; rfl)
end Go.Proofs.YtgigclnaicbiaaaGreatDoor

namespace Go.Proofs.YtgigclnaicbiaaaGreatDoor
open Go.RowKit Go.Cb Go.En
set_option linter.all false
set_option maxRecDepth 100000

theorem tAgg100_LfH : AggT Tryz.prog 100 3 = true := by kernel_rfl
theorem tAgg25_LfH : AggT Tryz.prog 25 5 = true := by kernel_rfl
theorem tEl22_LfH : ElT Tryz.prog 22 3 1 8 (.int .i64 0) := ⟨Tryz.underlying22, by kernel_rfl, rfl, by decide⟩
theorem tEl28_LfH : ElT Tryz.prog 28 22 1 24 (.slice none 0 0) := ⟨Tryz.underlying28, by kernel_rfl, rfl, by decide⟩
theorem tEl66_LfH : ElT Tryz.prog 66 4 1 1 (.bool false) := ⟨Tryz.underlying66, by kernel_rfl, rfl, by decide⟩
theorem tFl100_1_LfH : FldT Tryz.prog 100 1 1 = true := by kernel_rfl
theorem tFl100_2_LfH : FldT Tryz.prog 100 2 2 = true := by kernel_rfl
theorem tFl25_1_LfH : FldT Tryz.prog 25 1 1 = true := by kernel_rfl
theorem tFl25_2_LfH : FldT Tryz.prog 25 2 2 = true := by kernel_rfl
theorem tMp135_LfH : MpT Tryz.prog 135 9 3 .string (.int .i64 0) := ⟨Tryz.underlying135, Tryz.underlying9, .inl rfl, by show ZeroT _ _ _; unfold ZeroT; kernel_rfl⟩
theorem tNa22_LfH : NoAgg Tryz.prog 22 = true := by kernel_rfl
theorem tNa28_LfH : NoAgg Tryz.prog 28 = true := by kernel_rfl
theorem tNa3_LfH : NoAgg Tryz.prog 3 = true := by kernel_rfl
theorem tNa66_LfH : NoAgg Tryz.prog 66 = true := by kernel_rfl
theorem tSl28_LfH : SlT Tryz.prog 28 22 1 = true := by kernel_rfl
theorem tSt100_LfH : stInfo Tryz.prog 100 = some ((.agg #[(.int .i64 0), (.slice none 0 0), (.slice none 0 0)]), ([0, 1, 2] : List Nat).map fun o => (o, 1)) := by kernel_rfl
theorem tSz28_LfH : (Tryz.prog.info? 28).map (·.size) = some 1 := by kernel_rfl
theorem tSz66_LfH : (Tryz.prog.info? 66).map (·.size) = some 1 := by kernel_rfl
theorem tZr100_LfH : ZeroT Tryz.prog 100 (.agg #[(.int .i64 0), (.slice none 0 0), (.slice none 0 0)]) := by unfold ZeroT; kernel_rfl

section
variable {α : Type}
def num1 (f : α → ByteArray) (o : List α) (x : α) : Nat := if posK f o (f x) < o.length then posK f o (f x) + 1 else 0
theorem num1_look (f : α → ByteArray) (o : List α) (x : α) : (mget (skv (numE f 1 o)) (.string (f x))).getD (.int .i64 0) = .int .i64 (num1 f o x : Nat) := by
  rw [mget_skv, numE_get]
  unfold num1
  by_cases h : posK f o (f x) < o.length
  · rw [if_pos h, if_pos h, Nat.add_comm]; rfl
  · rw [if_neg h, if_neg h]; rfl
theorem num1_put {f : α → ByteArray} {o : List α} {x : α} (h : ¬ posK f o (f x) < o.length) : mput (skv (numE f 1 o)) (.string (f x)) (.int .i64 ((o.length + 1 : Nat) : Int)) = skv (numE f 1 (o ++ [x])) := by
  have := numE_put f x o 1 h
  rw [Nat.add_comm] at this
  rw [mput_skv, this]
end
theorem dig_id {o : List (List Int)} {x : List Int} (h : ∀ l ∈ o, ∀ s ∈ l, 0 ≤ s ∧ s ≤ 2000) (hx : ∀ s ∈ x, 0 ≤ s ∧ s ≤ 2000) : posK digB o (digB x) = posK id o x := posK_inj fun l hl => digB_inj (h l hl) hx
theorem SetOk.bd2 {a : Aut} (ha : AOk a) {l : List Int} (h : SetOk a l) : ∀ s ∈ l, 0 ≤ s ∧ s ≤ 2000 := fun s hs => by have := h.1 s hs; have := ha.n1; omega
def RSubH (a : Aut) (v : Value) (q : PV) (h : List (Nat × Ent)) : Prop :=
  (∃ (t : Tab) (hF V1 : Value), hF.oneCell' = true ∧ subT a = some t ∧ v = .tuple [V1, .bool true].toArray ∧ q = .tup [.agg [pInt (t.m : Nat), .val hF, .sl t.rows.length (t.rows.map pNats)], pBool true] ∧ h = [(1000, hF, .own 4 1 t.fin.length (t.fin.map pBool))]) ∨
  (subT a = none ∧ (∃ V1 : Value, v = .tuple [V1, .bool false].toArray) ∧ q = .tup [.agg [pInt 0, .val (.slice none 0 0), .val (.slice none 0 0)], pBool false] ∧ h = [])
set_option maxHeartbeats 4000000 in
theorem r07Subsets_e (a : Aut) (h : AOk a) (V : Value) : AFh False Tryz.prog 84 [(0, V, pAut a)] [] (RSubH a) := by
  have hn1 := h.n1
  have hs0 := h.s0
  have hs1 := h.s1
  have hsN : ((a.syms.toNat : Nat) : Int) = a.syms := by omega
  have hst := set_start h
  refine AFh.of_body 89 Tryz.func84 rfl Tryz.ntmps84 (Nat.le_of_ble_eq_true rfl) rfl ?_
  intro w0 M0 N0
  refine nav ?_
  (refine aC_region ?_
    <;> refine s_boxa 1 5 fun h1 => ?_
    <;> refine s_alloc [(.int .i64 0), (.slice none 0 0), (.slice none 0 0)] 3 2 tZr100_LfH fun h2 => ?_
    <;> refine xL 3 q_assign ?_
    <;> refine aL_end (nav ?_) <;> try dsimp only)
  (refine aC_region ?_
    <;> refine xL 12 (q_fldo 1 tFl25_1_LfH) ?_
    <;> (refine yL 13 (q_ldo 1 tNa3_LfH) fun v13 hv13 => ?_; cases hv13)
    <;> refine xL 14 (q_build tSt100_LfH) ?_
    <;> refine s_alloc [(.int .i64 0), (.slice none 0 0), (.slice none 0 0)] 3 4 tZr100_LfH fun h4 => ?_
    <;> refine s_sta 4 tAgg100_LfH ?_
    <;> refine aL_end (nav ?_) <;> try dsimp only)
  refine aC_ent (nilCells (l := 4) [pInt a.syms, .own 4 1 0 [], .own 22 1 0 []] rfl rfl (fun i p p' h1 h2 => by
    match i with
    | 0 => cases h1; cases h2; exact .inl rfl
    | 1 => cases h1; cases h2; exact .inr ⟨rfl, _, _, rfl⟩
    | 2 => cases h1; cases h2; exact .inr ⟨rfl, _, _, rfl⟩
    | i + 3 => simp at h2)) fun _ => ?_
  refine aC_ent (focusO (l := 4) (l' := 302) (j := 1) rfl rfl rfl rfl) fun i => ?_
  obtain ⟨v302, ho302⟩ := i
  refine aC_ent (focusO (l := 4) (l' := 301) (j := 2) rfl rfl rfl rfl) fun i => ?_
  obtain ⟨v301, ho301⟩ := i
  dsimp only [List.set]
  (refine aC_region ?_
    <;> (refine yL 15 (q_ldao 1 tAgg25_LfH) fun v15 hv15 => ?_; cases hv15)
    <;> refine xL 16 (q_fldo 1 tFl25_2_LfH) ?_
    <;> (refine yL 17 (q_ldo 1 tNa22_LfH) fun v17 hv17 => ?_; cases hv17)
    <;> (refine cO 18 (cA Tryz.call65 (r07Closed_e a a.start h h.st)) fun v18 ho18 => ?_; refine aL_ent (En.freeze (l := 18) (t := 18) rfl rfl) fun _ => ?_; rw [share_ints _ _ _ rfl])
    <;> refine s_lit1 (kk := 1) 19 tEl28_LfH fun h19 ho19 => ?_
    <;> refine xL 5 q_assign ?_
    <;> refine aL_end (nav ?_) <;> try dsimp only)
  refine aC_ent (relabel (l := 19) 303 rfl rfl) fun _ => ?_
  obtain ⟨x0, hx0⟩ : ∃ x0, x0 = closL a a.start := ⟨_, rfl⟩
  rw [← hx0] at hst ⊢
  have hst2 := hst.len h
  (refine aC_region ?_
    <;> refine s_mkmap 20 fun h20 ho20 => ?_
    <;> refine xL 6 q_assign ?_
    <;> refine aL_end (nav ?_) <;> try dsimp only)
  (refine aC_region ?_
    <;> refine xL 21 q_move ?_
    <;> refine xL 22 q_move ?_
    <;> refine xL 23 (q_idxoN (i := 0) 303 tSl28_LfH) ?_
    <;> (refine yL 24 (q_ldo 303 tNa22_LfH) fun v24 hv24 => ?_; cases hv24)
    <;> (refine cS 25 (cA Tryz.call107 (r07digits_e x0 (by omega) (hst.bd2 h))) fun v25 hv25 => ?_; cases hv25)
    <;> (refine s_mput 20 tMp135_LfH ?_; rw [show mput [] (.string (digB x0)) (.int .i64 1) = skv (numE digB 1 [x0]) from rfl])
    <;> refine aL_end (nav ?_) <;> try dsimp only)
  refine aC_ent (relabel (l := 20) 304 rfl rfl) fun _ => ?_
  (refine aC_region ?_
    <;> refine xL 7 q_assign ?_
    <;> refine aL_end (nav ?_) <;> try dsimp only)
  refine aC_loop (ι := { q : Nat × Value × Value × Value × List (List Int) × List (List Nat) // (subW a).upto x0 q.1 = some (q.2.2.2.2.1, q.2.2.2.2.2) ∧ q.1 ≤ q.2.2.2.2.1.length ∧ q.2.1.oneCell' = true ∧ q.2.2.1.oneCell' = true ∧ q.2.2.2.1.oneCell' = true }) (fun k => ⟨[(1, _, _), (2, _, _), (3, _, _), (4, _, _), (6, _, _), (5, k.1.2.2.2.1, .val k.1.2.2.2.1), (7, .int .i64 k.1.1, pInt k.1.1)], [(1, _, _), (2, _, _), (304, h20, .omap (skv (numE digB 1 k.1.2.2.2.2.1))), (4, h4, .own 100 3 1 [pInt a.syms, .val k.1.2.2.1, .val k.1.2.1]), (301, k.1.2.1, .own 22 1 k.1.2.2.2.2.2.length (k.1.2.2.2.2.2.map pNats)), (302, k.1.2.2.1, .own 4 1 ((k.1.2.2.2.2.1.take k.1.1).map (accB a)).length (((k.1.2.2.2.2.1.take k.1.1).map (accB a)).map pBool)), (303, k.1.2.2.2.1, .own 22 1 k.1.2.2.2.2.1.length (k.1.2.2.2.2.1.map pInts))]⟩) (fun k => 2000 - k.1.1) ⟨(0, v301, v302, h19, [x0], []), rfl, Nat.zero_le _, ho301, ho302, ho19⟩ (fun a w H => H.weaken ⟨rfl, rfl, rfl, rfl, rfl, rfl, rfl, trivial⟩ ⟨rfl, rfl, rfl, rfl, rfl, rfl, rfl, trivial⟩) ?_
  rintro ⟨⟨i, r1, r2, r3, o, rows⟩, hU, hi, hr1, hr2, hr3⟩
  dsimp only
  dsimp only at hU hi hr1 hr2 hr3
  have hU' := hU
  rw [hx0] at hU'
  obtain ⟨hOk, hRl, _⟩ := sub_ok h hU'
  have hRl := hRl hi
  have hcap : o.length ≤ 2000 := hOk.cap
  have hOp := hOk.p
  have hfl : ((o.take i).map (accB a)).length ≤ 2000 := by rw [List.length_map, List.length_take]; omega
  refine nav ?_
  (refine aC_region ?_
    <;> refine xL 26 q_move ?_
    <;> refine xL 27 q_move ?_
    <;> refine xL 28 (q_leno 303 tSl28_LfH) ?_
    <;> refine xL 29 q_lss ?_
    <;> refine aL_end (nav ?_) <;> try dsimp only)
  first | refine cCd (fun hb29 => ?_) (fun hb29 => ?_) | refine cC (fun hb29 => ?_) (fun hb29 => ?_)
  · first
    | exact Bool.noConfusion hb29
    | (
     obtain ⟨x, hx⟩ := get_some (show i < o.length by omega)
     have hxs := hOp x (List.mem_of_getElem? hx)
     have hxl := hxs.len h
     refine nav ?_
     (refine aC_region ?_
       <;> refine s_lit0 32 tEl22_LfH fun h32 ho32 => ?_
       <;> refine xL 8 q_assign ?_
       <;> refine aL_end (nav ?_) <;> try dsimp only)
     refine aC_ent (relabel (l := 32) 305 rfl rfl) fun _ => ?_
     refine aC_ent (recast (l := 305) (p' := .own 3 1 ([] : List Nat).length ((toI []).map pInt)) rfl rfl) fun _ => ?_
     (refine aC_region ?_
       <;> refine xL 9 q_assign ?_
       <;> refine aL_end (nav ?_) <;> try dsimp only)
     refine aC_loop (ι := { q : Nat × Value × Value × List (List Int) × List Nat // (subW a).row i x o q.1 = some (q.2.2.2.1, q.2.2.2.2) ∧ q.1 ≤ a.syms.toNat ∧ q.2.1.oneCell' = true ∧ q.2.2.1.oneCell' = true }) (fun k => ⟨[(1, _, _), (2, _, _), (3, _, _), (4, _, _), (6, _, _), (7, _, _), (5, k.1.2.1, .val k.1.2.1), (8, k.1.2.2.1, .val k.1.2.2.1), (9, .int .i64 k.1.1, pInt k.1.1)], [(1, _, _), (2, _, _), (4, _, _), (301, _, _), (302, _, _), (303, k.1.2.1, .own 22 1 k.1.2.2.2.1.length (k.1.2.2.2.1.map pInts)), (304, h20, .omap (skv (numE digB 1 k.1.2.2.2.1))), (305, k.1.2.2.1, .own 3 1 k.1.2.2.2.2.length ((toI k.1.2.2.2.2).map pInt))]⟩) (fun k => a.syms.toNat - k.1.1) ⟨(0, r3, h32, o, []), rfl, Nat.zero_le _, hr3, ho32⟩ (fun a w H => H.weaken ⟨rfl, rfl, rfl, rfl, rfl, rfl, rfl, rfl, rfl, trivial⟩ ⟨rfl, rfl, rfl, rfl, rfl, rfl, rfl, rfl, trivial⟩) ?_
     rintro ⟨⟨s, r3', hR, o', r⟩, hW, hs, hr3', hRo⟩
     dsimp only
     dsimp only at hW hs hr3' hRo
     obtain ⟨hMt, hpr, hrl, _⟩ := hOk.toMet.row (fun s _ => set_next h s x) (show s ≤ (subW a).m from hs) hW
     have hcap' : o'.length ≤ 2000 := hMt.cap
     have hx' := preG_get hpr hx
     have hil := lt_of_get hx'
     have hrtl := toI_len r
     refine nav ?_
     (refine aC_region ?_
       <;> refine xL 33 q_move ?_
       <;> refine xL 34 (q_fldo 1 tFl25_1_LfH) ?_
       <;> (refine yL 35 (q_ldo 1 tNa3_LfH) fun v35 hv35 => ?_; cases hv35)
       <;> refine xL 36 q_lss ?_
       <;> refine aL_end (nav ?_) <;> try dsimp only)
     first | refine cCd (fun hb36 => ?_) (fun hb36 => ?_) | refine cC (fun hb36 => ?_) (fun hb36 => ?_)
     · first
       | exact Bool.noConfusion hb36
       | (
        have hset := set_next h (s : Nat) x
        obtain ⟨set, hse⟩ : ∃ set, set = nextL a (s : Nat) x := ⟨_, rfl⟩
        rw [← hse] at hset
        have hsl := hset.len h
        have hkid := dig_id (fun l hl => (hMt.p l hl).bd2 h) (hset.bd2 h)
        have e1 := map_at (f := pInts) hx'
        have hlook := num1_look digB o' set
        refine nav ?_
        (refine aC_draw (fun i => ([] : List Nat).elem i) [1, 303] (by kernel_rfl) ?_
          <;> (refine yD 0 39 rfl (q_ldao 1 tAgg25_LfH) fun v39 hv39 => ?_; cases hv39)
          <;> refine xD 1 40 rfl q_move ?_
          <;> refine xD 2 41 rfl q_move ?_
          <;> refine xD 3 42 rfl (q_idxoN 303 tSl28_LfH) ?_
          <;> (refine yD 4 43 rfl (q_ldo 303 tNa22_LfH) fun v43 hv43 => ?_; cases hv43)
          <;> refine xE 5 44 rfl q_move ?_
          <;> (refine aD_one 6 (by kernel_rfl) ?_)
          <;> (refine aW_run rfl fun w9 M9 N9 DQ back => ?_)
          <;> (refine cO 45 (cA Tryz.call67 (r07After_e a x s h hxs.1)) fun v45 ho45 => ?_; refine aL_ent (En.freeze (l := 45) (t := 45) rfl rfl) fun _ => ?_; rw [share_ints _ _ _ rfl, ← hse])
          <;> refine aL_end (back _ (nrm ?_))
          <;> refine xE 7 10 rfl q_assign ?_
          <;> refine aD_end (by kernel_rfl) (nav ?_)
          <;> try dsimp only)
        (refine aC_region ?_
          <;> refine xL 46 q_move ?_
          <;> refine xL 47 q_move ?_
          <;> (refine cS 48 (cA Tryz.call107 (r07digits_e set (by omega) (hset.bd2 h))) fun v48 hv48 => ?_; cases hv48)
          <;> refine xL 49 (q_lookoE 304 tMp135_LfH (hk := kok_skv _ _) (hu := hlook)) ?_
          <;> refine xL 11 q_assign ?_
          <;> refine aL_end (nav ?_) <;> try dsimp only)
        (refine aC_region ?_
          <;> refine xL 50 q_move ?_
          <;> refine xL 51 q_eql ?_
          <;> refine aL_end (nav ?_) <;> try dsimp only)
        first | refine cCd (fun hb51 => ?_) (fun hb51 => ?_) | refine cC (fun hb51 => ?_) (fun hb51 => ?_)
        · first
          | exact Bool.noConfusion hb51
          | (
           have hnew : ¬ posK digB o' (digB set) < o'.length := fun hh => by
             unfold num1 at hb51
             rw [if_pos hh] at hb51; omega
           have hnew2 : ¬ posK (subW a).key o' ((subW a).key ((subW a).step i x s)) < o'.length := by
             show ¬ posK id o' (nextL a (s : Nat) x) < o'.length
             rw [← hse, ← hkid]; exact hnew
           refine nav ?_
           (refine aC_region ?_
             <;> refine xL 52 q_move ?_
             <;> refine xL 53 (q_leno 303 tSl28_LfH) ?_
             <;> refine xL 54 q_geq ?_
             <;> refine aL_end (nav ?_) <;> try dsimp only)
           first | refine cCd (fun hb54 => ?_) (fun hb54 => ?_) | refine cC (fun hb54 => ?_) (fun hb54 => ?_)
           · first
             | exact Bool.noConfusion hb54
             | (
              refine nav ?_
              (refine aC_region ?_
                <;> refine xL 55 (q_build tSt100_LfH) ?_
                <;> refine s_sta 2 tAgg100_LfH ?_
                <;> refine xL 3 q_assign ?_
                <;> refine aL_end (nav ?_) <;> try dsimp only)
              refine ret_hcs (k := 3) 2 [] (by kernel_rfl) (Tryz.results84) rfl rfl rfl (Nat.le_of_ble_eq_true rfl) (by decide) rfl trivial fun V => .inr ⟨?_, ⟨V, rfl⟩, rfl, rfl⟩
              have hv := visit_no hnew2 (show (subW a).cap ≤ o'.length by show 2000 ≤ o'.length; omega)
              have h1 := Srch.row_fails (Srch.row_out hW hv) (show s + 1 ≤ (subW a).m by show s + 1 ≤ a.syms.toNat; omega)
              have h2 := Srch.all_none (Srch.upto_out hU hx h1) (show i + 1 ≤ (subW a).cap by show i + 1 ≤ 2000; omega)
              unfold subT
              rw [← hx0, h2]; rfl)
           · first
             | exact Bool.noConfusion hb54
             | (
              refine nav ?_
              (refine aC_region ?_
                <;> refine xL 56 q_move ?_
                <;> refine xL 57 q_move ?_
                <;> refine s_lit1 (kk := 1) 58 tEl28_LfH fun h58 ho58 => ?_
                <;> (refine s_app 303 58 59 tEl28_LfH fun h59 ho59 => ?_; refine aL_ent (relabel (l := 59) 303 rfl rfl) fun _ => ?_; refine aL_ent (recast (l := 303) rfl (snoc_w _ o' set)) fun _ => ?_)
                <;> refine xL 5 q_assign ?_
                <;> refine aL_end (nav ?_) <;> try dsimp only)
              (refine aC_region ?_
                <;> refine xL 60 q_move ?_
                <;> refine xL 61 (q_leno 303 tSl28_LfH) ?_
                <;> refine xL 11 q_assign ?_
                <;> refine aL_end (nav ?_) <;> try dsimp only)
              (refine aC_region ?_
                <;> refine xL 62 q_move ?_
                <;> refine xL 63 q_move ?_
                <;> (refine cS 64 (cA Tryz.call107 (r07digits_e set (by omega) (hset.bd2 h))) fun v64 hv64 => ?_; cases hv64)
                <;> refine xL 65 q_move ?_
                <;> (refine s_mput 304 tMp135_LfH ?_; rw [show (((o' ++ [set]).length : Nat) : Int) = ((o'.length + 1 : Nat) : Int) by rw [List.length_append]; rfl, num1_put hnew])
                <;> refine aL_end (nav ?_) <;> try dsimp only)
              (refine aC_region ?_
                <;> refine xL 66 q_move ?_
                <;> refine xL 67 q_move ?_
                <;> refine xL 68 q_sub ?_
                <;> refine s_lit1 (kk := 1) 69 tEl22_LfH fun h69 ho69 => ?_
                <;> (refine s_app 305 69 70 tEl22_LfH fun h70 ho70 => ?_; refine aL_ent (relabel (l := 70) 305 rfl rfl) fun _ => ?_; first | refine aL_ent (recast (l := 305) rfl ((congrArg (fun z : Int => PV.own 3 1 (r.length + 1) ((toI r).map pInt ++ [pInt z])) (show ((o'.length + 1 : Nat) : Int) - 1 = (o'.length : Nat) by omega)).trans (own_nats _ r o'.length))) fun _ => ?_ | refine aL_ent (recast (l := 305) rfl ((congrArg (fun z : Int => PV.own 3 1 (r.length + 1) ((toI r).map pInt ++ [pInt z])) (show ((posK id o' set + 1 : Nat) : Int) - 1 = (posK id o' set : Nat) by omega)).trans (own_nats _ r (posK id o' set)))) fun _ => ?_)
                <;> refine xL 8 q_assign ?_
                <;> refine aL_end (nav ?_) <;> try dsimp only)
              (refine aC_region ?_
                <;> refine xL 37 q_move ?_
                <;> refine xL 38 q_add ?_
                <;> refine xL 9 q_assign ?_
                <;> refine aL_end (nav ?_) <;> try dsimp only)
              first
                | (exact aN_again (
                    ⟨(s + 1, h59, h70, o' ++ [set], r ++ [o'.length]), (by dsimp only; rw [hse]; exact Srch.row_snoc hW (visit_new hnew2 (show o'.length < 2000 by omega))), (by dsimp only; omega), ho59, ho70⟩
                    ) (by dsimp only; omega) ⟨rfl, rfl, rfl, rfl, rfl, rfl, rfl, rfl, rfl, trivial⟩ ⟨rfl, rfl, rfl, rfl, rfl, rfl, rfl, rfl, trivial⟩)
                | (exact aN_again (
                    ⟨(s + 1, r3', h70, o', r ++ [posK id o' set]), (by dsimp only; rw [hnum2]; exact Srch.row_snoc hW (visit_old hold2)), (by dsimp only; omega), hr3', ho70⟩
                    ) (by dsimp only; omega) ⟨rfl, rfl, rfl, rfl, rfl, rfl, rfl, rfl, rfl, trivial⟩ ⟨rfl, rfl, rfl, rfl, rfl, rfl, rfl, rfl, trivial⟩)))
        · first
          | exact Bool.noConfusion hb51
          | (
           have hold : posK digB o' (digB set) < o'.length := by
             rcases Nat.lt_or_ge (posK digB o' (digB set)) o'.length with hh | hh
             · exact hh
             · unfold num1 at hb51
               rw [if_neg (by omega)] at hb51; exact absurd rfl hb51
           have hold2 : posK (subW a).key o' ((subW a).key ((subW a).step i x s)) < o'.length := by
             show posK id o' (nextL a (s : Nat) x) < o'.length
             rw [← hse, ← hkid]; exact hold
           have hnum : ((num1 digB o' set : Nat) : Int) - 1 = (posK (subW a).key o' ((subW a).key ((subW a).step i x s)) : Nat) := by
             show ((num1 digB o' set : Nat) : Int) - 1 = (posK id o' (nextL a (s : Nat) x) : Nat)
             unfold num1
             rw [if_pos hold, hkid, hse]; omega
           rw [show ((num1 digB o' set : Nat) : Int) = ((posK id o' set + 1 : Nat) : Int) by unfold num1; rw [if_pos hold, hkid]]
           have hnum2 : posK id o' set = posK (subW a).key o' ((subW a).key ((subW a).step i x s)) := by rw [hse]; rfl
           refine nav ?_
           (refine aC_region ?_
             <;> refine xL 66 q_move ?_
             <;> refine xL 67 q_move ?_
             <;> refine xL 68 q_sub ?_
             <;> refine s_lit1 (kk := 1) 69 tEl22_LfH fun h69 ho69 => ?_
             <;> (refine s_app 305 69 70 tEl22_LfH fun h70 ho70 => ?_; refine aL_ent (relabel (l := 70) 305 rfl rfl) fun _ => ?_; first | refine aL_ent (recast (l := 305) rfl ((congrArg (fun z : Int => PV.own 3 1 (r.length + 1) ((toI r).map pInt ++ [pInt z])) (show ((o'.length + 1 : Nat) : Int) - 1 = (o'.length : Nat) by omega)).trans (own_nats _ r o'.length))) fun _ => ?_ | refine aL_ent (recast (l := 305) rfl ((congrArg (fun z : Int => PV.own 3 1 (r.length + 1) ((toI r).map pInt ++ [pInt z])) (show ((posK id o' set + 1 : Nat) : Int) - 1 = (posK id o' set : Nat) by omega)).trans (own_nats _ r (posK id o' set)))) fun _ => ?_)
             <;> refine xL 8 q_assign ?_
             <;> refine aL_end (nav ?_) <;> try dsimp only)
           (refine aC_region ?_
             <;> refine xL 37 q_move ?_
             <;> refine xL 38 q_add ?_
             <;> refine xL 9 q_assign ?_
             <;> refine aL_end (nav ?_) <;> try dsimp only)
           first
             | (exact aN_again (
                 ⟨(s + 1, h59, h70, o' ++ [set], r ++ [o'.length]), (by dsimp only; rw [hse]; exact Srch.row_snoc hW (visit_new hnew2 (show o'.length < 2000 by omega))), (by dsimp only; omega), ho59, ho70⟩
                 ) (by dsimp only; omega) ⟨rfl, rfl, rfl, rfl, rfl, rfl, rfl, rfl, rfl, trivial⟩ ⟨rfl, rfl, rfl, rfl, rfl, rfl, rfl, rfl, trivial⟩)
             | (exact aN_again (
                 ⟨(s + 1, r3', h70, o', r ++ [posK id o' set]), (by dsimp only; rw [hnum2]; exact Srch.row_snoc hW (visit_old hold2)), (by dsimp only; omega), hr3', ho70⟩
                 ) (by dsimp only; omega) ⟨rfl, rfl, rfl, rfl, rfl, rfl, rfl, rfl, rfl, trivial⟩ ⟨rfl, rfl, rfl, rfl, rfl, rfl, rfl, rfl, trivial⟩)))
     · first
       | exact Bool.noConfusion hb36
       | (
        have hsm : s = a.syms.toNat := by omega
        subst hsm
        have hU2 := Srch.upto_snoc hU hx hW
        have e1 := map_at (f := pInts) hx'
        have htk : o'.take (i + 1) = (o.take i) ++ [x] := by
          rw [take_snoc hx']
          obtain ⟨e, rfl⟩ := hpr
          rw [List.take_append_of_le_length hi]
        refine nav ?_
        refine aC_ent (En.freeze (l := 305) (t := 8) rfl rfl) fun _ => ?_
        rw [share_ints _ _ _ (by rw [toI_len])]
        (refine aC_region ?_
          <;> refine xL 71 (q_fldo 4 tFl100_2_LfH) ?_
          <;> (refine yL 72 (q_ldo 4 tNa28_LfH) fun v72 hv72 => ?_; cases hv72)
          <;> refine xL 73 q_move ?_
          <;> refine s_lit1 (kk := 1) 74 tEl28_LfH fun h74 ho74 => ?_
          <;> (refine s_app 301 74 75 tEl28_LfH fun h75 ho75 => ?_; refine aL_ent (relabel (l := 75) 301 rfl rfl) fun _ => ?_; refine aL_ent (recast (l := 301) rfl (snoc_nats _ rows r)) fun _ => ?_)
          <;> refine xL 76 (q_fldo 4 tFl100_2_LfH) ?_
          <;> refine s_st 4 tNa28_LfH tSz28_LfH ?_
          <;> refine aL_end (nav ?_) <;> try dsimp only)
        (refine aC_draw (fun i => ([11] : List Nat).elem i) [1, 4, 303] (by kernel_rfl) ?_
          <;> refine xD 0 77 rfl (q_fldo 4 tFl100_1_LfH) ?_
          <;> (refine yD 1 78 rfl (q_ldo 4 tNa66_LfH) fun v78 hv78 => ?_; cases hv78)
          <;> (refine yD 2 79 rfl (q_ldao 1 tAgg25_LfH) fun v79 hv79 => ?_; cases hv79)
          <;> refine xD 3 80 rfl q_move ?_
          <;> refine xE 4 81 rfl q_move ?_
          <;> refine xE 5 82 rfl (q_idxoN 303 tSl28_LfH) ?_
          <;> (refine yE 6 83 rfl (q_ldo 303 tNa22_LfH) fun v83 hv83 => ?_; cases hv83)
          <;> (refine aD_one 7 (by kernel_rfl) ?_)
          <;> (refine aW_call (d := 84) rfl (cA Tryz.call66 (r07final_e a x)) fun v84 hv84 => ?_; cases hv84)
          <;> (refine aD_one 8 (by kernel_rfl) ?_)
          <;> (refine aW_run rfl fun w9 M9 N9 DQ back => ?_)
          <;> refine s_lit1 (kk := 1) 85 tEl66_LfH fun h85 ho85 => ?_
          <;> refine aL_end (back _ (nrm ?_))
          <;> (refine aD_one 9 (by kernel_rfl) ?_)
          <;> (refine aW_run rfl fun w9 M9 N9 DQ back => ?_)
          <;> refine s_app 302 85 86 tEl66_LfH fun h86 ho86 => ?_
          <;> refine aL_end (back _ (nrm ?_))
          <;> refine xE 10 87 rfl (q_fldo 4 tFl100_1_LfH) ?_
          <;> (refine aD_one 11 (by kernel_rfl) ?_)
          <;> (refine aW_last rfl rfl (by kernel_rfl) fun DQ back => ?_)
          <;> refine s_st 4 tNa66_LfH tSz66_LfH ?_
          <;> refine aL_end (back _ (nav ?_))
          <;> try dsimp only)
        refine aC_ent (relabel (l := 86) 302 rfl rfl) fun _ => ?_
        refine aC_ent (recast (l := 302) rfl (snoc_bools _ ((o.take i).map (accB a)) (accB a x))) fun _ => ?_
        rw [show ((o.take i).map (accB a)) ++ [accB a x] = (o'.take (i + 1)).map (accB a) by rw [htk, List.map_append]; rfl]
        (refine aC_region ?_
          <;> refine xL 30 q_move ?_
          <;> refine xL 31 q_add ?_
          <;> refine xL 7 q_assign ?_
          <;> refine aL_end (nav ?_) <;> try dsimp only)
        refine aN_again (
          ⟨(i + 1, h75, h86, r3', o', rows ++ [r]), hU2, (by dsimp only; omega), ho75, ho86, hr3'⟩
          ) (by dsimp only; omega) ⟨rfl, rfl, rfl, rfl, rfl, rfl, rfl, trivial⟩ ⟨rfl, rfl, rfl, rfl, rfl, rfl, rfl, trivial⟩))
  · first
    | exact Bool.noConfusion hb29
    | (
     have hio : i = o.length := by omega
     subst hio
     have hone2 : En.one (PV.val r2) = true := hr2
     refine nav ?_
     refine aC_ent (freezeCell (l := 4) (l' := 301) (j := 2) rfl rfl rfl rfl) fun _ => ?_
     rw [share_natss _ _ _ rfl]
     refine aC_ent (relabel (l := 302) 1000 rfl rfl) fun _ => ?_
     rw [List.take_length]
     (refine aC_region ?_
       <;> (refine yL 88 (q_ldao (k := 3) (ps := [pInt a.syms, PV.val r2, PV.sl rows.length (rows.map pNats)]) 4 (by kernel_rfl)) fun v88 hv88 => ?_; cases hv88)
       <;> refine s_sta 2 tAgg100_LfH ?_
       <;> refine xL 3 q_assign ?_
       <;> refine aL_end (nav ?_) <;> try dsimp only)
     refine ret_hcs (k := 3) 2 [(1000, r2, PV.own 4 1 (o.map (accB a)).length ((o.map (accB a)).map pBool))] (by kernel_rfl) (Tryz.results84) rfl rfl rfl (Nat.le_of_ble_eq_true rfl) (by decide) rfl ⟨rfl, trivial⟩ fun V => .inl ⟨⟨a.syms.toNat, rows, o.map (accB a)⟩, r2, V, hr2, ?_, rfl, ?_, rfl⟩
     · unfold subT
       rw [← hx0, Srch.all_some hU (Nat.le_refl _) (show o.length ≤ (subW a).cap from hcap)]; rfl
     · dsimp only
       rw [hsN]; rfl)
end Go.Proofs.YtgigclnaicbiaaaGreatDoor

namespace Go.Proofs.YtgigclnaicbiaaaGreatDoor
open Go.RowKit Go.Cb Go.En
set_option linter.all false
set_option maxRecDepth 100000

theorem tEl22_LfI : ElT Tryz.prog 22 3 1 8 (.int .i64 0) := ⟨Tryz.underlying22, by kernel_rfl, rfl, by decide⟩
theorem tFl100_0_LfI : FldT Tryz.prog 100 0 0 = true := by kernel_rfl
theorem tFl100_1_LfI : FldT Tryz.prog 100 1 1 = true := by kernel_rfl
theorem tFl100_2_LfI : FldT Tryz.prog 100 2 2 = true := by kernel_rfl
theorem tMp135_LfI : MpT Tryz.prog 135 9 3 .string (.int .i64 0) := ⟨Tryz.underlying135, Tryz.underlying9, .inl rfl, by show ZeroT _ _ _; unfold ZeroT; kernel_rfl⟩
theorem tNa22_LfI : NoAgg Tryz.prog 22 = true := by kernel_rfl
theorem tNa28_LfI : NoAgg Tryz.prog 28 = true := by kernel_rfl
theorem tNa3_LfI : NoAgg Tryz.prog 3 = true := by kernel_rfl
theorem tNa4_LfI : NoAgg Tryz.prog 4 = true := by kernel_rfl
theorem tNa66_LfI : NoAgg Tryz.prog 66 = true := by kernel_rfl
theorem tSl22_LfI : SlT Tryz.prog 22 3 1 = true := by kernel_rfl
theorem tSl28_LfI : SlT Tryz.prog 28 22 1 = true := by kernel_rfl
theorem tSl66_LfI : SlT Tryz.prog 66 4 1 = true := by kernel_rfl
theorem tSz3_LfI : (Tryz.prog.info? 3).map (·.size) = some 1 := by kernel_rfl

def pTabR (t : Tab) : PV := .agg [pInt (t.m : Nat), .sl t.fin.length (t.fin.map pBool), .sl t.rows.length (t.rows.map pNats)]
def digN (l : List Nat) : ByteArray := digB (toI l)
theorem digN_id {o : List (List Nat)} {x : List Nat} (h : ∀ l ∈ o, ∀ y ∈ toI l, 0 ≤ y ∧ y ≤ 2000) (hx : ∀ y ∈ toI x, 0 ≤ y ∧ y ≤ 2000) : posK digN o (digN x) = posK id o x := posK_inj fun l hl => by
  unfold digN
  rw [digB_inj (h l hl) hx, toI_inj]; rfl
set_option maxHeartbeats 4000000 in
theorem r07classes_e (t : Tab) (ht : TOk t) : AF Tryz.prog 109 [pTabR t] (· = .own 3 1 t.rows.length (vec t.rows.length fun s => pInt (clsT t s : Nat))) := by
  have hn1 := ht.n1
  have hfl := ht.fl
  have hm1 := ht.m1
  refine AF.of_body 89 Tryz.func109 rfl Tryz.ntmps109 (Nat.le_of_ble_eq_true rfl) ?_
  intro w0 M0 vs hl hv
  obtain ⟨v0, rfl⟩ := len1 hl
  clear hl hv
  refine nav ?_
  (refine aC_region ?_
    <;> refine s_boxa 1 3 fun h1 => ?_
    <;> refine xL 2 q_assign ?_
    <;> refine aL_end (nav ?_) <;> try dsimp only)
  (refine aC_region ?_
    <;> refine xL 14 (q_fldo 1 tFl100_2_LfI) ?_
    <;> (refine yL 15 (q_ldo 1 tNa28_LfI) fun v15 hv15 => ?_; cases hv15)
    <;> refine xL 16 (q_len tSl28_LfI) ?_
    <;> refine xL 3 q_assign ?_
    <;> refine aL_end (nav ?_) <;> try dsimp only)
  (refine aC_region ?_
    <;> refine xL 17 q_move ?_
    <;> refine s_make 18 tEl22_LfI fun h18 ho18 => ?_
    <;> refine xL 4 q_assign ?_
    <;> refine aL_end (nav ?_) <;> try dsimp only)
  refine aC_ent (relabel (l := 18) 303 rfl rfl) fun _ => ?_
  rw [upTo_zero _ (finC t.fin)]
  (refine aC_region ?_
    <;> refine xL 5 q_assign ?_
    <;> refine aL_end (nav ?_) <;> try dsimp only)
  refine aC_loop (ι := { s : Nat // s ≤ t.rows.length }) (fun k => ⟨[(1, _, _), (3, _, _), (4, _, _), (5, .int .i64 k.1, pInt k.1)], [(1, _, _), (303, h18, .own 3 1 t.rows.length (vec t.rows.length fun j => pInt (upTo k.1 (finC t.fin) j)))]⟩) (fun k => t.rows.length - k.1) ⟨0, Nat.zero_le _⟩ (fun a w H => H.weaken ⟨rfl, rfl, rfl, rfl, trivial⟩ ⟨rfl, rfl, trivial⟩) ?_
  rintro ⟨s, hs⟩
  dsimp only
  refine nav ?_
  (refine aC_region ?_
    <;> refine xL 19 q_move ?_
    <;> refine xL 20 q_move ?_
    <;> refine xL 21 q_lss ?_
    <;> refine aL_end (nav ?_) <;> try dsimp only)
  first | refine cCd (fun hb21 => ?_) (fun hb21 => ?_) | refine cC (fun hb21 => ?_) (fun hb21 => ?_)
  · first
    | exact Bool.noConfusion hb21
    | (
     obtain ⟨b, hb⟩ := get_some (show s < t.fin.length by omega)
     have e1 := map_at (f := pBool) hb
     have e2 := vec_len t.rows.length (fun j => pInt (upTo s (finC t.fin) j))
     refine nav ?_
     (refine aC_region ?_
       <;> refine xL 24 (q_fldo 1 tFl100_1_LfI) ?_
       <;> (refine yL 25 (q_ldo 1 tNa66_LfI) fun v25 hv25 => ?_; cases hv25)
       <;> refine xL 26 q_move ?_
       <;> refine xL 27 (q_idxN tSl66_LfI) ?_
       <;> (refine yL 28 (q_ld tNa4_LfI) fun v28 hv28 => ?_; cases hv28)
       <;> refine aL_end (nav ?_) <;> try dsimp only)
     first | refine cCd (fun hb28 => ?_) (fun hb28 => ?_) | refine cC (fun hb28 => ?_) (fun hb28 => ?_)
     · first
       | exact Bool.noConfusion hb28
       | (
        refine nav ?_
        (refine aC_region ?_
          <;> refine xL 29 q_move ?_
          <;> refine xL 30 q_move ?_
          <;> refine xL 31 (q_idxoN 303 tSl22_LfI) ?_
          <;> refine s_st 303 tNa3_LfI tSz3_LfI ?_
          <;> refine aL_end (nav ?_) <;> try dsimp only)
        (refine aC_region ?_
          <;> refine xL 22 q_move ?_
          <;> refine xL 23 q_add ?_
          <;> refine xL 5 q_assign ?_
          <;> refine aL_end (nav ?_) <;> try dsimp only)
        try rw [upTo_set (x := 1) (by unfold finC; rw [hb]; show (1 : Int) = ((if b = true then 1 else 0 : Nat) : Int); rw [if_pos hb28]; rfl)]
        try rw [upTo_skip (by unfold finC; rw [hb]; show (if b = true then 1 else 0) = 0; rw [if_neg (by simpa using hb28)])]
        refine aN_again (
          ⟨s + 1, by omega⟩
          ) (by dsimp only; omega) ⟨rfl, rfl, rfl, rfl, trivial⟩ ⟨rfl, rfl, trivial⟩)
     · first
       | exact Bool.noConfusion hb28
       | (
        refine nav ?_
        (refine aC_region ?_
          <;> refine xL 22 q_move ?_
          <;> refine xL 23 q_add ?_
          <;> refine xL 5 q_assign ?_
          <;> refine aL_end (nav ?_) <;> try dsimp only)
        try rw [upTo_set (x := 1) (by unfold finC; rw [hb]; show (1 : Int) = ((if b = true then 1 else 0 : Nat) : Int); rw [if_pos hb28]; rfl)]
        try rw [upTo_skip (by unfold finC; rw [hb]; show (if b = true then 1 else 0) = 0; rw [if_neg (by simpa using hb28)])]
        refine aN_again (
          ⟨s + 1, by omega⟩
          ) (by dsimp only; omega) ⟨rfl, rfl, rfl, rfl, trivial⟩ ⟨rfl, rfl, trivial⟩))
  · first
    | exact Bool.noConfusion hb21
    | (
     have hsn : s = t.rows.length := by omega
     subst hsn
     rw [upTo_full]
     refine nav ?_
     (refine aC_region ?_
       <;> refine xL 6 q_assign ?_
       <;> refine aL_end (nav ?_) <;> try dsimp only)
     refine aC_loop (ι := { q : Value × (Nat → Nat) × Nat × Nat // COk t.rows.length q.2.1 q.2.2.1 ∧ clsIt t.rows q.2.2.2 q.2.1 q.2.2.1 = clsT t ∧ t.rows.length + 2 ≤ q.2.2.2 + q.2.2.1 ∧ q.1.oneCell' = true }) (fun k => ⟨[(1, _, _), (3, _, _), (4, k.1.1, .val k.1.1), (6, .int .i64 k.1.2.2.1, pInt k.1.2.2.1)], [(1, _, _), (303, k.1.1, .own 3 1 t.rows.length (vec t.rows.length fun j => pInt (k.1.2.1 j : Nat)))]⟩) (fun k => t.rows.length + 2 - k.1.2.2.1) ⟨(h18, finC t.fin, 0, t.rows.length + 2), COk.start _ _, rfl, by dsimp only; omega, ho18⟩ (fun a w H => H.weaken ⟨rfl, rfl, rfl, rfl, trivial⟩ ⟨rfl, rfl, trivial⟩) ?_
     rintro ⟨⟨hv3, c, cnt, fuel⟩, hC, hit, hfu, hv3o⟩
     dsimp only
     dsimp only at hC hit hfu hv3o
     have hle := hC.le
     have hbd := hC.bd
     obtain ⟨f, rfl⟩ : ∃ f, fuel = f + 1 := ⟨fuel - 1, by omega⟩
     have hgr := hC.grow
     have hnx := hC.next
     refine nav ?_
     (refine aC_region ?_
       <;> refine s_mkmap 32 fun h32 ho32 => ?_
       <;> refine xL 7 q_assign ?_
       <;> refine aL_end (nav ?_) <;> try dsimp only)
     (refine aC_region ?_
       <;> refine xL 33 q_move ?_
       <;> refine s_make 34 tEl22_LfI fun h34 ho34 => ?_
       <;> refine xL 8 q_assign ?_
       <;> refine aL_end (nav ?_) <;> try dsimp only)
     (refine aC_region ?_
       <;> refine xL 9 q_assign ?_
       <;> refine aL_end (nav ?_) <;> try dsimp only)
     refine aC_ent (relabel (l := 32) 304 rfl rfl) fun _ => ?_
     refine aC_ent (relabel (l := 34) 305 rfl rfl) fun _ => ?_
     rw [upTo_zero _ (nextC t.rows c)]
     refine aC_ent (recast (l := 304) (p' := .omap (skv (numE digN 1 (fstK (keyC t.rows c) 0)))) rfl rfl) fun _ => ?_
     (refine aC_region ?_
       <;> refine xL 10 q_assign ?_
       <;> refine aL_end (nav ?_) <;> try dsimp only)
     refine aC_loop (ι := { s : Nat // s ≤ t.rows.length }) (fun k => ⟨[(1, _, _), (3, _, _), (4, _, _), (6, _, _), (7, _, _), (8, _, _), (9, .int .i64 (fstK (keyC t.rows c) k.1).length, pInt (fstK (keyC t.rows c) k.1).length), (10, .int .i64 k.1, pInt k.1)], [(1, _, _), (303, _, _), (304, h32, .omap (skv (numE digN 1 (fstK (keyC t.rows c) k.1)))), (305, h34, .own 3 1 t.rows.length (vec t.rows.length fun j => pInt (upTo k.1 (nextC t.rows c) j)))]⟩) (fun k => t.rows.length - k.1) ⟨0, Nat.zero_le _⟩ (fun a w H => H.weaken ⟨rfl, rfl, rfl, rfl, rfl, rfl, rfl, rfl, trivial⟩ ⟨rfl, rfl, rfl, rfl, trivial⟩) ?_
     rintro ⟨s, hs⟩
     dsimp only
     refine nav ?_
     (refine aC_region ?_
       <;> refine xL 35 q_move ?_
       <;> refine xL 36 q_move ?_
       <;> refine xL 37 q_lss ?_
       <;> refine aL_end (nav ?_) <;> try dsimp only)
     first | refine cCd (fun hb37 => ?_) (fun hb37 => ?_) | refine cC (fun hb37 => ?_) (fun hb37 => ?_)
     · first
       | exact Bool.noConfusion hb37
       | (
        have hlt : s < t.rows.length := by omega
        obtain ⟨r, hr⟩ := get_some hlt
        have e1 := map_at (f := pNats) hr
        have hrl := ht.rl r (List.mem_of_getElem? hr)
        have hrt := ht.to r (List.mem_of_getElem? hr)
        have htl := toI_len r
        have e2 := vec_at1 (fun j => pInt (c j : Nat)) hlt
        have e3 := vec_len t.rows.length (fun j => pInt (upTo s (nextC t.rows c) j))
        have hkl := fstK_len (keyC t.rows c) s
        refine nav ?_
        (refine aC_region ?_
          <;> refine xL 40 q_move ?_
          <;> refine xL 41 q_move ?_
          <;> refine xL 42 (q_idxoN 303 tSl22_LfI) ?_
          <;> (refine yL 43 (q_ldo 303 tNa3_LfI) fun v43 hv43 => ?_; cases hv43)
          <;> refine s_lit1 (kk := 1) 44 tEl22_LfI fun h44 ho44 => ?_
          <;> refine xL 11 q_assign ?_
          <;> refine aL_end (nav ?_) <;> try dsimp only)
        refine aC_ent (relabel (l := 44) 306 rfl rfl) fun _ => ?_
        refine aC_ent (recast (l := 306) (p' := .own 3 1 (keyP c s r 0).length ((toI (keyP c s r 0)).map pInt)) rfl rfl) fun _ => ?_
        (refine aC_region ?_
          <;> refine xL 12 q_assign ?_
          <;> refine aL_end (nav ?_) <;> try dsimp only)
        refine aC_loop (ι := { q : Nat × Value // q.1 ≤ r.length ∧ q.2.oneCell' = true }) (fun k => ⟨[(1, _, _), (3, _, _), (4, _, _), (6, _, _), (7, _, _), (8, _, _), (9, _, _), (10, _, _), (11, k.1.2, .val k.1.2), (12, .int .i64 k.1.1, pInt k.1.1)], [(1, _, _), (303, _, _), (304, _, _), (305, _, _), (306, k.1.2, .own 3 1 (keyP c s r k.1.1).length ((toI (keyP c s r k.1.1)).map pInt))]⟩) (fun k => r.length - k.1.1) ⟨(0, h44), Nat.zero_le _, ho44⟩ (fun a w H => H.weaken ⟨rfl, rfl, rfl, rfl, rfl, rfl, rfl, rfl, rfl, rfl, trivial⟩ ⟨rfl, rfl, rfl, rfl, rfl, trivial⟩) ?_
        rintro ⟨⟨u, hv⟩, hu, hvo⟩
        dsimp only
        dsimp only at hu hvo
        have hkpl := keyP_len c s r u hu
        refine nav ?_
        (refine aC_region ?_
          <;> refine xL 45 q_move ?_
          <;> refine xL 46 (q_fldo 1 tFl100_0_LfI) ?_
          <;> (refine yL 47 (q_ldo 1 tNa3_LfI) fun v47 hv47 => ?_; cases hv47)
          <;> refine xL 48 q_lss ?_
          <;> refine aL_end (nav ?_) <;> try dsimp only)
        first | refine cCd (fun hb48 => ?_) (fun hb48 => ?_) | refine cC (fun hb48 => ?_) (fun hb48 => ?_)
        · first
          | exact Bool.noConfusion hb48
          | (
           obtain ⟨x, hx⟩ := get_some (show u < r.length by omega)
           have hxn := hrt x (List.mem_of_getElem? hx)
           have e4 : ((toI r).map pInt)[u * 1]? = some (pInt (x : Nat)) := by rw [Nat.mul_one, List.getElem?_map]; unfold toI; rw [List.getElem?_map, hx]; rfl
           have e5 := vec_at1 (fun j => pInt (c j : Nat)) hxn
           refine nav ?_
           (refine aC_region ?_
             <;> refine xL 51 q_move ?_
             <;> refine xL 52 q_move ?_
             <;> refine xL 53 (q_fldo 1 tFl100_2_LfI) ?_
             <;> (refine yL 54 (q_ldo 1 tNa28_LfI) fun v54 hv54 => ?_; cases hv54)
             <;> refine xL 55 q_move ?_
             <;> refine xL 56 (q_idxN tSl28_LfI) ?_
             <;> (refine yL 57 (q_ld tNa22_LfI) fun v57 hv57 => ?_; cases hv57)
             <;> refine xL 58 q_move ?_
             <;> refine xL 59 (q_idxN tSl22_LfI) ?_
             <;> (refine yL 60 (q_ld tNa3_LfI) fun v60 hv60 => ?_; cases hv60)
             <;> refine xL 61 (q_idxoN 303 tSl22_LfI) ?_
             <;> (refine yL 62 (q_ldo 303 tNa3_LfI) fun v62 hv62 => ?_; cases hv62)
             <;> refine s_lit1 (kk := 1) 63 tEl22_LfI fun h63 ho63 => ?_
             <;> (refine s_app 306 63 64 tEl22_LfI fun h64 ho64 => ?_; refine aL_ent (relabel (l := 64) 306 rfl rfl) fun _ => ?_; refine aL_ent (recast (l := 306) rfl ((own_nats _ (keyP c s r u) (c x)).trans (by rw [keyP_snoc hx]))) fun _ => ?_)
             <;> refine xL 11 q_assign ?_
             <;> refine aL_end (nav ?_) <;> try dsimp only)
           (refine aC_region ?_
             <;> refine xL 49 q_move ?_
             <;> refine xL 50 q_add ?_
             <;> refine xL 12 q_assign ?_
             <;> refine aL_end (nav ?_) <;> try dsimp only)
           refine aN_again (
             ⟨(u + 1, h64), lt_of_get hx, ho64⟩
             ) (by dsimp only; omega) ⟨rfl, rfl, rfl, rfl, rfl, rfl, rfl, rfl, rfl, rfl, trivial⟩ ⟨rfl, rfl, rfl, rfl, rfl, trivial⟩)
        · first
          | exact Bool.noConfusion hb48
          | (
           have hK := keyP_full (c := c) hr (show r.length ≤ u by omega)
           rw [hK]
           have hkb := keyC_bd ht hbd hlt
           have hkl2 : (keyC t.rows c s).length ≤ 1000 := by rw [← hK, hkpl]; omega
           have hid := digN_id (o := fstK (keyC t.rows c) s) (x := keyC t.rows c s) (fun l hl => by obtain ⟨i, hi, rfl⟩ := fstK_mem.1 hl; exact keyC_bd ht hbd (by omega)) hkb
           have hlook := num1_look digN (fstK (keyC t.rows c) s) (keyC t.rows c s)
           refine nav ?_
           refine aC_ent (En.freeze (l := 306) (t := 11) rfl rfl) fun _ => ?_
           rw [share_ints _ _ _ (by rw [toI_len])]
           (refine aC_region ?_
             <;> refine xL 65 q_move ?_
             <;> refine xL 66 q_move ?_
             <;> (refine cS 67 (cA Tryz.call107 (r07digits_e (toI (keyC t.rows c s)) (by rw [toI_len]; omega) hkb)) fun v67 hv67 => ?_; cases hv67)
             <;> refine xL 68 (q_lookoE 304 tMp135_LfI (hk := kok_skv _ _) (hu := hlook)) ?_
             <;> refine xL 13 q_assign ?_
             <;> refine aL_end (nav ?_) <;> try dsimp only)
           (refine aC_region ?_
             <;> refine xL 69 q_move ?_
             <;> refine xL 70 q_eql ?_
             <;> refine aL_end (nav ?_) <;> try dsimp only)
           first | refine cCd (fun hb70 => ?_) (fun hb70 => ?_) | refine cC (fun hb70 => ?_) (fun hb70 => ?_)
           · first
             | exact Bool.noConfusion hb70
             | (
              have hnew : ¬ posK digN (fstK (keyC t.rows c) s) (digN (keyC t.rows c s)) < (fstK (keyC t.rows c) s).length := fun hh => by
                unfold num1 at hb70
                rw [if_pos hh] at hb70; omega
              have hnew2 := hnew
              rw [hid] at hnew2
              have hnn := nextC_new hlt hnew2
              have hff := fstK_new hnew2
              refine nav ?_
              (refine aC_region ?_
                <;> refine xL 71 q_move ?_
                <;> refine xL 72 q_add ?_
                <;> refine xL 9 q_assign ?_
                <;> refine aL_end (nav ?_) <;> try dsimp only)
              (refine aC_region ?_
                <;> refine xL 73 q_move ?_
                <;> refine xL 13 q_assign ?_
                <;> refine aL_end (nav ?_) <;> try dsimp only)
              (refine aC_region ?_
                <;> refine xL 74 q_move ?_
                <;> refine xL 75 q_move ?_
                <;> (refine cS 76 (cA Tryz.call107 (r07digits_e (toI (keyC t.rows c s)) (by rw [toI_len]; omega) hkb)) fun v76 hv76 => ?_; cases hv76)
                <;> refine xL 77 q_move ?_
                <;> (refine s_mput 304 tMp135_LfI ?_; rw [show mput (skv (numE digN 1 (fstK (keyC t.rows c) s))) (.string (digB (toI (keyC t.rows c s)))) (.int .i64 (((fstK (keyC t.rows c) s).length : Int) + 1)) = skv (numE digN 1 (fstK (keyC t.rows c) (s + 1))) by rw [hff]; exact num1_put hnew])
                <;> refine aL_end (nav ?_) <;> try dsimp only)
              (refine aC_region ?_
                <;> refine xL 78 q_move ?_
                <;> refine xL 79 q_move ?_
                <;> refine xL 80 q_move ?_
                <;> refine xL 81 q_sub ?_
                <;> refine xL 82 (q_idxoN 305 tSl22_LfI) ?_
                <;> refine s_st 305 tNa3_LfI tSz3_LfI ?_
                <;> refine aL_end (nav ?_) <;> try dsimp only)
              (refine aC_region ?_
                <;> refine xL 38 q_move ?_
                <;> refine xL 39 q_add ?_
                <;> refine xL 10 q_assign ?_
                <;> refine aL_end (nav ?_) <;> try dsimp only)
              try rw [upTo_set (x := ((fstK (keyC t.rows c) s).length : Int) + 1 - 1) (by rw [hnn]; omega)]
              try rw [show (((fstK (keyC t.rows c) s).length : Nat) : Int) + 1 = ((fstK (keyC t.rows c) (s + 1)).length : Nat) by rw [hff, List.length_append]; rfl]
              try rw [upTo_set hnum, ← hfo]
              refine aN_again (
                ⟨s + 1, by omega⟩
                ) (by dsimp only; omega) ⟨rfl, rfl, rfl, rfl, rfl, rfl, rfl, rfl, trivial⟩ ⟨rfl, rfl, rfl, rfl, trivial⟩)
           · first
             | exact Bool.noConfusion hb70
             | (
              have hold : posK digN (fstK (keyC t.rows c) s) (digN (keyC t.rows c s)) < (fstK (keyC t.rows c) s).length := by
                rcases Nat.lt_or_ge (posK digN (fstK (keyC t.rows c) s) (digN (keyC t.rows c s))) (fstK (keyC t.rows c) s).length with hh | hh
                · exact hh
                · unfold num1 at hb70
                  rw [if_neg (by omega)] at hb70; exact absurd rfl hb70
              have hold2 := hold
              rw [hid] at hold2
              have hno := nextC_old hlt hold2
              have hfo := fstK_old hold2
              have hnum : ((num1 digN (fstK (keyC t.rows c) s) (keyC t.rows c s) : Nat) : Int) - 1 = (nextC t.rows c s : Nat) := by unfold num1; rw [if_pos hold, hid, hno]; omega
              have hnb : num1 digN (fstK (keyC t.rows c) s) (keyC t.rows c s) ≤ 2001 := by unfold num1; rw [if_pos hold]; omega
              refine nav ?_
              (refine aC_region ?_
                <;> refine xL 78 q_move ?_
                <;> refine xL 79 q_move ?_
                <;> refine xL 80 q_move ?_
                <;> refine xL 81 q_sub ?_
                <;> refine xL 82 (q_idxoN 305 tSl22_LfI) ?_
                <;> refine s_st 305 tNa3_LfI tSz3_LfI ?_
                <;> refine aL_end (nav ?_) <;> try dsimp only)
              (refine aC_region ?_
                <;> refine xL 38 q_move ?_
                <;> refine xL 39 q_add ?_
                <;> refine xL 10 q_assign ?_
                <;> refine aL_end (nav ?_) <;> try dsimp only)
              try rw [upTo_set (x := ((fstK (keyC t.rows c) s).length : Int) + 1 - 1) (by rw [hnn]; omega)]
              try rw [show (((fstK (keyC t.rows c) s).length : Nat) : Int) + 1 = ((fstK (keyC t.rows c) (s + 1)).length : Nat) by rw [hff, List.length_append]; rfl]
              try rw [upTo_set hnum, ← hfo]
              refine aN_again (
                ⟨s + 1, by omega⟩
                ) (by dsimp only; omega) ⟨rfl, rfl, rfl, rfl, rfl, rfl, rfl, rfl, trivial⟩ ⟨rfl, rfl, rfl, rfl, trivial⟩)))
     · first
       | exact Bool.noConfusion hb37
       | (
        have hsn : s = t.rows.length := by omega
        subst hsn
        rw [upTo_full]
        refine nav ?_
        refine aC_ent (relabel (l := 303) 302 rfl rfl) fun _ => ?_
        refine aC_ent (relabel (l := 305) 303 rfl rfl) fun _ => ?_
        (refine aC_region ?_
          <;> refine xL 83 q_move ?_
          <;> refine xL 4 q_assign ?_
          <;> refine aL_end (nav ?_) <;> try dsimp only)
        (refine aC_region ?_
          <;> refine xL 84 q_move ?_
          <;> refine xL 85 q_move ?_
          <;> refine xL 86 q_eql ?_
          <;> refine aL_end (nav ?_) <;> try dsimp only)
        first | refine cCd (fun hb86 => ?_) (fun hb86 => ?_) | refine cC (fun hb86 => ?_) (fun hb86 => ?_)
        · first
          | exact Bool.noConfusion hb86
          | (
           have hcc : cntC t.rows c = cnt := by unfold cntC; omega
           refine nav ?_
           (refine aC_region ?_
             <;> refine xL 87 q_move ?_
             <;> refine xL 2 q_assign ?_
             <;> refine aL_end (nav ?_) <;> try dsimp only)
           refine ret_own 303 (Tryz.results109) rfl rfl ?_
           rw [← hit, clsIt_stop hcc])
        · first
          | exact Bool.noConfusion hb86
          | (
           have hcc : ¬ cntC t.rows c = cnt := by unfold cntC; omega
           refine nav ?_
           (refine aC_region ?_
             <;> refine xL 88 q_move ?_
             <;> refine xL 6 q_assign ?_
             <;> refine aL_end (nav ?_) <;> try dsimp only)
           refine aN_again (
             ⟨(h34, nextC t.rows c, cntC t.rows c, f), hnx, by dsimp only; rw [← hit, clsIt_more hcc], by dsimp only; omega, ho34⟩
             ) (by have := hnx.le; dsimp only; omega) ⟨rfl, rfl, rfl, rfl, trivial⟩ ⟨rfl, rfl, trivial⟩)))
end Go.Proofs.YtgigclnaicbiaaaGreatDoor

namespace Go.Proofs.YtgigclnaicbiaaaGreatDoor
open Go.RowKit Go.Cb Go.En
set_option linter.all false
set_option maxRecDepth 100000

theorem tAgg25_LfJ : AggT Tryz.prog 25 5 = true := by kernel_rfl
theorem tEl22_LfJ : ElT Tryz.prog 22 3 1 8 (.int .i64 0) := ⟨Tryz.underlying22, by kernel_rfl, rfl, by decide⟩
theorem tEl23_LfJ : ElT Tryz.prog 23 72 3 24 (.agg #[(.int .i64 0), (.int .i64 0), (.int .i64 0)]) := ⟨Tryz.underlying23, by kernel_rfl, rfl, by decide⟩
theorem tFl100_0_LfJ : FldT Tryz.prog 100 0 0 = true := by kernel_rfl
theorem tFl100_1_LfJ : FldT Tryz.prog 100 1 1 = true := by kernel_rfl
theorem tFl100_2_LfJ : FldT Tryz.prog 100 2 2 = true := by kernel_rfl
theorem tFl25_3_LfJ : FldT Tryz.prog 25 3 3 = true := by kernel_rfl
theorem tFl25_4_LfJ : FldT Tryz.prog 25 4 4 = true := by kernel_rfl
theorem tNa22_LfJ : NoAgg Tryz.prog 22 = true := by kernel_rfl
theorem tNa23_LfJ : NoAgg Tryz.prog 23 = true := by kernel_rfl
theorem tNa28_LfJ : NoAgg Tryz.prog 28 = true := by kernel_rfl
theorem tNa3_LfJ : NoAgg Tryz.prog 3 = true := by kernel_rfl
theorem tNa4_LfJ : NoAgg Tryz.prog 4 = true := by kernel_rfl
theorem tNa66_LfJ : NoAgg Tryz.prog 66 = true := by kernel_rfl
theorem tSl22_LfJ : SlT Tryz.prog 22 3 1 = true := by kernel_rfl
theorem tSl28_LfJ : SlT Tryz.prog 28 22 1 = true := by kernel_rfl
theorem tSl66_LfJ : SlT Tryz.prog 66 4 1 = true := by kernel_rfl
theorem tSt25_LfJ : stInfo Tryz.prog 25 = some ((.agg #[(.int .i64 0), (.int .i64 0), (.slice none 0 0), (.slice none 0 0), (.slice none 0 0)]), ([0, 1, 2, 3, 4] : List Nat).map fun o => (o, 1)) := by kernel_rfl
theorem tSt72_LfJ : stInfo Tryz.prog 72 = some ((.agg #[(.int .i64 0), (.int .i64 0), (.int .i64 0)]), ([0, 1, 2] : List Nat).map fun o => (o, 1)) := by kernel_rfl
theorem tSz22_LfJ : (Tryz.prog.info? 22).map (·.size) = some 1 := by kernel_rfl
theorem tSz23_LfJ : (Tryz.prog.info? 23).map (·.size) = some 1 := by kernel_rfl
theorem tZr25_LfJ : ZeroT Tryz.prog 25 (.agg #[(.int .i64 0), (.int .i64 0), (.slice none 0 0), (.slice none 0 0), (.slice none 0 0)]) := by unfold ZeroT; kernel_rfl

def finF (fin : List Bool) (i : Nat) : Bool := (fin[i]?).getD false
def autT (t : Tab) : Aut := ⟨(t.rows.length : Nat), (t.m : Nat), [0], listedL t.rows.length (finF t.fin), movesT t.rows⟩
theorem movesT_take {rows : List (List Nat)} {k : Nat} {r : List Nat} (h : rows[k]? = some r) : movesT (rows.take (k + 1)) = movesT (rows.take k) ++ rowMv k r := by
  rw [take_snoc h, movesT_snoc, List.length_take, Nat.min_eq_left (by have := lt_of_get h; omega)]
theorem rowMv_take {i : Nat} {r : List Nat} {s n : Nat} (h : r[s]? = some n) : rowMv i (r.take (s + 1)) = rowMv i (r.take s) ++ [⟨(i : Nat), (n : Nat), (s : Nat)⟩] := by
  rw [take_snoc h, rowMv_snoc, List.length_take, Nat.min_eq_left (by have := lt_of_get h; omega)]
theorem movesT_len2 {rows : List (List Nat)} {m : Nat} (h : ∀ r ∈ rows, r.length = m) (k : Nat) : (movesT (rows.take k)).length ≤ rows.length * m := by
  rw [movesT_len (rows.take k) fun r hr => h r (List.mem_of_mem_take hr), List.length_take]
  exact Nat.mul_le_mul_right m (Nat.min_le_right _ _)
set_option maxHeartbeats 4000000 in
theorem r07auto_e (t : Tab) (hfl : t.fin.length = t.rows.length) (hrw : ∀ r ∈ t.rows, r.length = t.m) (hn1 : t.rows.length ≤ 2000) (hm1 : t.m ≤ 40) : AF Tryz.prog 110 [pTabR t] (· = pAut (autT t)) := by
  have hnm : t.rows.length * t.m ≤ 80000 := Nat.le_trans (Nat.mul_le_mul hn1 hm1) (by decide)
  refine AF.of_body 54 Tryz.func110 rfl Tryz.ntmps110 (Nat.le_of_ble_eq_true rfl) ?_
  intro w0 M0 vs hl hv
  obtain ⟨v0, rfl⟩ := len1 hl
  clear hl hv
  refine nav ?_
  (refine aC_region ?_
    <;> refine s_boxa 1 3 fun h1 => ?_
    <;> refine s_alloc [(.int .i64 0), (.int .i64 0), (.slice none 0 0), (.slice none 0 0), (.slice none 0 0)] 5 2 tZr25_LfJ fun h2 => ?_
    <;> refine aL_end (nav ?_) <;> try dsimp only)
  (refine aC_region ?_
    <;> refine xL 6 (q_fldo 1 tFl100_2_LfJ) ?_
    <;> (refine yL 7 (q_ldo 1 tNa28_LfJ) fun v7 hv7 => ?_; cases hv7)
    <;> refine xL 8 (q_len tSl28_LfJ) ?_
    <;> refine xL 9 (q_fldo 1 tFl100_0_LfJ) ?_
    <;> (refine yL 10 (q_ldo 1 tNa3_LfJ) fun v10 hv10 => ?_; cases hv10)
    <;> (refine s_lit1 (kk := 1) 11 tEl22_LfJ fun h11 ho11 => ?_; refine aL_ent (En.freeze (l := 11) (t := 11) rfl rfl) fun _ => ?_; rw [show share (PV.own 3 1 1 [PV.val (.int .i64 0)]) = pInts [0] from rfl])
    <;> refine xL 12 (q_build tSt25_LfJ) ?_
    <;> refine s_alloc [(.int .i64 0), (.int .i64 0), (.slice none 0 0), (.slice none 0 0), (.slice none 0 0)] 5 3 tZr25_LfJ fun h3 => ?_
    <;> refine s_sta 3 tAgg25_LfJ ?_
    <;> refine aL_end (nav ?_) <;> try dsimp only)
  refine aC_ent (nilCells (l := 3) [pInt (t.rows.length : Nat), pInt (t.m : Nat), pInts [0], .own 3 1 0 [], .own 72 3 0 []] rfl rfl (fun i p p' h1 h2 => by
    match i with
    | 0 => cases h1; cases h2; exact .inl rfl
    | 1 => cases h1; cases h2; exact .inl rfl
    | 2 => cases h1; cases h2; exact .inl rfl
    | 3 => cases h1; cases h2; exact .inr ⟨rfl, _, _, rfl⟩
    | 4 => cases h1; cases h2; exact .inr ⟨rfl, _, _, rfl⟩
    | i + 5 => simp at h2)) fun _ => ?_
  refine aC_ent (focusO (l := 3) (l' := 301) (j := 3) rfl rfl rfl rfl) fun i => ?_
  obtain ⟨v301, ho301⟩ := i
  refine aC_ent (focusO (l := 3) (l' := 302) (j := 4) rfl rfl rfl rfl) fun i => ?_
  obtain ⟨v302, ho302⟩ := i
  dsimp only [List.set]
  (refine aC_region ?_
    <;> refine xL 4 q_assign ?_
    <;> refine aL_end (nav ?_) <;> try dsimp only)
  refine aC_loop (ι := { q : Nat × Value × Value // q.1 ≤ t.rows.length ∧ q.2.1.oneCell' = true ∧ q.2.2.oneCell' = true }) (fun k => ⟨[(1, _, _), (2, _, _), (3, _, _), (4, .int .i64 k.1.1, pInt k.1.1)], [(1, _, _), (2, _, _), (3, h3, .own 25 5 1 [pInt (t.rows.length : Nat), pInt (t.m : Nat), pInts [0], .val k.1.2.1, .val k.1.2.2]), (301, k.1.2.1, .own 3 1 (listedL k.1.1 (finF t.fin)).length ((listedL k.1.1 (finF t.fin)).map pInt)), (302, k.1.2.2, .own 72 3 (movesT (t.rows.take k.1.1)).length ((movesT (t.rows.take k.1.1)).flatMap cMv))]⟩) (fun k => t.rows.length - k.1.1) ⟨(0, v301, v302), Nat.zero_le _, ho301, ho302⟩ (fun a w H => H.weaken ⟨rfl, rfl, rfl, rfl, trivial⟩ ⟨rfl, rfl, rfl, rfl, rfl, trivial⟩) ?_
  rintro ⟨⟨i, hF, hM⟩, hi, hFo, hMo⟩
  dsimp only
  dsimp only at hi hFo hMo
  have hll := listedL_len i (finF t.fin)
  have hml := movesT_len2 hrw i
  refine nav ?_
  (refine aC_region ?_
    <;> refine xL 13 q_move ?_
    <;> refine xL 14 (q_fldo 1 tFl100_2_LfJ) ?_
    <;> (refine yL 15 (q_ldo 1 tNa28_LfJ) fun v15 hv15 => ?_; cases hv15)
    <;> refine xL 16 (q_len tSl28_LfJ) ?_
    <;> refine xL 17 q_lss ?_
    <;> refine aL_end (nav ?_) <;> try dsimp only)
  first | refine cCd (fun hb17 => ?_) (fun hb17 => ?_) | refine cC (fun hb17 => ?_) (fun hb17 => ?_)
  · first
    | exact Bool.noConfusion hb17
    | (
     obtain ⟨b, hb⟩ := get_some (show i < t.fin.length by omega)
     have e2 := map_at (f := pBool) hb
     obtain ⟨row, hrow⟩ := get_some (show i < t.rows.length by omega)
     have e3 := map_at (f := pNats) hrow
     have hrl := hrw row (List.mem_of_getElem? hrow)
     have hrtl := toI_len row
     have hfa : finF t.fin i = b := by unfold finF; rw [hb]; rfl
     have hL1 := listedL_snoc i (finF t.fin)
     rw [hfa] at hL1
     refine nav ?_
     (refine aC_region ?_
       <;> refine xL 20 (q_fldo 1 tFl100_1_LfJ) ?_
       <;> (refine yL 21 (q_ldo 1 tNa66_LfJ) fun v21 hv21 => ?_; cases hv21)
       <;> refine xL 22 q_move ?_
       <;> refine xL 23 (q_idxN tSl66_LfJ) ?_
       <;> (refine yL 24 (q_ld tNa4_LfJ) fun v24 hv24 => ?_; cases hv24)
       <;> refine aL_end (nav ?_) <;> try dsimp only)
     first | refine cCd (fun hb24 => ?_) (fun hb24 => ?_) | refine cC (fun hb24 => ?_) (fun hb24 => ?_)
     · first
       | exact Bool.noConfusion hb24
       | (
        rw [if_pos hb24] at hL1
        refine nav ?_
        (refine aC_region ?_
          <;> refine xL 25 (q_fldo 3 tFl25_3_LfJ) ?_
          <;> (refine yL 26 (q_ldo 3 tNa22_LfJ) fun v26 hv26 => ?_; cases hv26)
          <;> refine xL 27 q_move ?_
          <;> refine s_lit1 (kk := 1) 28 tEl22_LfJ fun h28 ho28 => ?_
          <;> (refine s_app 301 28 29 tEl22_LfJ fun h29 ho29 => ?_; refine aL_ent (relabel (l := 29) 301 rfl rfl) fun _ => ?_; refine aL_ent (recast (l := 301) rfl (own_ints _ (listedL i (finF t.fin)) i)) fun _ => ?_)
          <;> refine xL 30 (q_fldo 3 tFl25_3_LfJ) ?_
          <;> refine s_st 3 tNa22_LfJ tSz22_LfJ ?_
          <;> refine aL_end (nav ?_) <;> try dsimp only)
        (refine aC_region ?_
          <;> refine xL 5 q_assign ?_
          <;> refine aL_end (nav ?_) <;> try dsimp only)
        rw [← hL1]
        rw [show movesT (t.rows.take i) = movesT (t.rows.take i) ++ rowMv i (row.take 0) from (List.append_nil _).symm]
        refine aC_loop (ι := { q : Nat × Value // q.1 ≤ t.m ∧ q.2.oneCell' = true }) (fun k => ⟨[(1, _, _), (2, _, _), (3, _, _), (4, _, _), (5, .int .i64 k.1.1, pInt k.1.1)], [(1, _, _), (2, _, _), (301, _, _), (3, h3, .own 25 5 1 [pInt (t.rows.length : Nat), pInt (t.m : Nat), pInts [0], _, .val k.1.2]), (302, k.1.2, .own 72 3 (movesT (t.rows.take i) ++ rowMv i (row.take k.1.1)).length ((movesT (t.rows.take i) ++ rowMv i (row.take k.1.1)).flatMap cMv))]⟩) (fun k => t.m - k.1.1) ⟨(0, hM), Nat.zero_le _, hMo⟩ (fun a w H => H.weaken ⟨rfl, rfl, rfl, rfl, rfl, trivial⟩ ⟨rfl, rfl, rfl, rfl, rfl, trivial⟩) ?_
        rintro ⟨⟨s, hM'⟩, hs, hM'o⟩
        dsimp only
        dsimp only at hs hM'o
        have hrm := rowMv_len i (row.take s)
        rw [List.length_take] at hrm
        have hal : (movesT (t.rows.take i) ++ rowMv i (row.take s)).length ≤ 90000 := by rw [List.length_append]; omega
        refine nav ?_
        (refine aC_region ?_
          <;> refine xL 31 q_move ?_
          <;> refine xL 32 (q_fldo 1 tFl100_0_LfJ) ?_
          <;> (refine yL 33 (q_ldo 1 tNa3_LfJ) fun v33 hv33 => ?_; cases hv33)
          <;> refine xL 34 q_lss ?_
          <;> refine aL_end (nav ?_) <;> try dsimp only)
        first | refine cCd (fun hb34 => ?_) (fun hb34 => ?_) | refine cC (fun hb34 => ?_) (fun hb34 => ?_)
        · first
          | exact Bool.noConfusion hb34
          | (
           obtain ⟨y, hy⟩ := get_some (show s < row.length by omega)
           have e4 : ((toI row).map pInt)[s * 1]? = some (pInt (y : Nat)) := by rw [Nat.mul_one, List.getElem?_map]; unfold toI; rw [List.getElem?_map, hy]; rfl
           refine nav ?_
           (refine aC_draw (fun i => ([16] : List Nat).elem i) [1, 3] (by kernel_rfl) ?_
             <;> refine xD 0 37 rfl (q_fldo 3 tFl25_4_LfJ) ?_
             <;> (refine yD 1 38 rfl (q_ldo 3 tNa23_LfJ) fun v38 hv38 => ?_; cases hv38)
             <;> refine xD 2 39 rfl q_move ?_
             <;> refine xD 3 40 rfl (q_fldo 1 tFl100_2_LfJ) ?_
             <;> (refine yD 4 41 rfl (q_ldo 1 tNa28_LfJ) fun v41 hv41 => ?_; cases hv41)
             <;> refine xD 5 42 rfl q_move ?_
             <;> refine xD 6 43 rfl (q_idxN tSl28_LfJ) ?_
             <;> (refine yD 7 44 rfl (q_ld tNa22_LfJ) fun v44 hv44 => ?_; cases hv44)
             <;> refine xD 8 45 rfl q_move ?_
             <;> refine xD 9 46 rfl (q_idxN tSl22_LfJ) ?_
             <;> (refine yD 10 47 rfl (q_ld tNa3_LfJ) fun v47 hv47 => ?_; cases hv47)
             <;> refine xE 11 48 rfl q_move ?_
             <;> refine xE 12 49 rfl (q_build tSt72_LfJ) ?_
             <;> (refine aD_one 13 (by kernel_rfl) ?_)
             <;> (refine aW_run rfl fun w9 M9 N9 DQ back => ?_)
             <;> refine s_lit1a 50 tEl23_LfJ fun h50 ho50 => ?_
             <;> refine aL_end (back _ (nrm ?_))
             <;> (refine aD_one 14 (by kernel_rfl) ?_)
             <;> (refine aW_run rfl fun w9 M9 N9 DQ back => ?_)
             <;> refine s_app 302 50 51 tEl23_LfJ fun h51 ho51 => ?_
             <;> refine aL_end (back _ (nrm ?_))
             <;> refine xE 15 52 rfl (q_fldo 3 tFl25_4_LfJ) ?_
             <;> (refine aD_one 16 (by kernel_rfl) ?_)
             <;> (refine aW_last rfl rfl (by kernel_rfl) fun DQ back => ?_)
             <;> refine s_st 3 tNa23_LfJ tSz23_LfJ ?_
             <;> refine aL_end (back _ (nav ?_))
             <;> try dsimp only)
           refine aC_ent (relabel (l := 51) 302 rfl rfl) fun _ => ?_
           refine aC_ent (recast (l := 302) rfl (snoc_mv _ (movesT (t.rows.take i) ++ rowMv i (row.take s)) ⟨(i : Nat), (y : Nat), (s : Nat)⟩)) fun _ => ?_
           rw [List.append_assoc, ← rowMv_take hy]
           (refine aC_region ?_
             <;> refine xL 35 q_move ?_
             <;> refine xL 36 q_add ?_
             <;> refine xL 5 q_assign ?_
             <;> refine aL_end (nav ?_) <;> try dsimp only)
           refine aN_again (
             ⟨(s + 1, h51), (by dsimp only; omega), ho51⟩
             ) (by dsimp only; omega) ⟨rfl, rfl, rfl, rfl, rfl, trivial⟩ ⟨rfl, rfl, rfl, rfl, rfl, trivial⟩)
        · first
          | exact Bool.noConfusion hb34
          | (
           have hsm : s = t.m := by omega
           subst hsm
           rw [List.take_of_length_le (show row.length ≤ t.m by omega), ← movesT_take hrow]
           refine nav ?_
           (refine aC_region ?_
             <;> refine xL 18 q_move ?_
             <;> refine xL 19 q_add ?_
             <;> refine xL 4 q_assign ?_
             <;> refine aL_end (nav ?_) <;> try dsimp only)
           first
             | (exact aN_again (
                 ⟨(i + 1, h29, hM'), (by dsimp only; omega), ho29, hM'o⟩
                 ) (by dsimp only; omega) ⟨rfl, rfl, rfl, rfl, trivial⟩ ⟨rfl, rfl, rfl, rfl, rfl, trivial⟩)
             | (exact aN_again (
                 ⟨(i + 1, hF, hM'), (by dsimp only; omega), hFo, hM'o⟩
                 ) (by dsimp only; omega) ⟨rfl, rfl, rfl, rfl, trivial⟩ ⟨rfl, rfl, rfl, rfl, rfl, trivial⟩)))
     · first
       | exact Bool.noConfusion hb24
       | (
        rw [if_neg (by simpa using hb24), List.append_nil] at hL1
        refine nav ?_
        (refine aC_region ?_
          <;> refine xL 5 q_assign ?_
          <;> refine aL_end (nav ?_) <;> try dsimp only)
        rw [← hL1]
        rw [show movesT (t.rows.take i) = movesT (t.rows.take i) ++ rowMv i (row.take 0) from (List.append_nil _).symm]
        refine aC_loop (ι := { q : Nat × Value // q.1 ≤ t.m ∧ q.2.oneCell' = true }) (fun k => ⟨[(1, _, _), (2, _, _), (3, _, _), (4, _, _), (5, .int .i64 k.1.1, pInt k.1.1)], [(1, _, _), (2, _, _), (301, _, _), (3, h3, .own 25 5 1 [pInt (t.rows.length : Nat), pInt (t.m : Nat), pInts [0], _, .val k.1.2]), (302, k.1.2, .own 72 3 (movesT (t.rows.take i) ++ rowMv i (row.take k.1.1)).length ((movesT (t.rows.take i) ++ rowMv i (row.take k.1.1)).flatMap cMv))]⟩) (fun k => t.m - k.1.1) ⟨(0, hM), Nat.zero_le _, hMo⟩ (fun a w H => H.weaken ⟨rfl, rfl, rfl, rfl, rfl, trivial⟩ ⟨rfl, rfl, rfl, rfl, rfl, trivial⟩) ?_
        rintro ⟨⟨s, hM'⟩, hs, hM'o⟩
        dsimp only
        dsimp only at hs hM'o
        have hrm := rowMv_len i (row.take s)
        rw [List.length_take] at hrm
        have hal : (movesT (t.rows.take i) ++ rowMv i (row.take s)).length ≤ 90000 := by rw [List.length_append]; omega
        refine nav ?_
        (refine aC_region ?_
          <;> refine xL 31 q_move ?_
          <;> refine xL 32 (q_fldo 1 tFl100_0_LfJ) ?_
          <;> (refine yL 33 (q_ldo 1 tNa3_LfJ) fun v33 hv33 => ?_; cases hv33)
          <;> refine xL 34 q_lss ?_
          <;> refine aL_end (nav ?_) <;> try dsimp only)
        first | refine cCd (fun hb34 => ?_) (fun hb34 => ?_) | refine cC (fun hb34 => ?_) (fun hb34 => ?_)
        · first
          | exact Bool.noConfusion hb34
          | (
           obtain ⟨y, hy⟩ := get_some (show s < row.length by omega)
           have e4 : ((toI row).map pInt)[s * 1]? = some (pInt (y : Nat)) := by rw [Nat.mul_one, List.getElem?_map]; unfold toI; rw [List.getElem?_map, hy]; rfl
           refine nav ?_
           (refine aC_draw (fun i => ([16] : List Nat).elem i) [1, 3] (by kernel_rfl) ?_
             <;> refine xD 0 37 rfl (q_fldo 3 tFl25_4_LfJ) ?_
             <;> (refine yD 1 38 rfl (q_ldo 3 tNa23_LfJ) fun v38 hv38 => ?_; cases hv38)
             <;> refine xD 2 39 rfl q_move ?_
             <;> refine xD 3 40 rfl (q_fldo 1 tFl100_2_LfJ) ?_
             <;> (refine yD 4 41 rfl (q_ldo 1 tNa28_LfJ) fun v41 hv41 => ?_; cases hv41)
             <;> refine xD 5 42 rfl q_move ?_
             <;> refine xD 6 43 rfl (q_idxN tSl28_LfJ) ?_
             <;> (refine yD 7 44 rfl (q_ld tNa22_LfJ) fun v44 hv44 => ?_; cases hv44)
             <;> refine xD 8 45 rfl q_move ?_
             <;> refine xD 9 46 rfl (q_idxN tSl22_LfJ) ?_
             <;> (refine yD 10 47 rfl (q_ld tNa3_LfJ) fun v47 hv47 => ?_; cases hv47)
             <;> refine xE 11 48 rfl q_move ?_
             <;> refine xE 12 49 rfl (q_build tSt72_LfJ) ?_
             <;> (refine aD_one 13 (by kernel_rfl) ?_)
             <;> (refine aW_run rfl fun w9 M9 N9 DQ back => ?_)
             <;> refine s_lit1a 50 tEl23_LfJ fun h50 ho50 => ?_
             <;> refine aL_end (back _ (nrm ?_))
             <;> (refine aD_one 14 (by kernel_rfl) ?_)
             <;> (refine aW_run rfl fun w9 M9 N9 DQ back => ?_)
             <;> refine s_app 302 50 51 tEl23_LfJ fun h51 ho51 => ?_
             <;> refine aL_end (back _ (nrm ?_))
             <;> refine xE 15 52 rfl (q_fldo 3 tFl25_4_LfJ) ?_
             <;> (refine aD_one 16 (by kernel_rfl) ?_)
             <;> (refine aW_last rfl rfl (by kernel_rfl) fun DQ back => ?_)
             <;> refine s_st 3 tNa23_LfJ tSz23_LfJ ?_
             <;> refine aL_end (back _ (nav ?_))
             <;> try dsimp only)
           refine aC_ent (relabel (l := 51) 302 rfl rfl) fun _ => ?_
           refine aC_ent (recast (l := 302) rfl (snoc_mv _ (movesT (t.rows.take i) ++ rowMv i (row.take s)) ⟨(i : Nat), (y : Nat), (s : Nat)⟩)) fun _ => ?_
           rw [List.append_assoc, ← rowMv_take hy]
           (refine aC_region ?_
             <;> refine xL 35 q_move ?_
             <;> refine xL 36 q_add ?_
             <;> refine xL 5 q_assign ?_
             <;> refine aL_end (nav ?_) <;> try dsimp only)
           refine aN_again (
             ⟨(s + 1, h51), (by dsimp only; omega), ho51⟩
             ) (by dsimp only; omega) ⟨rfl, rfl, rfl, rfl, rfl, trivial⟩ ⟨rfl, rfl, rfl, rfl, rfl, trivial⟩)
        · first
          | exact Bool.noConfusion hb34
          | (
           have hsm : s = t.m := by omega
           subst hsm
           rw [List.take_of_length_le (show row.length ≤ t.m by omega), ← movesT_take hrow]
           refine nav ?_
           (refine aC_region ?_
             <;> refine xL 18 q_move ?_
             <;> refine xL 19 q_add ?_
             <;> refine xL 4 q_assign ?_
             <;> refine aL_end (nav ?_) <;> try dsimp only)
           first
             | (exact aN_again (
                 ⟨(i + 1, h29, hM'), (by dsimp only; omega), ho29, hM'o⟩
                 ) (by dsimp only; omega) ⟨rfl, rfl, rfl, rfl, trivial⟩ ⟨rfl, rfl, rfl, rfl, rfl, trivial⟩)
             | (exact aN_again (
                 ⟨(i + 1, hF, hM'), (by dsimp only; omega), hFo, hM'o⟩
                 ) (by dsimp only; omega) ⟨rfl, rfl, rfl, rfl, trivial⟩ ⟨rfl, rfl, rfl, rfl, rfl, trivial⟩))))
  · first
    | exact Bool.noConfusion hb17
    | (
     have hio : i = t.rows.length := by omega
     subst hio
     rw [List.take_length]
     refine nav ?_
     refine aC_ent (freezeCell (l := 3) (l' := 301) (j := 3) rfl rfl rfl rfl) fun _ => ?_
     refine aC_ent (freezeCell (l := 3) (l' := 302) (j := 4) rfl rfl rfl rfl) fun _ => ?_
     rw [share_ints _ _ _ rfl, share_mvl _ _ _ rfl]
     (refine aC_region ?_
       <;> (refine yL 53 (q_ldao 3 tAgg25_LfJ) fun v53 hv53 => ?_; cases hv53)
       <;> refine s_sta 2 tAgg25_LfJ ?_
       <;> refine aL_end (nav ?_) <;> try dsimp only)
     exact ret_cell (k := 5) 2 (by kernel_rfl) (Tryz.results110) rfl rfl (Nat.le_of_ble_eq_true rfl) (by decide) rfl rfl)
end Go.Proofs.YtgigclnaicbiaaaGreatDoor

namespace Go.Proofs.YtgigclnaicbiaaaGreatDoor
open Go.RowKit Go.Cb Go.En
set_option linter.all false
set_option maxRecDepth 100000

theorem tAgg100_LfK : AggT Tryz.prog 100 3 = true := by kernel_rfl
theorem tAgg25_LfK : AggT Tryz.prog 25 5 = true := by kernel_rfl
theorem tEl22_LfK : ElT Tryz.prog 22 3 1 8 (.int .i64 0) := ⟨Tryz.underlying22, by kernel_rfl, rfl, by decide⟩
theorem tEl28_LfK : ElT Tryz.prog 28 22 1 24 (.slice none 0 0) := ⟨Tryz.underlying28, by kernel_rfl, rfl, by decide⟩
theorem tEl66_LfK : ElT Tryz.prog 66 4 1 1 (.bool false) := ⟨Tryz.underlying66, by kernel_rfl, rfl, by decide⟩
theorem tFl100_0_LfK : FldT Tryz.prog 100 0 0 = true := by kernel_rfl
theorem tFl100_1_LfK : FldT Tryz.prog 100 1 1 = true := by kernel_rfl
theorem tFl100_2_LfK : FldT Tryz.prog 100 2 2 = true := by kernel_rfl
theorem tNa22_LfK : NoAgg Tryz.prog 22 = true := by kernel_rfl
theorem tNa28_LfK : NoAgg Tryz.prog 28 = true := by kernel_rfl
theorem tNa3_LfK : NoAgg Tryz.prog 3 = true := by kernel_rfl
theorem tNa4_LfK : NoAgg Tryz.prog 4 = true := by kernel_rfl
theorem tNa66_LfK : NoAgg Tryz.prog 66 = true := by kernel_rfl
theorem tSl22_LfK : SlT Tryz.prog 22 3 1 = true := by kernel_rfl
theorem tSl28_LfK : SlT Tryz.prog 28 22 1 = true := by kernel_rfl
theorem tSl66_LfK : SlT Tryz.prog 66 4 1 = true := by kernel_rfl
theorem tSt100_LfK : stInfo Tryz.prog 100 = some ((.agg #[(.int .i64 0), (.slice none 0 0), (.slice none 0 0)]), ([0, 1, 2] : List Nat).map fun o => (o, 1)) := by kernel_rfl
theorem tSt25_LfK : stInfo Tryz.prog 25 = some ((.agg #[(.int .i64 0), (.int .i64 0), (.slice none 0 0), (.slice none 0 0), (.slice none 0 0)]), ([0, 1, 2, 3, 4] : List Nat).map fun o => (o, 1)) := by kernel_rfl
theorem tSz28_LfK : (Tryz.prog.info? 28).map (·.size) = some 1 := by kernel_rfl
theorem tSz3_LfK : (Tryz.prog.info? 3).map (·.size) = some 1 := by kernel_rfl
theorem tSz66_LfK : (Tryz.prog.info? 66).map (·.size) = some 1 := by kernel_rfl
theorem tZr100_LfK : ZeroT Tryz.prog 100 (.agg #[(.int .i64 0), (.slice none 0 0), (.slice none 0 0)]) := by unfold ZeroT; kernel_rfl
theorem tZr25_LfK : ZeroT Tryz.prog 25 (.agg #[(.int .i64 0), (.int .i64 0), (.slice none 0 0), (.slice none 0 0), (.slice none 0 0)]) := by unfold ZeroT; kernel_rfl

theorem clsIt_lt {rows : List (List Nat)} : ∀ {f : Nat} {c : Nat → Nat} {k s : Nat}, s < rows.length → clsIt rows (f + 1) c k s < rows.length
  | f, c, k, s, hs => by
    have h1 : nextC rows c s < rows.length := Nat.lt_of_lt_of_le (nextC_lt hs) (fstK_len _ _)
    rw [clsIt]; split
    · exact h1
    · cases f with
      | zero => exact h1
      | succ f => exact clsIt_lt hs
theorem clsT_lt (t : Tab) {s : Nat} (hs : s < t.rows.length) : clsT t s < t.rows.length := clsIt_lt hs
def finX (t : Tab) (x : Nat) : Bool := (t.fin[x]?).getD false
def numC (t : Tab) (o : List Nat) (j : Nat) : Nat := if posK (clsT t) o j < o.length then posK (clsT t) o j + 1 else 0
theorem numC_zero (t : Tab) (j : Nat) : numC t [0] j = if j = clsT t 0 then 1 else 0 := by
  unfold numC
  rw [posK, posK]
  by_cases h : clsT t 0 = j
  · rw [if_pos h, if_pos (by simp), if_pos h.symm]
  · rw [if_neg h, if_neg (by simp), if_neg fun e => h e.symm]
theorem posK_last {α κ : Type} [DecidableEq κ] {f : α → κ} {o : List α} {x : α} {k : κ} (h : ¬ posK f o k < o.length) (hk : f x ≠ k) : ¬ posK f (o ++ [x]) k < (o ++ [x]).length := fun hh => by
  obtain ⟨y, hy, e⟩ := posK_lt.1 hh
  rcases List.mem_append.1 hy with hy | hy
  · exact h (posK_lt.2 ⟨y, hy, e⟩)
  · rw [List.mem_singleton.1 hy] at e; exact hk e
theorem numC_snoc {t : Tab} {o : List Nat} {x : Nat} (h : ¬ posK (clsT t) o (clsT t x) < o.length) (j : Nat) : numC t (o ++ [x]) j = if j = clsT t x then o.length + 1 else numC t o j := by
  unfold numC
  by_cases e : j = clsT t x
  · subst e
    rw [if_pos rfl, posK_new h, if_pos (by simp)]
  · rw [if_neg e]
    by_cases h2 : posK (clsT t) o j < o.length
    · rw [if_pos h2, posK_app _ h2, if_pos (by rw [List.length_append]; omega)]
    · rw [if_neg h2, if_neg (posK_last h2 fun e2 => e e2.symm)]
theorem listedL_congr {f g : Nat → Bool} : ∀ n : Nat, (∀ i, i < n → f i = g i) → listedL n f = listedL n g
  | 0, _ => rfl
  | n + 1, h => by rw [listedL_snoc, listedL_snoc, listedL_congr n fun i hi => h i (by omega), h n (by omega)]
theorem autT_Q {t : Tab} {o : List Nat} {rows : List (List Nat)} (hl : rows.length = o.length) : autT ⟨t.m, rows, o.map (finX t)⟩ = autQ t (o, rows) := by
  unfold autT autQ
  dsimp only
  rw [hl, listedL_congr o.length fun i hi => by
    obtain ⟨x, hx⟩ := get_some hi
    show ((o.map (finX t))[i]?).getD false = finAt t o i
    unfold finAt
    rw [List.getElem?_map, hx]; rfl]
def RLeast (t : Tab) (p : PV) : Prop := (∃ A, leastT t = some A ∧ p = .tup [pAut A, pBool true]) ∨ (leastT t = none ∧ p = .tup [rawZ, pBool false])
set_option maxHeartbeats 4000000 in
theorem r07Least_e (t : Tab) (ht : TOk t) : AF Tryz.prog 74 [pTabR t] (RLeast t) := by
  have hn1 := ht.n1
  have hfl := ht.fl
  have hm1 := ht.m1
  have hpos := ht.pos
  refine AF.of_body 111 Tryz.func74 rfl Tryz.ntmps74 (Nat.le_of_ble_eq_true rfl) ?_
  intro w0 M0 vs hl hv
  obtain ⟨v0, rfl⟩ := len1 hl
  clear hl hv
  refine nav ?_
  (refine aC_region ?_
    <;> refine s_boxa 1 3 fun h1 => ?_
    <;> refine s_alloc [(.int .i64 0), (.int .i64 0), (.slice none 0 0), (.slice none 0 0), (.slice none 0 0)] 5 2 tZr25_LfK fun h2 => ?_
    <;> refine xL 3 q_assign ?_
    <;> refine aL_end (nav ?_) <;> try dsimp only)
  (refine aC_region ?_
    <;> (refine yL 12 (q_ldao 1 tAgg100_LfK) fun v12 hv12 => ?_; cases hv12)
    <;> (refine cO 13 (cA Tryz.call109 (r07classes_e t ht)) fun v13 ho13 => ?_; refine aL_ent (En.freeze (l := 13) (t := 13) rfl rfl) fun _ => ?_; rw [show share (.own 3 1 t.rows.length (vec t.rows.length fun s => pInt (clsT t s : Nat))) = .sl t.rows.length (vec t.rows.length fun s => pInt (clsT t s : Nat)) by rw [share, shares_eq, vec_map]; rfl])
    <;> refine xL 4 q_assign ?_
    <;> refine aL_end (nav ?_) <;> try dsimp only)
  (refine aC_region ?_
    <;> refine xL 14 (q_fldo 1 tFl100_2_LfK) ?_
    <;> (refine yL 15 (q_ldo 1 tNa28_LfK) fun v15 hv15 => ?_; cases hv15)
    <;> refine xL 16 (q_len tSl28_LfK) ?_
    <;> refine s_make 17 tEl22_LfK fun h17 ho17 => ?_
    <;> refine xL 5 q_assign ?_
    <;> refine aL_end (nav ?_) <;> try dsimp only)
  (refine aC_region ?_
    <;> refine s_lit1 (kk := 1) 18 tEl22_LfK fun h18 ho18 => ?_
    <;> refine xL 6 q_assign ?_
    <;> refine aL_end (nav ?_) <;> try dsimp only)
  rw [show List.replicate t.rows.length (PV.val (.int .i64 0)) = vec t.rows.length (fun _ => pInt 0) from vec_const _ _]
  refine aC_ent (relabel (l := 18) 303 rfl rfl) fun _ => ?_
  refine aC_ent (recast (l := 303) (p' := .own 3 1 ([0] : List Nat).length ((toI [0]).map pInt)) rfl rfl) fun _ => ?_
  have e1 := vec_at1 (fun s => pInt (clsT t s : Nat)) hpos
  have hc0 := clsT_lt t hpos
  have e2 := vec_len t.rows.length (fun _ => pInt 0)
  (refine aC_region ?_
    <;> refine xL 19 q_move ?_
    <;> refine xL 20 q_move ?_
    <;> refine xL 21 (q_idxN (i := 0) tSl22_LfK) ?_
    <;> (refine yL 22 (q_ld tNa3_LfK) fun v22 hv22 => ?_; cases hv22)
    <;> refine xL 23 (q_idxoN 17 tSl22_LfK) ?_
    <;> refine s_st 17 tNa3_LfK tSz3_LfK ?_
    <;> refine aL_end (nav ?_) <;> try dsimp only)
  rw [show (vec t.rows.length fun _ => pInt 0).set (clsT t 0 * 1) (PV.val (.int .i64 1)) = vec t.rows.length fun j => pInt (numC t [0] j : Nat) by rw [Nat.mul_one, vec_set]; exact vec_congr fun j _ => by rw [numC_zero]; by_cases e : j = clsT t 0 <;> simp [e]]
  (refine aC_region ?_
    <;> refine xL 24 (q_fldo 1 tFl100_0_LfK) ?_
    <;> (refine yL 25 (q_ldo 1 tNa3_LfK) fun v25 hv25 => ?_; cases hv25)
    <;> refine xL 26 (q_build tSt100_LfK) ?_
    <;> refine s_alloc [(.int .i64 0), (.slice none 0 0), (.slice none 0 0)] 3 7 tZr100_LfK fun h7 => ?_
    <;> refine s_sta 7 tAgg100_LfK ?_
    <;> refine aL_end (nav ?_) <;> try dsimp only)
  refine aC_ent (nilCells (l := 7) [pInt (t.m : Nat), .own 4 1 0 [], .own 22 1 0 []] rfl rfl (fun i p p' h1 h2 => by
    match i with
    | 0 => cases h1; cases h2; exact .inl rfl
    | 1 => cases h1; cases h2; exact .inr ⟨rfl, _, _, rfl⟩
    | 2 => cases h1; cases h2; exact .inr ⟨rfl, _, _, rfl⟩
    | i + 3 => simp at h2)) fun _ => ?_
  refine aC_ent (focusO (l := 7) (l' := 302) (j := 1) rfl rfl rfl rfl) fun i => ?_
  obtain ⟨v302, ho302⟩ := i
  refine aC_ent (focusO (l := 7) (l' := 301) (j := 2) rfl rfl rfl rfl) fun i => ?_
  obtain ⟨v301, ho301⟩ := i
  dsimp only [List.set]
  (refine aC_region ?_
    <;> refine xL 8 q_assign ?_
    <;> refine aL_end (nav ?_) <;> try dsimp only)
  refine aC_loop (ι := { q : Nat × Value × Value × Value × List Nat × List (List Nat) // (minW t).upto 0 q.1 = some (q.2.2.2.2.1, q.2.2.2.2.2) ∧ q.1 ≤ q.2.2.2.2.1.length ∧ q.2.1.oneCell' = true ∧ q.2.2.1.oneCell' = true ∧ q.2.2.2.1.oneCell' = true }) (fun k => ⟨[(1, _, _), (2, _, _), (3, _, _), (4, _, _), (5, _, _), (7, _, _), (6, k.1.2.2.2.1, .val k.1.2.2.2.1), (8, .int .i64 k.1.1, pInt k.1.1)], [(1, _, _), (2, _, _), (7, h7, .own 100 3 1 [pInt (t.m : Nat), .val k.1.2.1, .val k.1.2.2.1]), (301, k.1.2.2.1, .own 22 1 k.1.2.2.2.2.2.length (k.1.2.2.2.2.2.map pNats)), (302, k.1.2.1, .own 4 1 ((k.1.2.2.2.2.1.take k.1.1).map (finX t)).length (((k.1.2.2.2.2.1.take k.1.1).map (finX t)).map pBool)), (303, k.1.2.2.2.1, .own 3 1 k.1.2.2.2.2.1.length ((toI k.1.2.2.2.2.1).map pInt)), (17, h17, .own 3 1 t.rows.length (vec t.rows.length fun j => pInt (numC t k.1.2.2.2.2.1 j : Nat)))]⟩) (fun k => 2000 - k.1.1) ⟨(0, v302, v301, h18, [0], []), rfl, Nat.zero_le _, ho302, ho301, ho18⟩ (fun a w H => H.weaken ⟨rfl, rfl, rfl, rfl, rfl, rfl, rfl, rfl, trivial⟩ ⟨rfl, rfl, rfl, rfl, rfl, rfl, rfl, trivial⟩) ?_
  rintro ⟨⟨i, hF, hM, hO, o, rows⟩, hU, hi, hFo, hMo, hOo⟩
  dsimp only
  dsimp only at hU hi hFo hMo hOo
  obtain ⟨hOk, hRl, _⟩ := min_ok ht hU
  have hRl := hRl hi
  have hcap : o.length ≤ t.rows.length := hOk.cap
  have hrw := hOk.len
  have htl := toI_len o
  have hfll : ((o.take i).map (finX t)).length ≤ 2000 := by rw [List.length_map, List.length_take]; omega
  refine nav ?_
  (refine aC_region ?_
    <;> refine xL 27 q_move ?_
    <;> refine xL 28 q_move ?_
    <;> refine xL 29 (q_leno 303 tSl22_LfK) ?_
    <;> refine xL 30 q_lss ?_
    <;> refine aL_end (nav ?_) <;> try dsimp only)
  first | refine cCd (fun hb30 => ?_) (fun hb30 => ?_) | refine cC (fun hb30 => ?_) (fun hb30 => ?_)
  · first
    | exact Bool.noConfusion hb30
    | (
     obtain ⟨x, hx⟩ := get_some (show i < o.length by omega)
     have hxn : x < t.rows.length := hOk.p x (List.mem_of_getElem? hx)
     obtain ⟨b, hb⟩ := get_some (show x < t.fin.length by omega)
     have e2 := map_at (f := pBool) hb
     obtain ⟨row, hrow⟩ := get_some hxn
     have e3 := map_at (f := pNats) hrow
     have hrl := ht.rl row (List.mem_of_getElem? hrow)
     have hrt := ht.to row (List.mem_of_getElem? hrow)
     have hrtl := toI_len row
     have hfa : finX t x = b := by unfold finX; rw [hb]; rfl
     refine nav ?_
     (refine aC_region ?_
       <;> refine s_lit0 33 tEl22_LfK fun h33 ho33 => ?_
       <;> refine xL 9 q_assign ?_
       <;> refine aL_end (nav ?_) <;> try dsimp only)
     refine aC_ent (relabel (l := 33) 305 rfl rfl) fun _ => ?_
     refine aC_ent (recast (l := 305) (p' := .own 3 1 ([] : List Nat).length ((toI []).map pInt)) rfl rfl) fun _ => ?_
     (refine aC_region ?_
       <;> refine xL 10 q_assign ?_
       <;> refine aL_end (nav ?_) <;> try dsimp only)
     refine aC_loop (ι := { q : Nat × Value × Value × List Nat × List Nat // (minW t).row i x o q.1 = some (q.2.2.2.1, q.2.2.2.2) ∧ q.1 ≤ t.m ∧ q.2.1.oneCell' = true ∧ q.2.2.1.oneCell' = true }) (fun k => ⟨[(1, _, _), (2, _, _), (3, _, _), (4, _, _), (5, _, _), (7, _, _), (8, _, _), (6, k.1.2.1, .val k.1.2.1), (9, k.1.2.2.1, .val k.1.2.2.1), (10, .int .i64 k.1.1, pInt k.1.1)], [(1, _, _), (2, _, _), (7, _, _), (301, _, _), (302, _, _), (303, k.1.2.1, .own 3 1 k.1.2.2.2.1.length ((toI k.1.2.2.2.1).map pInt)), (305, k.1.2.2.1, .own 3 1 k.1.2.2.2.2.length ((toI k.1.2.2.2.2).map pInt)), (17, h17, .own 3 1 t.rows.length (vec t.rows.length fun j => pInt (numC t k.1.2.2.2.1 j : Nat)))]⟩) (fun k => t.m - k.1.1) ⟨(0, hO, h33, o, []), rfl, Nat.zero_le _, hOo, ho33⟩ (fun a w H => H.weaken ⟨rfl, rfl, rfl, rfl, rfl, rfl, rfl, rfl, rfl, rfl, trivial⟩ ⟨rfl, rfl, rfl, rfl, rfl, rfl, rfl, rfl, trivial⟩) ?_
     rintro ⟨⟨s, hO', hR, o', r⟩, hW, hs, hO'o, hRo⟩
     dsimp only
     dsimp only at hW hs hO'o hRo
     obtain ⟨hMt, hpr, hrl2, _⟩ := hOk.toMet.row (fun s _ => toT_lt ht) (show s ≤ (minW t).m from hs) hW
     have hcap' : o'.length ≤ t.rows.length := hMt.cap
     have htl' := toI_len o'
     have htr := toI_len r
     have hx' := preG_get hpr hx
     have e1 : ((toI o').map pInt)[i * 1]? = some (pInt (x : Nat)) := by rw [Nat.mul_one, List.getElem?_map]; unfold toI; rw [List.getElem?_map, hx']; rfl
     have hio' := lt_of_get hx'
     refine nav ?_
     (refine aC_region ?_
       <;> refine xL 34 q_move ?_
       <;> refine xL 35 (q_fldo 1 tFl100_0_LfK) ?_
       <;> (refine yL 36 (q_ldo 1 tNa3_LfK) fun v36 hv36 => ?_; cases hv36)
       <;> refine xL 37 q_lss ?_
       <;> refine aL_end (nav ?_) <;> try dsimp only)
     first | refine cCd (fun hb37 => ?_) (fun hb37 => ?_) | refine cC (fun hb37 => ?_) (fun hb37 => ?_)
     · first
       | exact Bool.noConfusion hb37
       | (
        obtain ⟨y, hy⟩ := get_some (show s < row.length by omega)
        have hyn := hrt y (List.mem_of_getElem? hy)
        have e4 : ((toI row).map pInt)[s * 1]? = some (pInt (y : Nat)) := by rw [Nat.mul_one, List.getElem?_map]; unfold toI; rw [List.getElem?_map, hy]; rfl
        have e5 := vec_at1 (fun s => pInt (clsT t s : Nat)) hyn
        have hyc := clsT_lt t hyn
        have e6 := vec_at1 (fun j => pInt (numC t o' j : Nat)) hyc
        have e7 := vec_len t.rows.length (fun j => pInt (numC t o' j : Nat))
        have hto : (minW t).step i x s = y := toT_at hrow hy
        refine nav ?_
        (refine aC_draw (fun i => ([] : List Nat).elem i) [1, 303] (by kernel_rfl) ?_
          <;> refine xD 0 40 rfl (q_fldo 1 tFl100_2_LfK) ?_
          <;> (refine yD 1 41 rfl (q_ldo 1 tNa28_LfK) fun v41 hv41 => ?_; cases hv41)
          <;> refine xD 2 42 rfl q_move ?_
          <;> refine xD 3 43 rfl q_move ?_
          <;> refine xD 4 44 rfl (q_idxoN 303 tSl22_LfK) ?_
          <;> (refine yD 5 45 rfl (q_ldo 303 tNa3_LfK) fun v45 hv45 => ?_; cases hv45)
          <;> refine xD 6 46 rfl (q_idxN tSl28_LfK) ?_
          <;> (refine yD 7 47 rfl (q_ld tNa22_LfK) fun v47 hv47 => ?_; cases hv47)
          <;> refine xE 8 48 rfl q_move ?_
          <;> refine xE 9 49 rfl (q_idxN tSl22_LfK) ?_
          <;> (refine yE 10 50 rfl (q_ld tNa3_LfK) fun v50 hv50 => ?_; cases hv50)
          <;> refine xE 11 11 rfl q_assign ?_
          <;> refine aD_end (by kernel_rfl) (nav ?_)
          <;> try dsimp only)
        (refine aC_region ?_
          <;> refine xL 51 q_move ?_
          <;> refine xL 52 q_move ?_
          <;> refine xL 53 q_move ?_
          <;> refine xL 54 (q_idxN tSl22_LfK) ?_
          <;> (refine yL 55 (q_ld tNa3_LfK) fun v55 hv55 => ?_; cases hv55)
          <;> refine xL 56 (q_idxoN 17 tSl22_LfK) ?_
          <;> (refine yL 57 (q_ldo 17 tNa3_LfK) fun v57 hv57 => ?_; cases hv57)
          <;> refine xL 58 q_eql ?_
          <;> refine aL_end (nav ?_) <;> try dsimp only)
        first | refine cCd (fun hb58 => ?_) (fun hb58 => ?_) | refine cC (fun hb58 => ?_) (fun hb58 => ?_)
        · first
          | exact Bool.noConfusion hb58
          | (
           have hnew : ¬ posK (clsT t) o' (clsT t y) < o'.length := fun hh => by
             unfold numC at hb58
             rw [if_pos hh] at hb58; omega
           have hnew2 : ¬ posK (minW t).key o' ((minW t).key ((minW t).step i x s)) < o'.length := by rw [hto]; exact hnew
           have hroom := min_visit ht hMt (show (minW t).step i x s < t.rows.length by rw [hto]; exact hyn) hnew2
           have e8 : (vec t.rows.length fun j => pInt (numC t o' j : Nat)).set (clsT t y * 1) (pInt ((o' ++ [y]).length : Nat)) = vec t.rows.length fun j => pInt (numC t (o' ++ [y]) j : Nat) := by
             rw [Nat.mul_one, vec_set]
             exact vec_congr fun j _ => by
               rw [numC_snoc hnew]
               by_cases e : j = clsT t y
               · rw [if_pos e, if_pos e, List.length_append]; rfl
               · rw [if_neg e, if_neg e]
           have e9 := vec_at1 (fun j => pInt (numC t (o' ++ [y]) j : Nat)) hyc
           have hnv : numC t (o' ++ [y]) (clsT t y) = o'.length + 1 := by rw [numC_snoc hnew, if_pos rfl]
           refine nav ?_
           (refine aC_region ?_
             <;> refine xL 59 q_move ?_
             <;> refine xL 60 q_move ?_
             <;> refine s_lit1 (kk := 1) 61 tEl22_LfK fun h61 ho61 => ?_
             <;> (refine s_app 303 61 62 tEl22_LfK fun h62 ho62 => ?_; refine aL_ent (relabel (l := 62) 303 rfl rfl) fun _ => ?_; refine aL_ent (recast (l := 303) rfl (own_nats _ o' y)) fun _ => ?_)
             <;> refine xL 6 q_assign ?_
             <;> refine aL_end (nav ?_) <;> try dsimp only)
           (refine aC_region ?_
             <;> refine xL 63 q_move ?_
             <;> refine xL 64 q_move ?_
             <;> refine xL 65 q_move ?_
             <;> refine xL 66 (q_idxN tSl22_LfK) ?_
             <;> (refine yL 67 (q_ld tNa3_LfK) fun v67 hv67 => ?_; cases hv67)
             <;> refine xL 68 q_move ?_
             <;> refine xL 69 (q_leno 303 tSl22_LfK) ?_
             <;> refine xL 70 (q_idxoN 17 tSl22_LfK) ?_
             <;> refine s_st 17 tNa3_LfK tSz3_LfK ?_
             <;> refine aL_end (nav ?_) <;> try dsimp only)
           rw [e8]
           (refine aC_region ?_
             <;> refine xL 71 q_move ?_
             <;> refine xL 72 q_move ?_
             <;> refine xL 73 q_move ?_
             <;> refine xL 74 q_move ?_
             <;> refine xL 75 (q_idxN tSl22_LfK) ?_
             <;> (refine yL 76 (q_ld tNa3_LfK) fun v76 hv76 => ?_; cases hv76)
             <;> refine xL 77 (q_idxoN 17 tSl22_LfK) ?_
             <;> (refine yL 78 (q_ldo 17 tNa3_LfK) fun v78 hv78 => ?_; cases hv78)
             <;> refine xL 79 q_sub ?_
             <;> refine s_lit1 (kk := 1) 80 tEl22_LfK fun h80 ho80 => ?_
             <;> (refine s_app 305 80 81 tEl22_LfK fun h81 ho81 => ?_; refine aL_ent (relabel (l := 81) 305 rfl rfl) fun _ => ?_; first | refine aL_ent (recast (l := 305) rfl ((congrArg (fun z : Int => PV.own 3 1 (r.length + 1) ((toI r).map pInt ++ [pInt z])) (show ((numC t (o' ++ [y]) (clsT t y) : Nat) : Int) - 1 = (o'.length : Nat) by rw [hnv]; omega)).trans (own_nats _ r o'.length))) fun _ => ?_ | refine aL_ent (recast (l := 305) rfl ((congrArg (fun z : Int => PV.own 3 1 (r.length + 1) ((toI r).map pInt ++ [pInt z])) (show ((numC t o' (clsT t y) : Nat) : Int) - 1 = (posK (clsT t) o' (clsT t y) : Nat) by rw [hnv]; omega)).trans (own_nats _ r (posK (clsT t) o' (clsT t y))))) fun _ => ?_)
             <;> refine xL 9 q_assign ?_
             <;> refine aL_end (nav ?_) <;> try dsimp only)
           (refine aC_region ?_
             <;> refine xL 38 q_move ?_
             <;> refine xL 39 q_add ?_
             <;> refine xL 10 q_assign ?_
             <;> refine aL_end (nav ?_) <;> try dsimp only)
           first
             | (exact aN_again (
                 ⟨(s + 1, h62, h81, o' ++ [y], r ++ [o'.length]), (by dsimp only; exact (by have h9 := Srch.row_snoc hW (visit_new hnew2 hroom); rwa [hto] at h9)), (by dsimp only; omega), ho62, ho81⟩
                 ) (by dsimp only; omega) ⟨rfl, rfl, rfl, rfl, rfl, rfl, rfl, rfl, rfl, rfl, trivial⟩ ⟨rfl, rfl, rfl, rfl, rfl, rfl, rfl, rfl, trivial⟩)
             | (exact aN_again (
                 ⟨(s + 1, hO', h81, o', r ++ [posK (clsT t) o' (clsT t y)]), (by dsimp only; exact (by have h9 := Srch.row_snoc hW (visit_old hold2); rw [hto] at h9; exact h9)), (by dsimp only; omega), hO'o, ho81⟩
                 ) (by dsimp only; omega) ⟨rfl, rfl, rfl, rfl, rfl, rfl, rfl, rfl, rfl, rfl, trivial⟩ ⟨rfl, rfl, rfl, rfl, rfl, rfl, rfl, rfl, trivial⟩))
        · first
          | exact Bool.noConfusion hb58
          | (
           have hold : posK (clsT t) o' (clsT t y) < o'.length := by
             rcases Nat.lt_or_ge (posK (clsT t) o' (clsT t y)) o'.length with hh | hh
             · exact hh
             · unfold numC at hb58
               rw [if_neg (by omega)] at hb58; exact absurd rfl hb58
           have hold2 : posK (minW t).key o' ((minW t).key ((minW t).step i x s)) < o'.length := by rw [hto]; exact hold
           have hnv : numC t o' (clsT t y) = posK (clsT t) o' (clsT t y) + 1 := by unfold numC; rw [if_pos hold]
           refine nav ?_
           (refine aC_region ?_
             <;> refine xL 71 q_move ?_
             <;> refine xL 72 q_move ?_
             <;> refine xL 73 q_move ?_
             <;> refine xL 74 q_move ?_
             <;> refine xL 75 (q_idxN tSl22_LfK) ?_
             <;> (refine yL 76 (q_ld tNa3_LfK) fun v76 hv76 => ?_; cases hv76)
             <;> refine xL 77 (q_idxoN 17 tSl22_LfK) ?_
             <;> (refine yL 78 (q_ldo 17 tNa3_LfK) fun v78 hv78 => ?_; cases hv78)
             <;> refine xL 79 q_sub ?_
             <;> refine s_lit1 (kk := 1) 80 tEl22_LfK fun h80 ho80 => ?_
             <;> (refine s_app 305 80 81 tEl22_LfK fun h81 ho81 => ?_; refine aL_ent (relabel (l := 81) 305 rfl rfl) fun _ => ?_; first | refine aL_ent (recast (l := 305) rfl ((congrArg (fun z : Int => PV.own 3 1 (r.length + 1) ((toI r).map pInt ++ [pInt z])) (show ((numC t (o' ++ [y]) (clsT t y) : Nat) : Int) - 1 = (o'.length : Nat) by rw [hnv]; omega)).trans (own_nats _ r o'.length))) fun _ => ?_ | refine aL_ent (recast (l := 305) rfl ((congrArg (fun z : Int => PV.own 3 1 (r.length + 1) ((toI r).map pInt ++ [pInt z])) (show ((numC t o' (clsT t y) : Nat) : Int) - 1 = (posK (clsT t) o' (clsT t y) : Nat) by rw [hnv]; omega)).trans (own_nats _ r (posK (clsT t) o' (clsT t y))))) fun _ => ?_)
             <;> refine xL 9 q_assign ?_
             <;> refine aL_end (nav ?_) <;> try dsimp only)
           (refine aC_region ?_
             <;> refine xL 38 q_move ?_
             <;> refine xL 39 q_add ?_
             <;> refine xL 10 q_assign ?_
             <;> refine aL_end (nav ?_) <;> try dsimp only)
           first
             | (exact aN_again (
                 ⟨(s + 1, h62, h81, o' ++ [y], r ++ [o'.length]), (by dsimp only; exact (by have h9 := Srch.row_snoc hW (visit_new hnew2 hroom); rwa [hto] at h9)), (by dsimp only; omega), ho62, ho81⟩
                 ) (by dsimp only; omega) ⟨rfl, rfl, rfl, rfl, rfl, rfl, rfl, rfl, rfl, rfl, trivial⟩ ⟨rfl, rfl, rfl, rfl, rfl, rfl, rfl, rfl, trivial⟩)
             | (exact aN_again (
                 ⟨(s + 1, hO', h81, o', r ++ [posK (clsT t) o' (clsT t y)]), (by dsimp only; exact (by have h9 := Srch.row_snoc hW (visit_old hold2); rw [hto] at h9; exact h9)), (by dsimp only; omega), hO'o, ho81⟩
                 ) (by dsimp only; omega) ⟨rfl, rfl, rfl, rfl, rfl, rfl, rfl, rfl, rfl, rfl, trivial⟩ ⟨rfl, rfl, rfl, rfl, rfl, rfl, rfl, rfl, trivial⟩)))
     · first
       | exact Bool.noConfusion hb37
       | (
        have hsm : s = t.m := by omega
        subst hsm
        have hU2 := Srch.upto_snoc hU hx hW
        have htk : o'.take (i + 1) = (o.take i) ++ [x] := by
          rw [take_snoc hx']
          obtain ⟨e, rfl⟩ := hpr
          rw [List.take_append_of_le_length hi]
        refine nav ?_
        refine aC_ent (En.freeze (l := 305) (t := 9) rfl rfl) fun _ => ?_
        rw [share_ints _ _ _ (by rw [toI_len])]
        (refine aC_region ?_
          <;> refine xL 82 (q_fldo 7 tFl100_2_LfK) ?_
          <;> (refine yL 83 (q_ldo 7 tNa28_LfK) fun v83 hv83 => ?_; cases hv83)
          <;> refine xL 84 q_move ?_
          <;> refine s_lit1 (kk := 1) 85 tEl28_LfK fun h85 ho85 => ?_
          <;> (refine s_app 301 85 86 tEl28_LfK fun h86 ho86 => ?_; refine aL_ent (relabel (l := 86) 301 rfl rfl) fun _ => ?_; refine aL_ent (recast (l := 301) rfl (snoc_nats _ rows r)) fun _ => ?_)
          <;> refine xL 87 (q_fldo 7 tFl100_2_LfK) ?_
          <;> refine s_st 7 tNa28_LfK tSz28_LfK ?_
          <;> refine aL_end (nav ?_) <;> try dsimp only)
        (refine aC_draw (fun i => ([13] : List Nat).elem i) [1, 7, 303] (by kernel_rfl) ?_
          <;> refine xD 0 88 rfl (q_fldo 7 tFl100_1_LfK) ?_
          <;> (refine yD 1 89 rfl (q_ldo 7 tNa66_LfK) fun v89 hv89 => ?_; cases hv89)
          <;> refine xD 2 90 rfl (q_fldo 1 tFl100_1_LfK) ?_
          <;> (refine yD 3 91 rfl (q_ldo 1 tNa66_LfK) fun v91 hv91 => ?_; cases hv91)
          <;> refine xD 4 92 rfl q_move ?_
          <;> refine xE 5 93 rfl q_move ?_
          <;> refine xE 6 94 rfl (q_idxoN 303 tSl22_LfK) ?_
          <;> (refine yE 7 95 rfl (q_ldo 303 tNa3_LfK) fun v95 hv95 => ?_; cases hv95)
          <;> refine xE 8 96 rfl (q_idxN tSl66_LfK) ?_
          <;> (refine yE 9 97 rfl (q_ld tNa4_LfK) fun v97 hv97 => ?_; cases hv97)
          <;> (refine aD_one 10 (by kernel_rfl) ?_)
          <;> (refine aW_run rfl fun w9 M9 N9 DQ back => ?_)
          <;> refine s_lit1 (kk := 1) 98 tEl66_LfK fun h98 ho98 => ?_
          <;> refine aL_end (back _ (nrm ?_))
          <;> (refine aD_one 11 (by kernel_rfl) ?_)
          <;> (refine aW_run rfl fun w9 M9 N9 DQ back => ?_)
          <;> refine s_app 302 98 99 tEl66_LfK fun h99 ho99 => ?_
          <;> refine aL_end (back _ (nrm ?_))
          <;> refine xE 12 100 rfl (q_fldo 7 tFl100_1_LfK) ?_
          <;> (refine aD_one 13 (by kernel_rfl) ?_)
          <;> (refine aW_last rfl rfl (by kernel_rfl) fun DQ back => ?_)
          <;> refine s_st 7 tNa66_LfK tSz66_LfK ?_
          <;> refine aL_end (back _ (nav ?_))
          <;> try dsimp only)
        refine aC_ent (relabel (l := 99) 302 rfl rfl) fun _ => ?_
        refine aC_ent (recast (l := 302) rfl (snoc_bools _ ((o.take i).map (finX t)) b)) fun _ => ?_
        rw [show ((o.take i).map (finX t)) ++ [b] = (o'.take (i + 1)).map (finX t) by rw [htk, List.map_append, ← hfa]; rfl]
        (refine aC_region ?_
          <;> refine xL 31 q_move ?_
          <;> refine xL 32 q_add ?_
          <;> refine xL 8 q_assign ?_
          <;> refine aL_end (nav ?_) <;> try dsimp only)
        refine aN_again (
          ⟨(i + 1, h99, h86, hO', o', rows ++ [r]), hU2, (by dsimp only; omega), ho99, ho86, hO'o⟩
          ) (by dsimp only; omega) ⟨rfl, rfl, rfl, rfl, rfl, rfl, rfl, rfl, trivial⟩ ⟨rfl, rfl, rfl, rfl, rfl, rfl, rfl, trivial⟩))
  · first
    | exact Bool.noConfusion hb30
    | (
     have hio : i = o.length := by omega
     subst hio
     have hA := Srch.all_some hU (Nat.le_refl _) (show o.length ≤ (minW t).cap from hcap)
     have hml := movesT_len rows hrw
     have hmm : rows.length * t.m ≤ 80000 := Nat.le_trans (Nat.mul_le_mul (show rows.length ≤ 2000 by omega) hm1) (by decide)
     have hmi : ((rows.length * t.m : Nat) : Int) = (rows.length : Int) * (t.m : Int) := Int.natCast_mul _ _
     have hml2 : (movesT rows).length = rows.length * t.m := hml
     refine nav ?_
     (refine aC_region ?_
       <;> refine xL 101 (q_fldo 7 tFl100_2_LfK) ?_
       <;> (refine yL 102 (q_ldo 7 tNa28_LfK) fun v102 hv102 => ?_; cases hv102)
       <;> refine xL 103 (q_leno 301 tSl28_LfK) ?_
       <;> refine xL 104 (q_fldo 7 tFl100_0_LfK) ?_
       <;> (refine yL 105 (q_ldo 7 tNa3_LfK) fun v105 hv105 => ?_; cases hv105)
       <;> refine xL 106 (q_mul (h1 := by omega) (h2 := by omega)) ?_
       <;> refine xL 107 q_gtr ?_
       <;> refine aL_end (nav ?_) <;> try dsimp only)
     first | refine cCd (fun hb107 => ?_) (fun hb107 => ?_) | refine cC (fun hb107 => ?_) (fun hb107 => ?_)
     · first
       | exact Bool.noConfusion hb107
       | (
        refine nav ?_
        (refine aC_region ?_
          <;> refine xL 108 (q_build tSt25_LfK) ?_
          <;> refine s_sta 2 tAgg25_LfK ?_
          <;> refine xL 3 q_assign ?_
          <;> refine aL_end (nav ?_) <;> try dsimp only)
        refine ret_cs (k := 5) 2 (by kernel_rfl) (Tryz.results74) rfl rfl rfl (Nat.le_of_ble_eq_true rfl) (by decide) rfl (.inr ⟨?_, rfl⟩)
        unfold leastT
        rw [hA, Option.bind_some, if_pos (by dsimp only; omega)])
     · first
       | exact Bool.noConfusion hb107
       | (
        refine nav ?_
        refine aC_ent (freezeCell (l := 7) (l' := 302) (j := 1) rfl rfl rfl rfl) fun _ => ?_
        refine aC_ent (freezeCell (l := 7) (l' := 301) (j := 2) rfl rfl rfl rfl) fun _ => ?_
        rw [share_natss _ _ _ rfl, share_boolss _ _ _ rfl, List.take_length]
        (refine aC_region ?_
          <;> (refine yL 109 (q_ldao 7 tAgg100_LfK) fun v109 hv109 => ?_; cases hv109)
          <;> (refine cD 110 (cA Tryz.call110 ((r07auto_e ⟨t.m, rows, o.map (finX t)⟩ (by dsimp only; rw [List.length_map, hRl]) hrw (by dsimp only; omega) hm1))) fun v110 hv110 => ?_; clear hv110)
          <;> refine s_sta 2 tAgg25_LfK ?_
          <;> refine xL 3 q_assign ?_
          <;> refine aL_end (nav ?_) <;> try dsimp only)
        refine ret_cs (k := 5) 2 (by kernel_rfl) (Tryz.results74) rfl rfl rfl (Nat.le_of_ble_eq_true rfl) (by decide) rfl (.inl ⟨autQ t (o, rows), ?_, ?_⟩)
        · unfold leastT
          rw [hA, Option.bind_some, if_neg (by dsimp only; omega)]
        · rw [← autT_Q hRl]; rfl))
end Go.Proofs.YtgigclnaicbiaaaGreatDoor

namespace Go.Proofs.YtgigclnaicbiaaaGreatDoor
open Go.RowKit Go.Cb Go.En
set_option linter.all false

def Rel2 {α β : Type} (R : α → β → Prop) (o : List α) (o' : List β) : Prop := o.length = o'.length ∧ ∀ (i : Nat) (x : α) (y : β), o[i]? = some x → o'[i]? = some y → R x y
theorem Rel2.snoc {α β : Type} {R : α → β → Prop} {o : List α} {o' : List β} {x : α} {y : β} (h : Rel2 R o o') (hr : R x y) : Rel2 R (o ++ [x]) (o' ++ [y]) := by
  refine ⟨by rw [List.length_append, List.length_append, h.1]; rfl, fun i a b ha hb => ?_⟩
  rw [List.getElem?_append] at ha hb
  have hl := h.1
  split at ha
  · rename_i h1
    rw [if_pos (by omega)] at hb
    exact h.2 i a b ha hb
  · rename_i h1
    rw [if_neg (by omega)] at hb
    have h2 := lt_of_get ha
    simp only [List.length_singleton] at h2
    have h3 : i = o.length := by omega
    rw [h3, Nat.sub_self] at ha
    rw [show i - o'.length = 0 by omega] at hb
    simp only [List.getElem?_cons_zero, Option.some.injEq] at ha hb
    rw [← ha, ← hb]; exact hr
section
variable {α β κ κ' : Type} [DecidableEq κ] [DecidableEq κ']
theorem posK_sim {f : α → κ} {g : β → κ'} {k : κ} {k' : κ'} : ∀ {o : List α} {o' : List β}, o.length = o'.length → (∀ (i : Nat) (x : α) (y : β), o[i]? = some x → o'[i]? = some y → (f x = k ↔ g y = k')) → posK f o k = posK g o' k'
  | [], [], _, _ => rfl
  | [], _ :: _, h, _ => by simp at h
  | _ :: _, [], h, _ => by simp at h
  | x :: o, y :: o', h, hk => by
    have h0 := hk 0 x y rfl rfl
    have ih := posK_sim (f := f) (g := g) (k := k) (k' := k') (o := o) (o' := o') (by simpa using h) fun i a b ha hb => hk (i + 1) a b (by simpa using ha) (by simpa using hb)
    rw [posK, posK, ih]
    by_cases e : f x = k
    · rw [if_pos e, if_pos (h0.1 e)]
    · rw [if_neg e, if_neg fun e2 => e (h0.2 e2)]
variable {W : Srch α κ} {W' : Srch β κ'} {R : α → β → Prop}
theorem Srch.sim_row (hc : W.cap ≤ W'.cap) (hk : ∀ x x' y y', R x y → R x' y' → (W.key x = W.key x' ↔ W'.key y = W'.key y')) (hs : ∀ i x y s, R x y → s < W.m → R (W.step i x s) (W'.step i y s)) {i : Nat} {x : α} {y : β} (hxy : R x y) {o : List α} {o' : List β} (ho : Rel2 R o o') :
    ∀ {s : Nat} {p : List α} {r : List Nat}, s ≤ W.m → W.row i x o s = some (p, r) → ∃ p', W'.row i y o' s = some (p', r) ∧ Rel2 R p p'
  | 0, p, r, _, h => by
    rw [Srch.row] at h; cases h
    exact ⟨o', rfl, ho⟩
  | s + 1, p, r, hsm, h => by
    rw [Srch.row, Option.bind_eq_some_iff] at h
    obtain ⟨⟨p1, r1⟩, h1, h2⟩ := h
    obtain ⟨⟨p2, n⟩, h3, h4⟩ := Option.map_eq_some_iff.1 h2
    cases h4
    dsimp only at h3 ⊢
    obtain ⟨p1', h5, h6⟩ := Srch.sim_row hc hk hs hxy ho (by omega) h1
    have hst := hs i x y s hxy (by omega)
    have hpos : posK W.key p1 (W.key (W.step i x s)) = posK W'.key p1' (W'.key (W'.step i y s)) := posK_sim h6.1 fun j a b ha hb => hk a _ b _ (h6.2 j a b ha hb) hst
    by_cases hp : posK W.key p1 (W.key (W.step i x s)) < p1.length
    · rw [visit_old hp] at h3; cases h3
      have hp' : posK W'.key p1' (W'.key (W'.step i y s)) < p1'.length := by rw [← hpos, ← h6.1]; exact hp
      exact ⟨p1', by rw [Srch.row_snoc h5 (visit_old hp'), hpos], h6⟩
    · have hp' : ¬ posK W'.key p1' (W'.key (W'.step i y s)) < p1'.length := by rw [← hpos, ← h6.1]; exact hp
      by_cases hcap : p1.length < W.cap
      · rw [visit_new hp hcap] at h3; cases h3
        exact ⟨p1' ++ [W'.step i y s], by rw [Srch.row_snoc h5 (visit_new hp' (by have := h6.1; omega)), h6.1], h6.snoc hst⟩
      · rw [visit_no hp (by omega)] at h3; cases h3
theorem Srch.sim (hm : W.m = W'.m) (hc : W.cap ≤ W'.cap) (hk : ∀ x x' y y', R x y → R x' y' → (W.key x = W.key x' ↔ W'.key y = W'.key y')) (hs : ∀ i x y s, R x y → s < W.m → R (W.step i x s) (W'.step i y s)) {x0 : α} {y0 : β} (h0 : R x0 y0) :
    ∀ {i : Nat} {o : List α} {rows : List (List Nat)}, W.upto x0 i = some (o, rows) → ∃ o', W'.upto y0 i = some (o', rows) ∧ Rel2 R o o'
  | 0, o, rows, h => by
    rw [Srch.upto] at h; cases h
    refine ⟨[y0], rfl, rfl, fun i x y hx hy => ?_⟩
    match i with
    | 0 => simp at hx hy; subst hx hy; exact h0
    | i + 1 => simp at hx
  | i + 1, o, rows, h => by
    rw [Srch.upto, Option.bind_eq_some_iff] at h
    obtain ⟨⟨o1, rows1⟩, h1, h2⟩ := h
    obtain ⟨o1', h3, h4⟩ := Srch.sim hm hc hk hs h0 h1
    dsimp only at h2
    cases hx : o1[i]? with
    | none =>
      rw [hx] at h2; cases h2
      have h5 := List.getElem?_eq_none_iff.1 hx
      exact ⟨o1', Srch.upto_stop h3 (by dsimp only; have := h4.1; omega) 1, h4⟩
    | some x =>
      rw [hx] at h2
      obtain ⟨⟨o2, r⟩, h5, h6⟩ := Option.map_eq_some_iff.1 h2
      cases h6
      have hil := lt_of_get hx
      obtain ⟨y, hy⟩ := get_some (show i < o1'.length by have := h4.1; omega)
      obtain ⟨p', h7, h8⟩ := Srch.sim_row hc hk hs (h4.2 i x y hx hy) h4 (Nat.le_refl _) h5
      rw [hm] at h7
      exact ⟨p', Srch.upto_snoc h3 hy h7, h8⟩
end
section
variable {κ κ' : Type} [DecidableEq κ] [DecidableEq κ']
theorem fst_sim {k : Nat → κ} {k' : Nat → κ'} {n : Nat} (h : ∀ s t, s < n → t < n → (k s = k t ↔ k' s = k' t)) : ∀ m, m ≤ n → (fstK k m).length = (fstK k' m).length ∧ ∀ s, s < n → posK id (fstK k m) (k s) = posK id (fstK k' m) (k' s)
  | 0, _ => ⟨rfl, fun _ _ => rfl⟩
  | m + 1, hm => by
    obtain ⟨h1, h2⟩ := fst_sim h m (by omega)
    have h3 := h2 m (by omega)
    by_cases hp : posK id (fstK k m) (k m) < (fstK k m).length
    · have hp' : posK id (fstK k' m) (k' m) < (fstK k' m).length := by rw [← h3, ← h1]; exact hp
      rw [fstK_old hp, fstK_old hp']
      exact ⟨h1, h2⟩
    · have hp' : ¬ posK id (fstK k' m) (k' m) < (fstK k' m).length := by rw [← h3, ← h1]; exact hp
      rw [fstK_new hp, fstK_new hp']
      refine ⟨by rw [List.length_append, List.length_append, h1]; rfl, fun s hs => ?_⟩
      by_cases hq : posK id (fstK k m) (k s) < (fstK k m).length
      · rw [posK_app _ hq, posK_app _ (by rw [← h2 s hs, ← h1]; exact hq)]
        exact h2 s hs
      · have hq' : ¬ posK id (fstK k' m) (k' s) < (fstK k' m).length := by rw [← h2 s hs, ← h1]; exact hq
        by_cases e : k m = k s
        · have e' := (h m s (by omega) hs).1 e
          rw [← e, ← e']
          have a1 : posK id (fstK k m ++ [k m]) (k m) = (fstK k m).length := posK_new (f := id) hp
          have a2 : posK id (fstK k' m ++ [k' m]) (k' m) = (fstK k' m).length := posK_new (f := id) hp'
          rw [a1, a2, h1]
        · have e' : ¬ k' m = k' s := fun e2 => e ((h m s (by omega) hs).2 e2)
          have a1 : ¬ posK id (fstK k m ++ [k m]) (k s) < (fstK k m ++ [k m]).length := fun hh => by
            rw [posI_lt] at hh
            rcases List.mem_append.1 hh with h5 | h5
            · exact hq (posI_lt.2 h5)
            · exact e (List.mem_singleton.1 h5).symm
          have a2 : ¬ posK id (fstK k' m ++ [k' m]) (k' s) < (fstK k' m ++ [k' m]).length := fun hh => by
            rw [posI_lt] at hh
            rcases List.mem_append.1 hh with h5 | h5
            · exact hq' (posI_lt.2 h5)
            · exact e' (List.mem_singleton.1 h5).symm
          have b1 := posK_le id (fstK k m ++ [k m]) (k s)
          have b2 := posK_le id (fstK k' m ++ [k' m]) (k' s)
          have c1 : (fstK k m ++ [k m]).length = (fstK k' m ++ [k' m]).length := by rw [List.length_append, List.length_append, h1]; rfl
          omega
end
theorem map_sim {c d : Nat → Nat} {n : Nat} (h : ∀ s t, s < n → t < n → (c s = c t ↔ d s = d t)) : ∀ {l m : List Nat}, (∀ x ∈ l, x < n) → (∀ x ∈ m, x < n) → (l.map c = m.map c ↔ l.map d = m.map d)
  | [], [], _, _ => by simp
  | [], _ :: _, _, _ => by simp
  | _ :: _, [], _, _ => by simp
  | x :: l, y :: m, hl, hm => by
    simp only [List.map_cons, List.cons.injEq]
    rw [h x y (hl x (List.mem_cons_self ..)) (hm y (List.mem_cons_self ..)), map_sim h (fun z hz => hl z (List.mem_cons_of_mem _ hz)) fun z hz => hm z (List.mem_cons_of_mem _ hz)]
theorem key_sim {t : Tab} (ht : TOk t) {c d : Nat → Nat} (h : ∀ s s', s < t.rows.length → s' < t.rows.length → (c s = c s' ↔ d s = d s')) {s s' : Nat} (hs : s < t.rows.length) (hs' : s' < t.rows.length) : keyC t.rows c s = keyC t.rows c s' ↔ keyC t.rows d s = keyC t.rows d s' := by
  obtain ⟨r, hr⟩ := get_some hs
  obtain ⟨r', hr'⟩ := get_some hs'
  unfold keyC
  rw [hr, hr']
  show c s :: r.map c = c s' :: r'.map c ↔ d s :: r.map d = d s' :: r'.map d
  rw [List.cons.injEq, List.cons.injEq, h s s' hs hs', map_sim h (ht.to r (List.mem_of_getElem? hr)) (ht.to r' (List.mem_of_getElem? hr'))]
theorem next_sim {t : Tab} (ht : TOk t) {c d : Nat → Nat} (h : ∀ s s', s < t.rows.length → s' < t.rows.length → (c s = c s' ↔ d s = d s')) : cntC t.rows c = cntC t.rows d ∧ ∀ s, s < t.rows.length → nextC t.rows c s = nextC t.rows d s := by
  have := fst_sim (k := keyC t.rows c) (k' := keyC t.rows d) (n := t.rows.length) (fun s s' hs hs' => key_sim ht h hs hs') t.rows.length (Nat.le_refl _)
  exact ⟨this.1, this.2⟩
theorem clsIt_congr {t : Tab} (ht : TOk t) : ∀ {f : Nat} {c d : Nat → Nat} {k : Nat}, (∀ s, s < t.rows.length → c s = d s) → ∀ s, s < t.rows.length → clsIt t.rows f c k s = clsIt t.rows f d k s
  | 0, c, d, k, h, s, hs => h s hs
  | f + 1, c, d, k, h, s, hs => by
    obtain ⟨h1, h2⟩ := next_sim ht (c := c) (d := d) fun a b ha hb => by rw [h a ha, h b hb]
    rw [clsIt, clsIt, h1]
    split
    · exact h2 s hs
    · exact clsIt_congr ht h2 s hs
theorem clsIt_succ {rows : List (List Nat)} {f : Nat} {c : Nat → Nat} {k : Nat} : clsIt rows (f + 1) c k = if cntC rows c = k then nextC rows c else clsIt rows f (nextC rows c) (cntC rows c) := rfl
def flipT (t : Tab) : Tab := { t with fin := t.fin.map fun b => !b }
theorem flipT_ok {t : Tab} (h : TOk t) : TOk (flipT t) := ⟨by show (t.fin.map _).length = _; rw [List.length_map]; exact h.fl, h.rl, h.to, h.pos, h.n1, h.m1⟩
theorem finC_flip {t : Tab} (h : TOk t) {s : Nat} (hs : s < t.rows.length) : finC (flipT t).fin s = 1 - finC t.fin s := by
  obtain ⟨b, hb⟩ := get_some (show s < t.fin.length by rw [h.fl]; exact hs)
  unfold finC flipT
  dsimp only
  rw [List.getElem?_map, hb]
  cases b <;> rfl
theorem finC_le (l : List Bool) (s : Nat) : finC l s ≤ 1 := by unfold finC; split <;> omega
theorem clsT_flip {t : Tab} (h : TOk t) {s : Nat} (hs : s < t.rows.length) : clsT (flipT t) s = clsT t s := by
  obtain ⟨h1, h2⟩ := next_sim h (c := finC (flipT t).fin) (d := finC t.fin) fun a b ha hb => by
    rw [finC_flip h ha, finC_flip h hb]
    have := finC_le t.fin a
    have := finC_le t.fin b
    omega
  show clsIt t.rows (t.rows.length + 2) (finC (flipT t).fin) 0 s = clsIt t.rows (t.rows.length + 2) (finC t.fin) 0 s
  rw [clsIt_succ (f := t.rows.length + 1) (c := finC (flipT t).fin), clsIt_succ (f := t.rows.length + 1) (c := finC t.fin), h1]
  split
  · exact h2 s hs
  · exact clsIt_congr h h2 s hs
theorem rel_eq {α : Type} {P : α → Prop} : ∀ {o o' : List α}, Rel2 (fun x y => x = y ∧ P x) o o' → o = o' := fun {o o'} h => by
  apply List.ext_getElem?
  intro i
  cases hx : o[i]? with
  | none => rw [List.getElem?_eq_none (by have := List.getElem?_eq_none_iff.1 hx; have := h.1; omega)]
  | some x =>
    obtain ⟨y, hy⟩ := get_some (show i < o'.length by have := lt_of_get hx; have := h.1; omega)
    rw [hy, (h.2 i x y hx hy).1]
theorem finB_Q {t : Tab} {o : List Nat} {rows : List (List Nat)} {i : Nat} (hi : i < o.length) : finB (autQ t (o, rows)) (i : Nat) = finAt t o i := by
  rw [Bool.eq_iff_iff]
  have : finB (autQ t (o, rows)) (i : Nat) = true ↔ ((i : Nat) : Int) ∈ listedL o.length (finAt t o) := by
    show hasI (listedL o.length (finAt t o)) (i : Nat) = true ↔ _
    exact hasI_iff
  rw [this, listedL_mem, Int.toNat_natCast]
  constructor
  · exact fun h => h.2.2
  · exact fun h => ⟨by omega, by omega, h⟩
theorem listedL_congr2 {f g : Nat → Bool} : ∀ n : Nat, (∀ i, i < n → f i = g i) → listedL n f = listedL n g
  | 0, _ => rfl
  | n + 1, h => by rw [listedL_snoc, listedL_snoc, listedL_congr2 n fun i hi => h i (by omega), h n (by omega)]
theorem leastT_flip {t : Tab} (h : TOk t) : leastT (flipT t) = (leastT t).map compA := by
  obtain ⟨⟨o, rows⟩, hq⟩ := min_all h
  obtain ⟨o', h1, h2⟩ := Srch.sim (W := minW t) (W' := minW (flipT t)) (R := fun x y => x = y ∧ x < t.rows.length) rfl (Nat.le_refl _) (fun x x' y y' hx hx' => by
    obtain ⟨rfl, hx⟩ := hx
    obtain ⟨rfl, hx'⟩ := hx'
    show clsT t x = clsT t x' ↔ clsT (flipT t) x = clsT (flipT t) x'
    rw [clsT_flip h hx, clsT_flip h hx']) (fun i x y s hx _ => by
    obtain ⟨rfl, hx⟩ := hx
    exact ⟨rfl, toT_lt h⟩) ⟨rfl, h.pos⟩ hq
  have := rel_eq h2
  subst this
  have hF := fin_of h hq
  have hn : ∀ i, i < o.length → finAt (flipT t) o i = !finAt t o i := fun i hi => by
    obtain ⟨x, hx⟩ := get_some hi
    have hxn : x < t.rows.length := hF.ok.p x (List.mem_of_getElem? hx)
    obtain ⟨b, hb⟩ := get_some (show x < t.fin.length by rw [h.fl]; exact hxn)
    unfold finAt flipT
    dsimp only
    rw [hx]
    show ((t.fin.map fun b => !b)[x]?).getD false = !((t.fin[x]?).getD false)
    rw [List.getElem?_map, hb]; rfl
  unfold leastT
  rw [hq, show (minW (flipT t)).all 0 = some (o, rows) from h1, Option.bind_some, Option.bind_some]
  dsimp only
  split
  · rfl
  · rw [Option.map_some]
    congr 1
    unfold compA
    show (⟨(o.length : Nat), (t.m : Nat), [0], listedL o.length (finAt (flipT t) o), movesT rows⟩ : Aut) = ⟨(o.length : Nat), (t.m : Nat), [0], listedL ((o.length : Nat) : Int).toNat fun i => !finB (autQ t (o, rows)) (i : Nat), movesT rows⟩
    rw [Int.toNat_natCast, listedL_congr2 o.length fun i hi => by rw [hn i hi, ← finB_Q (rows := rows) hi]]
end Go.Proofs.YtgigclnaicbiaaaGreatDoor

namespace Go.Proofs.YtgigclnaicbiaaaGreatDoor
open Go.RowKit Go.Cb Go.En
set_option linter.all false
set_option maxRecDepth 100000

theorem tAgg100_LfL : AggT Tryz.prog 100 3 = true := by kernel_rfl
theorem tAgg25_LfL : AggT Tryz.prog 25 5 = true := by kernel_rfl
theorem tFl100_1_LfL : FldT Tryz.prog 100 1 1 = true := by kernel_rfl
theorem tNa4_LfL : NoAgg Tryz.prog 4 = true := by kernel_rfl
theorem tNa66_LfL : NoAgg Tryz.prog 66 = true := by kernel_rfl
theorem tSl66_LfL : SlT Tryz.prog 66 4 1 = true := by kernel_rfl
theorem tSt25_LfL : stInfo Tryz.prog 25 = some ((.agg #[(.int .i64 0), (.int .i64 0), (.slice none 0 0), (.slice none 0 0), (.slice none 0 0)]), ([0, 1, 2, 3, 4] : List Nat).map fun o => (o, 1)) := by kernel_rfl
theorem tSz4_LfL : (Tryz.prog.info? 4).map (·.size) = some 1 := by kernel_rfl
theorem tZr100_LfL : ZeroT Tryz.prog 100 (.agg #[(.int .i64 0), (.slice none 0 0), (.slice none 0 0)]) := by unfold ZeroT; kernel_rfl
theorem tZr25_LfL : ZeroT Tryz.prog 25 (.agg #[(.int .i64 0), (.int .i64 0), (.slice none 0 0), (.slice none 0 0), (.slice none 0 0)]) := by unfold ZeroT; kernel_rfl

theorem AFh_mono {dd : Prop} {P : Program} {f : Nat} {ar h : List (Nat × Ent)} {R R' : Value → PV → List (Nat × Ent) → Prop} (hA : AFh dd P f ar h R) (hR : ∀ v p h, R v p h → R' v p h) : AFh dd P f ar h R' := fun M N w F H hv =>
  (hA M N w F H hv).mono fun e w' ⟨v, p, h, F', e1, e2, e3, e4⟩ => ⟨v, p, h, F', e1, hR v p h e2, e3, e4⟩
def flipK (l : List Bool) (k : Nat) : List Bool := (l.take k).map (fun b => !b) ++ l.drop k
theorem flipK_len (l : List Bool) (k : Nat) : (flipK l k).length = l.length := by
  unfold flipK; rw [List.length_append, List.length_map, List.length_take, List.length_drop]; omega
theorem flipK_get {l : List Bool} {k : Nat} {b : Bool} (h : l[k]? = some b) : (flipK l k)[k]? = some b := by
  have hk := lt_of_get h
  unfold flipK
  rw [List.getElem?_append_right (by rw [List.length_map, List.length_take]; omega), List.length_map, List.length_take, Nat.min_eq_left (by omega), Nat.sub_self, List.getElem?_drop, Nat.add_zero, h]
theorem flipK_set {l : List Bool} {k : Nat} {b : Bool} (h : l[k]? = some b) : (flipK l k).set k (!b) = flipK l (k + 1) := by
  have hk := lt_of_get h
  unfold flipK
  rw [List.set_append_right k (!b) (by rw [List.length_map, List.length_take]; omega), List.length_map, List.length_take, Nat.min_eq_left (by omega), Nat.sub_self, take_snoc h, List.map_append, List.append_assoc]
  congr 1
  rw [List.drop_eq_getElem_cons hk]; rfl
theorem flipK_setP {l : List Bool} {k : Nat} {b : Bool} (h : l[k]? = some b) : ((flipK l k).map pBool).set (k * 1) (pBool (!b)) = (flipK l (k + 1)).map pBool := by
  rw [Nat.mul_one, ← flipK_set h, List.map_set]
theorem flipK_all (l : List Bool) : flipK l l.length = l.map fun b => !b := by
  unfold flipK; rw [List.take_length, List.drop_length, List.append_nil]
theorem r07limit_e : AF Tryz.prog 75 [] (· = .tup [rawZ, pInt 13]) := by
  refine AF.of_body 3 Tryz.func75 rfl Tryz.ntmps75 (Nat.le_of_ble_eq_true rfl) ?_
  intro w0 M0 vs hl hv
  obtain rfl := List.eq_nil_of_length_eq_zero hl
  clear hl hv
  refine nav ?_
  (refine aC_region ?_
    <;> refine s_alloc [(.int .i64 0), (.int .i64 0), (.slice none 0 0), (.slice none 0 0), (.slice none 0 0)] 5 0 tZr25_LfL fun h0 => ?_
    <;> refine xL 1 q_assign ?_
    <;> refine aL_end (nav ?_) <;> try dsimp only)
  (refine aC_region ?_
    <;> refine xL 2 (q_build tSt25_LfL) ?_
    <;> refine s_sta 0 tAgg25_LfL ?_
    <;> refine xL 1 q_assign ?_
    <;> refine aL_end (nav ?_) <;> try dsimp only)
  exact ret_cs (k := 5) 0 (by kernel_rfl) (Tryz.results75) rfl rfl rfl (Nat.le_of_ble_eq_true rfl) (by decide) rfl rfl
theorem r07Subsets_none {a : Aut} (h : AOk a) (hs : subT a = none) (V : Value) : AFh False Tryz.prog 84 [(0, V, pAut a)] [] (fun v q h => (∃ V1 : Value, v = .tuple [V1, .bool false].toArray) ∧ q = .tup [.agg [pInt 0, .val (.slice none 0 0), .val (.slice none 0 0)], pBool false] ∧ h = []) := AFh_mono (r07Subsets_e a h V) fun v q h' hr => by
  rcases hr with ⟨t, _, _, _, h1, _⟩ | ⟨_, h2⟩
  · rw [hs] at h1; cases h1
  · exact h2
theorem r07Subsets_some {a : Aut} (h : AOk a) {t : Tab} (hs : subT a = some t) (V : Value) : AFh False Tryz.prog 84 [(0, V, pAut a)] [] (fun v q h => ∃ hF V1 : Value, hF.oneCell' = true ∧ v = .tuple [V1, .bool true].toArray ∧ q = .tup [.agg [pInt (t.m : Nat), .val hF, .sl t.rows.length (t.rows.map pNats)], pBool true] ∧ h = [(1000, hF, .own 4 1 t.fin.length (t.fin.map pBool))]) := AFh_mono (r07Subsets_e a h V) fun v q h' hr => by
  rcases hr with ⟨t', hF, V1, h1, h2, h3⟩ | ⟨h1, _⟩
  · rw [hs] at h2; cases h2; exact ⟨hF, V1, h1, h3⟩
  · rw [hs] at h1; cases h1
theorem r07Minimal_bad (a : Aut) (hml : a.moves.length ≤ 1000000) (hv : autOk a = false) : AF Tryz.prog 27 [pAut a] (· = .tup [rawZ, pInt 1]) := by
  refine AF.of_body 33 Tryz.func27 rfl Tryz.ntmps27 (Nat.le_of_ble_eq_true rfl) ?_
  intro w0 M0 vs hl hv
  obtain ⟨v0, rfl⟩ := len1 hl
  clear hl hv
  refine nav ?_
  (refine aC_region ?_
    <;> refine s_boxa 1 5 fun h1 => ?_
    <;> refine s_alloc [(.int .i64 0), (.int .i64 0), (.slice none 0 0), (.slice none 0 0), (.slice none 0 0)] 5 2 tZr25_LfL fun h2 => ?_
    <;> refine xL 3 q_assign ?_
    <;> refine aL_end (nav ?_) <;> try dsimp only)
  (refine aC_region ?_
    <;> (refine yL 8 (q_ldao 1 tAgg25_LfL) fun v8 hv8 => ?_; cases hv8)
    <;> (refine cS 9 (cA Tryz.call25 (r07Valid_e a hml)) fun v9 hv9 => ?_; cases hv9)
    <;> refine xL 10 q_not ?_
    <;> refine aL_end (nav ?_) <;> try dsimp only)
  first | refine cCd (fun hb10 => ?_) (fun hb10 => ?_) | refine cC (fun hb10 => ?_) (fun hb10 => ?_)
  · refine nav ?_
    (refine aC_region ?_
      <;> refine xL 11 (q_build tSt25_LfL) ?_
      <;> refine s_sta 2 tAgg25_LfL ?_
      <;> refine xL 3 q_assign ?_
      <;> refine aL_end (nav ?_) <;> try dsimp only)
    exact ret_cs (k := 5) 2 (by kernel_rfl) (Tryz.results27) rfl rfl rfl (Nat.le_of_ble_eq_true rfl) (by decide) rfl rfl
  · rw [hv] at hb10; simp at hb10
theorem r07Minimal_none (a : Aut) (hml : a.moves.length ≤ 1000000) (hv : autOk a = true) (hs : subT a = none) : AF Tryz.prog 27 [pAut a] (· = .tup [rawZ, pInt 13]) := by
  have h := aok_of hv
  refine AF.of_body 33 Tryz.func27 rfl Tryz.ntmps27 (Nat.le_of_ble_eq_true rfl) ?_
  intro w0 M0 vs hl hv
  obtain ⟨v0, rfl⟩ := len1 hl
  clear hl hv
  refine nav ?_
  (refine aC_region ?_
    <;> refine s_boxa 1 5 fun h1 => ?_
    <;> refine s_alloc [(.int .i64 0), (.int .i64 0), (.slice none 0 0), (.slice none 0 0), (.slice none 0 0)] 5 2 tZr25_LfL fun h2 => ?_
    <;> refine xL 3 q_assign ?_
    <;> refine aL_end (nav ?_) <;> try dsimp only)
  (refine aC_region ?_
    <;> (refine yL 8 (q_ldao 1 tAgg25_LfL) fun v8 hv8 => ?_; cases hv8)
    <;> (refine cS 9 (cA Tryz.call25 (r07Valid_e a hml)) fun v9 hv9 => ?_; cases hv9)
    <;> refine xL 10 q_not ?_
    <;> refine aL_end (nav ?_) <;> try dsimp only)
  first | refine cCd (fun hb10 => ?_) (fun hb10 => ?_) | refine cC (fun hb10 => ?_) (fun hb10 => ?_)
  · rw [hv] at hb10; simp at hb10
  · refine nav ?_
    (refine aC_region ?_
      <;> (refine yL 13 (q_ldao 1 tAgg25_LfL) fun v13 hv13 => ?_; cases hv13)
      <;> (refine aL_ch [1, 2] 14 (Tryz.call84) (r07Subsets_none h hs _) ?_; rintro _ _ _ ⟨⟨V1, rfl⟩, rfl, rfl⟩)
      <;> refine xL 12 q_move ?_
      <;> refine xL 15 q_extract ?_
      <;> refine xL 16 q_extract ?_
      <;> refine s_alloc [(.int .i64 0), (.slice none 0 0), (.slice none 0 0)] 3 4 tZr100_LfL fun h4 => ?_
      <;> refine s_sta 4 tAgg100_LfL ?_
      <;> refine xL 5 q_assign ?_
      <;> refine aL_end (nav ?_) <;> try dsimp only)
    (refine aC_region ?_
      <;> refine xL 17 q_move ?_
      <;> refine xL 18 q_not ?_
      <;> refine aL_end (nav ?_) <;> try dsimp only)
    refine cCt ?_
    refine nav ?_
    (refine aC_region ?_
      <;> (refine cP 19 (cA Tryz.call75 (r07limit_e)) fun va19 vb19 hva19 hvb19 => ?_; cases hvb19)
      <;> refine xL 20 q_extract ?_
      <;> refine xL 21 q_extract ?_
      <;> refine s_sta 2 tAgg25_LfL ?_
      <;> refine xL 3 q_assign ?_
      <;> refine aL_end (nav ?_) <;> try dsimp only)
    exact ret_cs (k := 5) 2 (by kernel_rfl) (Tryz.results27) rfl rfl rfl (Nat.le_of_ble_eq_true rfl) (by decide) rfl rfl
theorem r07Minimal_lim (a : Aut) (hml : a.moves.length ≤ 1000000) (hv : autOk a = true) {t : Tab} (hs : subT a = some t) (hl : AF Tryz.prog 74 [pTabR t] (· = .tup [rawZ, pBool false])) : AF Tryz.prog 27 [pAut a] (· = .tup [rawZ, pInt 13]) := by
  have h := aok_of hv
  refine AF.of_body 33 Tryz.func27 rfl Tryz.ntmps27 (Nat.le_of_ble_eq_true rfl) ?_
  intro w0 M0 vs hl hv
  obtain ⟨v0, rfl⟩ := len1 hl
  clear hl hv
  refine nav ?_
  (refine aC_region ?_
    <;> refine s_boxa 1 5 fun h1 => ?_
    <;> refine s_alloc [(.int .i64 0), (.int .i64 0), (.slice none 0 0), (.slice none 0 0), (.slice none 0 0)] 5 2 tZr25_LfL fun h2 => ?_
    <;> refine xL 3 q_assign ?_
    <;> refine aL_end (nav ?_) <;> try dsimp only)
  (refine aC_region ?_
    <;> (refine yL 8 (q_ldao 1 tAgg25_LfL) fun v8 hv8 => ?_; cases hv8)
    <;> (refine cS 9 (cA Tryz.call25 (r07Valid_e a hml)) fun v9 hv9 => ?_; cases hv9)
    <;> refine xL 10 q_not ?_
    <;> refine aL_end (nav ?_) <;> try dsimp only)
  first | refine cCd (fun hb10 => ?_) (fun hb10 => ?_) | refine cC (fun hb10 => ?_) (fun hb10 => ?_)
  · rw [hv] at hb10; simp at hb10
  · refine nav ?_
    (refine aC_region ?_
      <;> (refine yL 13 (q_ldao 1 tAgg25_LfL) fun v13 hv13 => ?_; cases hv13)
      <;> (refine aL_ch [1, 2] 14 (Tryz.call84) (r07Subsets_some h hs _) ?_; rintro _ _ _ ⟨hF, V1, hFo, rfl, rfl, rfl⟩; have hone : En.one (PV.val hF) = true := hFo)
      <;> refine xL 12 q_move ?_
      <;> refine xL 15 q_extract ?_
      <;> refine xL 16 q_extract ?_
      <;> refine s_alloc [(.int .i64 0), (.slice none 0 0), (.slice none 0 0)] 3 4 tZr100_LfL fun h4 => ?_
      <;> refine s_sta 4 tAgg100_LfL ?_
      <;> refine xL 5 q_assign ?_
      <;> refine aL_end (nav ?_) <;> try dsimp only)
    (refine aC_region ?_
      <;> refine xL 17 q_move ?_
      <;> refine xL 18 q_not ?_
      <;> refine aL_end (nav ?_) <;> try dsimp only)
    refine cCf ?_
    refine nav ?_
    refine aC_ent (freezeCell (l := 4) (l' := 1000) (j := 1) rfl rfl rfl rfl) fun _ => ?_
    rw [share_boolss _ _ _ rfl]
    (refine aC_region ?_
      <;> (refine yL 23 (q_ldao 4 tAgg100_LfL) fun v23 hv23 => ?_; cases hv23)
      <;> (refine cP 24 (cA Tryz.call74 (hl)) fun va24 vb24 hva24 hvb24 => ?_; cases hvb24)
      <;> refine xL 22 q_move ?_
      <;> refine xL 25 q_extract ?_
      <;> refine xL 26 q_extract ?_
      <;> refine s_alloc [(.int .i64 0), (.int .i64 0), (.slice none 0 0), (.slice none 0 0), (.slice none 0 0)] 5 6 tZr25_LfL fun h6 => ?_
      <;> refine s_sta 6 tAgg25_LfL ?_
      <;> refine xL 7 q_assign ?_
      <;> refine aL_end (nav ?_) <;> try dsimp only)
    (refine aC_region ?_
      <;> refine xL 27 q_move ?_
      <;> refine xL 28 q_not ?_
      <;> refine aL_end (nav ?_) <;> try dsimp only)
    refine cCt ?_
    refine nav ?_
    (refine aC_region ?_
      <;> (refine cP 29 (cA Tryz.call75 (r07limit_e)) fun va29 vb29 hva29 hvb29 => ?_; cases hvb29)
      <;> refine xL 30 q_extract ?_
      <;> refine xL 31 q_extract ?_
      <;> refine s_sta 2 tAgg25_LfL ?_
      <;> refine xL 3 q_assign ?_
      <;> refine aL_end (nav ?_) <;> try dsimp only)
    exact ret_cs (k := 5) 2 (by kernel_rfl) (Tryz.results27) rfl rfl rfl (Nat.le_of_ble_eq_true rfl) (by decide) rfl rfl
theorem r07Minimal_ok (a : Aut) (hml : a.moves.length ≤ 1000000) (hv : autOk a = true) {t : Tab} (hs : subT a = some t) {A : Aut} (hl : AF Tryz.prog 74 [pTabR t] (· = .tup [pAut A, pBool true])) : AF Tryz.prog 27 [pAut a] (· = .tup [pAut A, pInt 0]) := by
  have h := aok_of hv
  refine AF.of_body 33 Tryz.func27 rfl Tryz.ntmps27 (Nat.le_of_ble_eq_true rfl) ?_
  intro w0 M0 vs hl hv
  obtain ⟨v0, rfl⟩ := len1 hl
  clear hl hv
  refine nav ?_
  (refine aC_region ?_
    <;> refine s_boxa 1 5 fun h1 => ?_
    <;> refine s_alloc [(.int .i64 0), (.int .i64 0), (.slice none 0 0), (.slice none 0 0), (.slice none 0 0)] 5 2 tZr25_LfL fun h2 => ?_
    <;> refine xL 3 q_assign ?_
    <;> refine aL_end (nav ?_) <;> try dsimp only)
  (refine aC_region ?_
    <;> (refine yL 8 (q_ldao 1 tAgg25_LfL) fun v8 hv8 => ?_; cases hv8)
    <;> (refine cS 9 (cA Tryz.call25 (r07Valid_e a hml)) fun v9 hv9 => ?_; cases hv9)
    <;> refine xL 10 q_not ?_
    <;> refine aL_end (nav ?_) <;> try dsimp only)
  first | refine cCd (fun hb10 => ?_) (fun hb10 => ?_) | refine cC (fun hb10 => ?_) (fun hb10 => ?_)
  · rw [hv] at hb10; simp at hb10
  · refine nav ?_
    (refine aC_region ?_
      <;> (refine yL 13 (q_ldao 1 tAgg25_LfL) fun v13 hv13 => ?_; cases hv13)
      <;> (refine aL_ch [1, 2] 14 (Tryz.call84) (r07Subsets_some h hs _) ?_; rintro _ _ _ ⟨hF, V1, hFo, rfl, rfl, rfl⟩; have hone : En.one (PV.val hF) = true := hFo)
      <;> refine xL 12 q_move ?_
      <;> refine xL 15 q_extract ?_
      <;> refine xL 16 q_extract ?_
      <;> refine s_alloc [(.int .i64 0), (.slice none 0 0), (.slice none 0 0)] 3 4 tZr100_LfL fun h4 => ?_
      <;> refine s_sta 4 tAgg100_LfL ?_
      <;> refine xL 5 q_assign ?_
      <;> refine aL_end (nav ?_) <;> try dsimp only)
    (refine aC_region ?_
      <;> refine xL 17 q_move ?_
      <;> refine xL 18 q_not ?_
      <;> refine aL_end (nav ?_) <;> try dsimp only)
    refine cCf ?_
    refine nav ?_
    refine aC_ent (freezeCell (l := 4) (l' := 1000) (j := 1) rfl rfl rfl rfl) fun _ => ?_
    rw [share_boolss _ _ _ rfl]
    (refine aC_region ?_
      <;> (refine yL 23 (q_ldao 4 tAgg100_LfL) fun v23 hv23 => ?_; cases hv23)
      <;> (refine cP 24 (cA Tryz.call74 (hl)) fun va24 vb24 hva24 hvb24 => ?_; cases hvb24)
      <;> refine xL 22 q_move ?_
      <;> refine xL 25 q_extract ?_
      <;> refine xL 26 q_extract ?_
      <;> refine s_alloc [(.int .i64 0), (.int .i64 0), (.slice none 0 0), (.slice none 0 0), (.slice none 0 0)] 5 6 tZr25_LfL fun h6 => ?_
      <;> refine s_sta 6 tAgg25_LfL ?_
      <;> refine xL 7 q_assign ?_
      <;> refine aL_end (nav ?_) <;> try dsimp only)
    (refine aC_region ?_
      <;> refine xL 27 q_move ?_
      <;> refine xL 28 q_not ?_
      <;> refine aL_end (nav ?_) <;> try dsimp only)
    refine cCf ?_
    refine nav ?_
    (refine aC_region ?_
      <;> (refine yL 32 (q_ldao 6 tAgg25_LfL) fun v32 hv32 => ?_; cases hv32)
      <;> refine s_sta 2 tAgg25_LfL ?_
      <;> refine xL 3 q_assign ?_
      <;> refine aL_end (nav ?_) <;> try dsimp only)
    exact ret_cs (k := 5) 2 (by kernel_rfl) (Tryz.results27) rfl rfl rfl (Nat.le_of_ble_eq_true rfl) (by decide) rfl rfl
theorem least_some {t : Tab} {A : Aut} (h : leastT t = some A) (ht : TOk t) : AF Tryz.prog 74 [pTabR t] (· = .tup [pAut A, pBool true]) := (r07Least_e t ht).mono fun p hp => by
  rcases hp with ⟨B, h1, h2⟩ | ⟨h1, _⟩
  · rw [h] at h1; cases h1; exact h2
  · rw [h] at h1; cases h1
theorem least_none {t : Tab} (h : leastT t = none) (ht : TOk t) : AF Tryz.prog 74 [pTabR t] (· = .tup [rawZ, pBool false]) := (r07Least_e t ht).mono fun p hp => by
  rcases hp with ⟨B, h1, h2⟩ | ⟨_, h1⟩
  · rw [h] at h1; cases h1
  · exact h1
theorem r07Minimal_e (a : Aut) (hml : a.moves.length ≤ 1000000) : AF Tryz.prog 27 [pAut a] (· = resW (minX a)) := by
  unfold minX
  cases hv : autOk a with
  | false => rw [if_neg (by simp)]; exact r07Minimal_bad a hml hv
  | true =>
    rw [if_pos rfl]
    have h := aok_of hv
    cases hs : subT a with
    | none => rw [redX_none hs]; exact r07Minimal_none a hml hv hs
    | some t =>
      rw [redX_some hs]
      have ht := sub_tok h hs
      cases hl : leastT t with
      | none => exact r07Minimal_lim a hml hv hs (least_none hl ht)
      | some A => exact r07Minimal_ok a hml hv hs (least_some hl ht)
theorem r07Complement_bad (a : Aut) (hml : a.moves.length ≤ 1000000) (hv : autOk a = false) : AF Tryz.prog 29 [pAut a] (· = .tup [rawZ, pInt 1]) := by
  refine AF.of_body 51 Tryz.func29 rfl Tryz.ntmps29 (Nat.le_of_ble_eq_true rfl) ?_
  intro w0 M0 vs hl hv
  obtain ⟨v0, rfl⟩ := len1 hl
  clear hl hv
  refine nav ?_
  (refine aC_region ?_
    <;> refine s_boxa 1 5 fun h1 => ?_
    <;> refine s_alloc [(.int .i64 0), (.int .i64 0), (.slice none 0 0), (.slice none 0 0), (.slice none 0 0)] 5 2 tZr25_LfL fun h2 => ?_
    <;> refine xL 3 q_assign ?_
    <;> refine aL_end (nav ?_) <;> try dsimp only)
  (refine aC_region ?_
    <;> (refine yL 9 (q_ldao 1 tAgg25_LfL) fun v9 hv9 => ?_; cases hv9)
    <;> (refine cS 10 (cA Tryz.call25 (r07Valid_e a hml)) fun v10 hv10 => ?_; cases hv10)
    <;> refine xL 11 q_not ?_
    <;> refine aL_end (nav ?_) <;> try dsimp only)
  first | refine cCd (fun hb11 => ?_) (fun hb11 => ?_) | refine cC (fun hb11 => ?_) (fun hb11 => ?_)
  · refine nav ?_
    (refine aC_region ?_
      <;> refine xL 12 (q_build tSt25_LfL) ?_
      <;> refine s_sta 2 tAgg25_LfL ?_
      <;> refine xL 3 q_assign ?_
      <;> refine aL_end (nav ?_) <;> try dsimp only)
    exact ret_cs (k := 5) 2 (by kernel_rfl) (Tryz.results29) rfl rfl rfl (Nat.le_of_ble_eq_true rfl) (by decide) rfl rfl
  · rw [hv] at hb11; simp at hb11
theorem r07Complement_none (a : Aut) (hml : a.moves.length ≤ 1000000) (hv : autOk a = true) (hs : subT a = none) : AF Tryz.prog 29 [pAut a] (· = .tup [rawZ, pInt 13]) := by
  have h := aok_of hv
  refine AF.of_body 51 Tryz.func29 rfl Tryz.ntmps29 (Nat.le_of_ble_eq_true rfl) ?_
  intro w0 M0 vs hl hv
  obtain ⟨v0, rfl⟩ := len1 hl
  clear hl hv
  refine nav ?_
  (refine aC_region ?_
    <;> refine s_boxa 1 5 fun h1 => ?_
    <;> refine s_alloc [(.int .i64 0), (.int .i64 0), (.slice none 0 0), (.slice none 0 0), (.slice none 0 0)] 5 2 tZr25_LfL fun h2 => ?_
    <;> refine xL 3 q_assign ?_
    <;> refine aL_end (nav ?_) <;> try dsimp only)
  (refine aC_region ?_
    <;> (refine yL 9 (q_ldao 1 tAgg25_LfL) fun v9 hv9 => ?_; cases hv9)
    <;> (refine cS 10 (cA Tryz.call25 (r07Valid_e a hml)) fun v10 hv10 => ?_; cases hv10)
    <;> refine xL 11 q_not ?_
    <;> refine aL_end (nav ?_) <;> try dsimp only)
  first | refine cCd (fun hb11 => ?_) (fun hb11 => ?_) | refine cC (fun hb11 => ?_) (fun hb11 => ?_)
  · rw [hv] at hb11; simp at hb11
  · refine nav ?_
    (refine aC_region ?_
      <;> (refine yL 14 (q_ldao 1 tAgg25_LfL) fun v14 hv14 => ?_; cases hv14)
      <;> (refine aL_ch [1, 2] 15 (Tryz.call84) (r07Subsets_none h hs _) ?_; rintro _ _ _ ⟨⟨V1, rfl⟩, rfl, rfl⟩)
      <;> refine xL 13 q_move ?_
      <;> refine xL 16 q_extract ?_
      <;> refine xL 17 q_extract ?_
      <;> refine s_alloc [(.int .i64 0), (.slice none 0 0), (.slice none 0 0)] 3 4 tZr100_LfL fun h4 => ?_
      <;> refine s_sta 4 tAgg100_LfL ?_
      <;> refine xL 5 q_assign ?_
      <;> refine aL_end (nav ?_) <;> try dsimp only)
    (refine aC_region ?_
      <;> refine xL 18 q_move ?_
      <;> refine xL 19 q_not ?_
      <;> refine aL_end (nav ?_) <;> try dsimp only)
    refine cCt ?_
    refine nav ?_
    (refine aC_region ?_
      <;> (refine cP 20 (cA Tryz.call75 (r07limit_e)) fun va20 vb20 hva20 hvb20 => ?_; cases hvb20)
      <;> refine xL 21 q_extract ?_
      <;> refine xL 22 q_extract ?_
      <;> refine s_sta 2 tAgg25_LfL ?_
      <;> refine xL 3 q_assign ?_
      <;> refine aL_end (nav ?_) <;> try dsimp only)
    exact ret_cs (k := 5) 2 (by kernel_rfl) (Tryz.results29) rfl rfl rfl (Nat.le_of_ble_eq_true rfl) (by decide) rfl rfl
theorem r07Complement_lim (a : Aut) (hml : a.moves.length ≤ 1000000) (hv : autOk a = true) {t : Tab} (hs : subT a = some t) (hl : AF Tryz.prog 74 [pTabR (flipT t)] (· = .tup [rawZ, pBool false])) : AF Tryz.prog 29 [pAut a] (· = .tup [rawZ, pInt 13]) := by
  have h := aok_of hv
  have ht := sub_tok h hs
  have hn1 := ht.n1
  have hfl := ht.fl
  refine AF.of_body 51 Tryz.func29 rfl Tryz.ntmps29 (Nat.le_of_ble_eq_true rfl) ?_
  intro w0 M0 vs hl hv
  obtain ⟨v0, rfl⟩ := len1 hl
  clear hl hv
  refine nav ?_
  (refine aC_region ?_
    <;> refine s_boxa 1 5 fun h1 => ?_
    <;> refine s_alloc [(.int .i64 0), (.int .i64 0), (.slice none 0 0), (.slice none 0 0), (.slice none 0 0)] 5 2 tZr25_LfL fun h2 => ?_
    <;> refine xL 3 q_assign ?_
    <;> refine aL_end (nav ?_) <;> try dsimp only)
  (refine aC_region ?_
    <;> (refine yL 9 (q_ldao 1 tAgg25_LfL) fun v9 hv9 => ?_; cases hv9)
    <;> (refine cS 10 (cA Tryz.call25 (r07Valid_e a hml)) fun v10 hv10 => ?_; cases hv10)
    <;> refine xL 11 q_not ?_
    <;> refine aL_end (nav ?_) <;> try dsimp only)
  first | refine cCd (fun hb11 => ?_) (fun hb11 => ?_) | refine cC (fun hb11 => ?_) (fun hb11 => ?_)
  · rw [hv] at hb11; simp at hb11
  · refine nav ?_
    (refine aC_region ?_
      <;> (refine yL 14 (q_ldao 1 tAgg25_LfL) fun v14 hv14 => ?_; cases hv14)
      <;> (refine aL_ch [1, 2] 15 (Tryz.call84) (r07Subsets_some h hs _) ?_; rintro _ _ _ ⟨hF, V1, hFo, rfl, rfl, rfl⟩; have hone : En.one (PV.val hF) = true := hFo)
      <;> refine xL 13 q_move ?_
      <;> refine xL 16 q_extract ?_
      <;> refine xL 17 q_extract ?_
      <;> refine s_alloc [(.int .i64 0), (.slice none 0 0), (.slice none 0 0)] 3 4 tZr100_LfL fun h4 => ?_
      <;> refine s_sta 4 tAgg100_LfL ?_
      <;> refine xL 5 q_assign ?_
      <;> refine aL_end (nav ?_) <;> try dsimp only)
    (refine aC_region ?_
      <;> refine xL 18 q_move ?_
      <;> refine xL 19 q_not ?_
      <;> refine aL_end (nav ?_) <;> try dsimp only)
    refine cCf ?_
    refine nav ?_
    (refine aC_region ?_
      <;> refine xL 6 q_assign ?_
      <;> refine aL_end (nav ?_) <;> try dsimp only)
    refine aC_ent (recast (l := 1000) (p' := .own 4 1 t.fin.length ((flipK t.fin 0).map pBool)) rfl rfl) fun _ => ?_
    refine aC_loop (ι := { k : Nat // k ≤ t.fin.length }) (fun k => ⟨[(1, _, _), (2, _, _), (3, _, _), (4, _, _), (6, .int .i64 k.1, pInt k.1)], [(1, _, _), (2, _, _), (4, _, _), (1000, hF, .own 4 1 t.fin.length ((flipK t.fin k.1).map pBool))]⟩) (fun k => t.fin.length - k.1) ⟨0, Nat.zero_le _⟩ (fun a w H => H.weaken ⟨rfl, rfl, rfl, rfl, rfl, trivial⟩ ⟨rfl, rfl, rfl, rfl, trivial⟩) ?_
    rintro ⟨k, hk⟩
    dsimp only
    refine nav ?_
    (refine aC_region ?_
      <;> refine xL 23 q_move ?_
      <;> refine xL 24 (q_fldo 4 tFl100_1_LfL) ?_
      <;> (refine yL 25 (q_ldo 4 tNa66_LfL) fun v25 hv25 => ?_; cases hv25)
      <;> refine xL 26 (q_leno 1000 tSl66_LfL) ?_
      <;> refine xL 27 q_lss ?_
      <;> refine aL_end (nav ?_) <;> try dsimp only)
    first | refine cCd (fun hb27 => ?_) (fun hb27 => ?_) | refine cC (fun hb27 => ?_) (fun hb27 => ?_)
    · first
      | exact Bool.noConfusion hb27
      | (
       obtain ⟨b, hb⟩ := get_some (show k < t.fin.length by omega)
       have e1 := map_at (f := pBool) (flipK_get hb)
       have e2 := flipK_len t.fin k
       refine nav ?_
       (refine aC_draw (fun i => ([10] : List Nat).elem i) [4, 1000] (by kernel_rfl) ?_
         <;> refine xD 0 30 rfl (q_fldo 4 tFl100_1_LfL) ?_
         <;> (refine yD 1 31 rfl (q_ldo 4 tNa66_LfL) fun v31 hv31 => ?_; cases hv31)
         <;> refine xD 2 32 rfl q_move ?_
         <;> refine xD 3 33 rfl (q_fldo 4 tFl100_1_LfL) ?_
         <;> (refine yD 4 34 rfl (q_ldo 4 tNa66_LfL) fun v34 hv34 => ?_; cases hv34)
         <;> refine xE 5 35 rfl q_move ?_
         <;> refine xE 6 36 rfl (q_idxoN 1000 tSl66_LfL) ?_
         <;> (refine yE 7 37 rfl (q_ldo 1000 tNa4_LfL) fun v37 hv37 => ?_; cases hv37)
         <;> refine xE 8 38 rfl q_not ?_
         <;> refine xE 9 39 rfl (q_idxoN 1000 tSl66_LfL) ?_
         <;> (refine aD_one 10 (by kernel_rfl) ?_)
         <;> (refine aW_last rfl rfl (by kernel_rfl) fun DQ back => ?_)
         <;> refine s_st 1000 tNa4_LfL tSz4_LfL ?_
         <;> refine aL_end (back _ (nav ?_))
         <;> try dsimp only)
       (refine aC_region ?_
         <;> refine xL 28 q_move ?_
         <;> refine xL 29 q_add ?_
         <;> refine xL 6 q_assign ?_
         <;> refine aL_end (nav ?_) <;> try dsimp only)
       rw [flipK_setP hb]
       refine aN_again (
         ⟨k + 1, lt_of_get hb⟩
         ) (by dsimp only; omega) ⟨rfl, rfl, rfl, rfl, rfl, trivial⟩ ⟨rfl, rfl, rfl, rfl, trivial⟩)
    · first
      | exact Bool.noConfusion hb27
      | (
       have hkn : k = t.fin.length := by omega
       subst hkn
       rw [flipK_all]
       refine nav ?_
       refine aC_ent (freezeCell (l := 4) (l' := 1000) (j := 1) rfl rfl rfl rfl) fun _ => ?_
       rw [share_boolss _ _ _ (by rw [List.length_map])]
       (refine aC_region ?_
         <;> (refine yL 41 (q_ldao 4 tAgg100_LfL) fun v41 hv41 => ?_; cases hv41)
         <;> (refine cP 42 (cA Tryz.call74 (hl)) fun va42 vb42 hva42 hvb42 => ?_; cases hvb42)
         <;> refine xL 40 q_move ?_
         <;> refine xL 43 q_extract ?_
         <;> refine xL 44 q_extract ?_
         <;> refine s_alloc [(.int .i64 0), (.int .i64 0), (.slice none 0 0), (.slice none 0 0), (.slice none 0 0)] 5 7 tZr25_LfL fun h7 => ?_
         <;> refine s_sta 7 tAgg25_LfL ?_
         <;> refine xL 8 q_assign ?_
         <;> refine aL_end (nav ?_) <;> try dsimp only)
       (refine aC_region ?_
         <;> refine xL 45 q_move ?_
         <;> refine xL 46 q_not ?_
         <;> refine aL_end (nav ?_) <;> try dsimp only)
       refine cCt ?_
       refine nav ?_
       (refine aC_region ?_
         <;> (refine cP 47 (cA Tryz.call75 (r07limit_e)) fun va47 vb47 hva47 hvb47 => ?_; cases hvb47)
         <;> refine xL 48 q_extract ?_
         <;> refine xL 49 q_extract ?_
         <;> refine s_sta 2 tAgg25_LfL ?_
         <;> refine xL 3 q_assign ?_
         <;> refine aL_end (nav ?_) <;> try dsimp only)
       exact ret_cs (k := 5) 2 (by kernel_rfl) (Tryz.results29) rfl rfl rfl (Nat.le_of_ble_eq_true rfl) (by decide) rfl rfl)
theorem r07Complement_ok (a : Aut) (hml : a.moves.length ≤ 1000000) (hv : autOk a = true) {t : Tab} (hs : subT a = some t) {A : Aut} (hl : AF Tryz.prog 74 [pTabR (flipT t)] (· = .tup [pAut A, pBool true])) : AF Tryz.prog 29 [pAut a] (· = .tup [pAut A, pInt 0]) := by
  have h := aok_of hv
  have ht := sub_tok h hs
  have hn1 := ht.n1
  have hfl := ht.fl
  refine AF.of_body 51 Tryz.func29 rfl Tryz.ntmps29 (Nat.le_of_ble_eq_true rfl) ?_
  intro w0 M0 vs hl hv
  obtain ⟨v0, rfl⟩ := len1 hl
  clear hl hv
  refine nav ?_
  (refine aC_region ?_
    <;> refine s_boxa 1 5 fun h1 => ?_
    <;> refine s_alloc [(.int .i64 0), (.int .i64 0), (.slice none 0 0), (.slice none 0 0), (.slice none 0 0)] 5 2 tZr25_LfL fun h2 => ?_
    <;> refine xL 3 q_assign ?_
    <;> refine aL_end (nav ?_) <;> try dsimp only)
  (refine aC_region ?_
    <;> (refine yL 9 (q_ldao 1 tAgg25_LfL) fun v9 hv9 => ?_; cases hv9)
    <;> (refine cS 10 (cA Tryz.call25 (r07Valid_e a hml)) fun v10 hv10 => ?_; cases hv10)
    <;> refine xL 11 q_not ?_
    <;> refine aL_end (nav ?_) <;> try dsimp only)
  first | refine cCd (fun hb11 => ?_) (fun hb11 => ?_) | refine cC (fun hb11 => ?_) (fun hb11 => ?_)
  · rw [hv] at hb11; simp at hb11
  · refine nav ?_
    (refine aC_region ?_
      <;> (refine yL 14 (q_ldao 1 tAgg25_LfL) fun v14 hv14 => ?_; cases hv14)
      <;> (refine aL_ch [1, 2] 15 (Tryz.call84) (r07Subsets_some h hs _) ?_; rintro _ _ _ ⟨hF, V1, hFo, rfl, rfl, rfl⟩; have hone : En.one (PV.val hF) = true := hFo)
      <;> refine xL 13 q_move ?_
      <;> refine xL 16 q_extract ?_
      <;> refine xL 17 q_extract ?_
      <;> refine s_alloc [(.int .i64 0), (.slice none 0 0), (.slice none 0 0)] 3 4 tZr100_LfL fun h4 => ?_
      <;> refine s_sta 4 tAgg100_LfL ?_
      <;> refine xL 5 q_assign ?_
      <;> refine aL_end (nav ?_) <;> try dsimp only)
    (refine aC_region ?_
      <;> refine xL 18 q_move ?_
      <;> refine xL 19 q_not ?_
      <;> refine aL_end (nav ?_) <;> try dsimp only)
    refine cCf ?_
    refine nav ?_
    (refine aC_region ?_
      <;> refine xL 6 q_assign ?_
      <;> refine aL_end (nav ?_) <;> try dsimp only)
    refine aC_ent (recast (l := 1000) (p' := .own 4 1 t.fin.length ((flipK t.fin 0).map pBool)) rfl rfl) fun _ => ?_
    refine aC_loop (ι := { k : Nat // k ≤ t.fin.length }) (fun k => ⟨[(1, _, _), (2, _, _), (3, _, _), (4, _, _), (6, .int .i64 k.1, pInt k.1)], [(1, _, _), (2, _, _), (4, _, _), (1000, hF, .own 4 1 t.fin.length ((flipK t.fin k.1).map pBool))]⟩) (fun k => t.fin.length - k.1) ⟨0, Nat.zero_le _⟩ (fun a w H => H.weaken ⟨rfl, rfl, rfl, rfl, rfl, trivial⟩ ⟨rfl, rfl, rfl, rfl, trivial⟩) ?_
    rintro ⟨k, hk⟩
    dsimp only
    refine nav ?_
    (refine aC_region ?_
      <;> refine xL 23 q_move ?_
      <;> refine xL 24 (q_fldo 4 tFl100_1_LfL) ?_
      <;> (refine yL 25 (q_ldo 4 tNa66_LfL) fun v25 hv25 => ?_; cases hv25)
      <;> refine xL 26 (q_leno 1000 tSl66_LfL) ?_
      <;> refine xL 27 q_lss ?_
      <;> refine aL_end (nav ?_) <;> try dsimp only)
    first | refine cCd (fun hb27 => ?_) (fun hb27 => ?_) | refine cC (fun hb27 => ?_) (fun hb27 => ?_)
    · first
      | exact Bool.noConfusion hb27
      | (
       obtain ⟨b, hb⟩ := get_some (show k < t.fin.length by omega)
       have e1 := map_at (f := pBool) (flipK_get hb)
       have e2 := flipK_len t.fin k
       refine nav ?_
       (refine aC_draw (fun i => ([10] : List Nat).elem i) [4, 1000] (by kernel_rfl) ?_
         <;> refine xD 0 30 rfl (q_fldo 4 tFl100_1_LfL) ?_
         <;> (refine yD 1 31 rfl (q_ldo 4 tNa66_LfL) fun v31 hv31 => ?_; cases hv31)
         <;> refine xD 2 32 rfl q_move ?_
         <;> refine xD 3 33 rfl (q_fldo 4 tFl100_1_LfL) ?_
         <;> (refine yD 4 34 rfl (q_ldo 4 tNa66_LfL) fun v34 hv34 => ?_; cases hv34)
         <;> refine xE 5 35 rfl q_move ?_
         <;> refine xE 6 36 rfl (q_idxoN 1000 tSl66_LfL) ?_
         <;> (refine yE 7 37 rfl (q_ldo 1000 tNa4_LfL) fun v37 hv37 => ?_; cases hv37)
         <;> refine xE 8 38 rfl q_not ?_
         <;> refine xE 9 39 rfl (q_idxoN 1000 tSl66_LfL) ?_
         <;> (refine aD_one 10 (by kernel_rfl) ?_)
         <;> (refine aW_last rfl rfl (by kernel_rfl) fun DQ back => ?_)
         <;> refine s_st 1000 tNa4_LfL tSz4_LfL ?_
         <;> refine aL_end (back _ (nav ?_))
         <;> try dsimp only)
       (refine aC_region ?_
         <;> refine xL 28 q_move ?_
         <;> refine xL 29 q_add ?_
         <;> refine xL 6 q_assign ?_
         <;> refine aL_end (nav ?_) <;> try dsimp only)
       rw [flipK_setP hb]
       refine aN_again (
         ⟨k + 1, lt_of_get hb⟩
         ) (by dsimp only; omega) ⟨rfl, rfl, rfl, rfl, rfl, trivial⟩ ⟨rfl, rfl, rfl, rfl, trivial⟩)
    · first
      | exact Bool.noConfusion hb27
      | (
       have hkn : k = t.fin.length := by omega
       subst hkn
       rw [flipK_all]
       refine nav ?_
       refine aC_ent (freezeCell (l := 4) (l' := 1000) (j := 1) rfl rfl rfl rfl) fun _ => ?_
       rw [share_boolss _ _ _ (by rw [List.length_map])]
       (refine aC_region ?_
         <;> (refine yL 41 (q_ldao 4 tAgg100_LfL) fun v41 hv41 => ?_; cases hv41)
         <;> (refine cP 42 (cA Tryz.call74 (hl)) fun va42 vb42 hva42 hvb42 => ?_; cases hvb42)
         <;> refine xL 40 q_move ?_
         <;> refine xL 43 q_extract ?_
         <;> refine xL 44 q_extract ?_
         <;> refine s_alloc [(.int .i64 0), (.int .i64 0), (.slice none 0 0), (.slice none 0 0), (.slice none 0 0)] 5 7 tZr25_LfL fun h7 => ?_
         <;> refine s_sta 7 tAgg25_LfL ?_
         <;> refine xL 8 q_assign ?_
         <;> refine aL_end (nav ?_) <;> try dsimp only)
       (refine aC_region ?_
         <;> refine xL 45 q_move ?_
         <;> refine xL 46 q_not ?_
         <;> refine aL_end (nav ?_) <;> try dsimp only)
       refine cCf ?_
       refine nav ?_
       (refine aC_region ?_
         <;> (refine yL 50 (q_ldao 7 tAgg25_LfL) fun v50 hv50 => ?_; cases hv50)
         <;> refine s_sta 2 tAgg25_LfL ?_
         <;> refine xL 3 q_assign ?_
         <;> refine aL_end (nav ?_) <;> try dsimp only)
       exact ret_cs (k := 5) 2 (by kernel_rfl) (Tryz.results29) rfl rfl rfl (Nat.le_of_ble_eq_true rfl) (by decide) rfl rfl)
theorem r07Complement_e (a : Aut) (hml : a.moves.length ≤ 1000000) : AF Tryz.prog 29 [pAut a] (· = resW (compX a)) := by
  unfold compX minX
  cases hv : autOk a with
  | false => rw [if_neg (by simp)]; exact r07Complement_bad a hml hv
  | true =>
    rw [if_pos rfl]
    have h := aok_of hv
    cases hs : subT a with
    | none => rw [redX_none hs]; exact r07Complement_none a hml hv hs
    | some t =>
      rw [redX_some hs]
      have ht := sub_tok h hs
      have hfl := leastT_flip ht
      cases hl : leastT t with
      | none => rw [hl] at hfl; exact r07Complement_lim a hml hv hs (least_none hfl (flipT_ok ht))
      | some A => rw [hl] at hfl; exact r07Complement_ok a hml hv hs (least_some hfl (flipT_ok ht))
end Go.Proofs.YtgigclnaicbiaaaGreatDoor

namespace Go.Proofs.YtgigclnaicbiaaaGreatDoor
open Go.RowKit Go.Cb Go.En
set_option linter.all false
set_option maxRecDepth 100000

theorem tAgg72_LfM : AggT Tryz.prog 72 3 = true := by kernel_rfl
theorem tEl23_LfM : ElT Tryz.prog 23 72 3 24 (.agg #[(.int .i64 0), (.int .i64 0), (.int .i64 0)]) := ⟨Tryz.underlying23, by kernel_rfl, rfl, by decide⟩
theorem tSl23_LfM : SlT Tryz.prog 23 72 3 = true := by kernel_rfl

theorem aL_sort0 {P : Program} {c : Ctx} {sL hP : List (Nat × Ent)} {ops : Array Oper} {Q : Exit → Act → World → Prop} {o : Oper} {rest : List Oper} {fs g k e d l : Nat} {cs : List PV} {h : Value} {q q' : PV} {x y : Operand} {ats : Array TypeId} (hS : ∀ (p : Option Addr) (cap : Nat) (fv : Value) (w : World), Calls P fs #[.slice p 0 cap, fv] w fun e w' => e = .returned (.tuple #[]) ∧ w' = w)
    (hw : wants ops sL o = some true) (hd : o.dst = some d) (hdn : d < c.nt) (ho : o.op = .call { callee := .value (.func fs), args := #[x, y], argTypes := ats }) (hc : ∀ args w, (callFunc fs args).run P w = .ok (.enter fs args) w) (hx : ev sL x = some (h, q)) (hy : ev sL y = some (.func (.func g) #[] #[], q')) (hl : lk hP l = some (h, .own e k 0 cs))
    (kk : aL P c ops Q rest ⟨put d (.tuple #[], .val (.tuple #[])) sL, hP⟩) : aL P c ops Q (o :: rest) (⟨sL, hP⟩ : St) :=
  aL_run hw fun a w F H => by
    have hxv := (H.rd.ev hx).1
    have hyv := (H.rd.ev hy).1
    obtain ⟨xs, Fs, hrow, _⟩ := (H.tr l _ _ hl).row
    obtain ⟨p, cap, rfl⟩ : ∃ p cap, h = .slice p 0 cap := by
      rcases row_form hrow with ⟨h1, _⟩ | ⟨g, cap, h1, _⟩
      · exact ⟨_, _, h1⟩
      · exact ⟨_, _, h1⟩
    unfold Oper.wp
    have hrun : (execOp a.eval o).run P w = .ok (.enter fs #[.slice p 0 cap, .func (.func g) #[] #[]]) w := by
      have hev : a.eval (.func fs) = .func (.func fs) #[] #[] := rfl
      simp [execOp, ho, resolve, Deferred.ofValue, hev, invoke, hxv, hyv, hc]
    rw [hrun, Oper.upon_enter]
    refine (hS p cap _ w).mono fun e' w' ⟨he', hw'⟩ => ?_
    subst he' hw'
    rw [hd]
    exact kk _ _ ⟨F, H.put hdn (.val _)⟩
theorem mvCmp_lt {a b : Mv} : mvCmp a b < 0 ↔ mvLt a b = true := by unfold mvLt; rw [decide_eq_true_eq]
theorem mvCmp_irr (a : Mv) : ¬ mvCmp a a < 0 := fun h => by have := mvCmp_lt.1 h; rw [mvLt_irr] at this; cases this
theorem mvCmp_tr (a b c : Mv) (h1 : mvCmp a b < 0) (h2 : mvCmp b c < 0) : mvCmp a c < 0 := mvCmp_lt.2 (mvLt_tr (mvCmp_lt.1 h1) (mvCmp_lt.1 h2))
theorem mvCmp_nt (a b c : Mv) (h1 : ¬ mvCmp a b < 0) (h2 : ¬ mvCmp b c < 0) : ¬ mvCmp a c < 0 := fun h => by
  rw [mvCmp_lt, mvLt_iff] at h1 h2 h
  omega
def Sorted (l : List Mv) : Prop := ∀ (i j : Nat) (a b : Mv), i < j → l[i]? = some a → l[j]? = some b → ¬ mvCmp b a < 0
theorem sorted_asc {l : List Mv} (h : Sorted l) (hn : l.Nodup) : AscM l := by
  unfold AscM
  rw [List.pairwise_iff_getElem]
  intro i j hi hj hij
  have h1 := h i j l[i] l[j] hij (List.getElem?_eq_getElem hi) (List.getElem?_eq_getElem hj)
  rw [mvCmp_lt] at h1
  cases h2 : mvLt l[i] l[j] with
  | true => rfl
  | false =>
    have h3 := mvLt_tri h2 (by simpa using h1)
    exact absurd (List.getElem_inj hn |>.1 h3) (by omega)
theorem asc_next {l : List Mv} (h : AscM l) {k : Nat} {x y : Mv} (hy : l[k]? = some y) (hx : l[k + 1]? = some x) : eqM x y = false := by
  have h1 := List.pairwise_iff_getElem.1 h k (k + 1) (lt_of_get hy) (lt_of_get hx) (by omega)
  rw [(List.getElem?_eq_some_iff.1 hy).2, (List.getElem?_eq_some_iff.1 hx).2] at h1
  cases h2 : eqM x y with
  | false => rfl
  | true => rw [eqM_iff.1 h2, mvLt_irr] at h1; cases h1
theorem uMvS : Tryz.prog.underlying 72 = some (.struct (Tryz.prog.fieldsOf 72)) := by kernel_rfl
theorem hMvS : Tryz.prog.stoodInHeld 72 = false := by kernel_rfl
theorem gMvS : Tryz.prog.eqGuardType Tryz.prog.depth 72 = false := by kernel_rfl
def vMv (m : Mv) : List Value := [Value.int .i64 m.src, .int .i64 m.dst, .int .i64 m.sym]
theorem eqMv_runG (x y : Mv) (w : World) : (Op.eqFields 9999 (vMv x).toArray (vMv y).toArray (Tryz.prog.fieldsOf 72).toList).run Tryz.prog w = .ok (eqM x y) w := by
  unfold vMv eqM
  simp only [Program.fieldsOf, Tryz.underlying72]
  simp [Op.eqFields, part, run_equalIn_int w 9998 3 .i64 .i64 x.src y.src Tryz.underlying3, run_equalIn_int w 9998 3 .i64 .i64 x.dst y.dst Tryz.underlying3, run_equalIn_int w 9998 3 .i64 .i64 x.sym y.sym Tryz.underlying3]
  by_cases h1 : x.src = y.src <;> by_cases h2 : x.dst = y.dst <;> by_cases h3 : x.sym = y.sym <;> simp [h1, h2, h3]
theorem cloneMv_e (l : List Mv) (hl : l.length ≤ 1000000) : AF Tryz.prog 96 [pMvs l] (· = .own 72 3 l.length (l.flatMap cMv)) := by
  refine AF.of_body 8 Tryz.func96 rfl Tryz.ntmps96 (Nat.le_of_ble_eq_true rfl) ?_
  intro w0 M0 vs hl hv
  obtain ⟨v0, rfl⟩ := len1 hl
  clear hl hv
  have f3 : (l.flatMap cMv).length = l.length * 3 := flat_len cMv_len l
  have f4 : (l.flatMap cMv).all En.one = true := cMv_one l
  refine nav ?_
  (refine aC_region ?_
    <;> refine xL 2 q_assign ?_
    <;> refine aL_end (nav ?_) <;> try dsimp only)
  (refine aC_region ?_
    <;> refine xL 3 q_move ?_
    <;> (refine yL 4 (q_eqnil tSl23_LfM) fun v4 hv4 => ?_; rcases hv4 with rfl | ⟨rfl, hn0⟩)
    <;> refine aL_end (nav ?_) <;> try dsimp only) <;> (
   first | refine cCd (fun hb4 => ?_) (fun hb4 => ?_) | refine cC (fun hb4 => ?_) (fun hb4 => ?_)
   · first
     | exact Bool.noConfusion hb4
     | (
      refine nav ?_
      (refine aC_region ?_
        <;> refine xL 2 q_assign ?_
        <;> refine aL_end (nav ?_) <;> try dsimp only)
      have hl0 : l = [] := List.eq_nil_of_length_eq_zero hn0
      subst hl0
      refine aR_ent (nilOwn 200 72 3 rfl) fun _ => ?_
      exact ret_own 200 (Tryz.results96) rfl rfl rfl)
   · first
     | exact Bool.noConfusion hb4
     | (
      refine nav ?_
      (refine aC_region ?_
        <;> refine s_lit0 5 tEl23_LfM fun h5 ho5 => ?_
        <;> refine xL 6 q_move ?_
        <;> refine s_apps 5 7 tEl23_LfM (fun h7 ho7 => ?_) f3 f4
        <;> refine xL 2 q_assign ?_
        <;> refine aL_end (nav ?_) <;> try dsimp only)
      refine ret_own 7 (Tryz.results96) rfl rfl ?_
      rw [Nat.zero_add, List.nil_append]))
theorem tAggMv : AggT Tryz.prog 72 3 = true := by kernel_rfl
theorem sortMv_c : SortC Tryz.prog 116 80 3 := fun enc hk h1 cf hO blk cap d w hcmp hH hblk hsz =>
  AnyQ.slices_SortFunc Tryz.sortMvL 3 (fun w => AggT.run tAggMv w) (fun w => AggT.size tAggMv w) enc hk h1 cf hO 80 #[] blk 0 cap d w (Tryz.call80) hcmp hH hblk hsz
theorem sortMv_none (p : Option Addr) (cap : Nat) (fv : Value) (w : World) : Calls Tryz.prog 116 #[.slice p 0 cap, fv] w fun e w' => e = .returned (.tuple #[]) ∧ w' = w := (AnyF.slices_SortFunc_none Tryz.sortMvL p cap fv w).mono fun e w' ⟨h1, h2⟩ => ⟨h1, h2⟩
theorem mv_exact2 (x y : Mv) (M : BS) (W : World) (u v : Value) (hu : Shr M W u (.agg (cMv x))) (hv : Shr M W v (.agg (cMv y))) : Calls Tryz.prog 80 #[u, v] W fun e w' => e = .returned (.int .i64 (mvCmp x y)) ∧ ∃ q os', w' = Go.Sort.grow (W.drewN q) os' := (aCmpMoves_g x y).exact2 hu hv
theorem compactMv_asc (l : List Mv) (hl : l.length ≤ 1000000) (ha : AscM l) (hv : Value) : AFh False Tryz.prog 117 [(0, hv, .val hv)] [(1000, hv, .own 72 3 l.length (l.flatMap cMv))] (fun v q h => v = hv ∧ q = .val hv ∧ h = [(1000, hv, .own 72 3 l.length (l.flatMap cMv))]) := by
  refine AFh.of_body 61 Tryz.func117 rfl Tryz.ntmps117 (Nat.le_of_ble_eq_true rfl) rfl ?_
  intro w0 M0 N0
  refine nav ?_
  (refine aC_region ?_
    <;> refine xL 2 q_assign ?_
    <;> refine aL_end (nav ?_) <;> try dsimp only)
  (refine aC_region ?_
    <;> refine xL 6 q_move ?_
    <;> refine xL 7 (q_leno 1000 tSl23_LfM) ?_
    <;> refine xL 8 q_lss ?_
    <;> refine aL_end (nav ?_) <;> try dsimp only)
  first | refine cCd (fun hb8 => ?_) (fun hb8 => ?_) | refine cC (fun hb8 => ?_) (fun hb8 => ?_)
  · first
    | exact Bool.noConfusion hb8
    | (
     refine nav ?_
     (refine aC_region ?_
       <;> refine xL 9 q_move ?_
       <;> refine xL 2 q_assign ?_
       <;> refine aL_end (nav ?_) <;> try dsimp only)
     exact ret_h [(1000, hv, PV.own 72 3 l.length (l.flatMap cMv))] (Tryz.results117) rfl ⟨rfl, trivial⟩ ⟨rfl, rfl, rfl⟩)
  · first
    | exact Bool.noConfusion hb8
    | (
     refine nav ?_
     (refine aC_region ?_
       <;> refine xL 3 q_assign ?_
       <;> refine aL_end (nav ?_) <;> try dsimp only)
     refine aC_loop (ι := { k : Nat // 1 ≤ k ∧ k ≤ l.length }) (fun k => ⟨[(0, _, _), (3, .int .i64 k.1, pInt k.1)], [(1000, _, _)]⟩) (fun k => l.length - k.1) ⟨1, Nat.le_refl _, by omega⟩ (fun a w H => H.weaken ⟨rfl, rfl, trivial⟩ ⟨rfl, trivial⟩) ?_
     rintro ⟨k1, hk1, hk⟩
     dsimp only
     obtain ⟨k, rfl⟩ : ∃ k, k1 = k + 1 := ⟨k1 - 1, by omega⟩
     refine nav ?_
     (refine aC_region ?_
       <;> refine xL 10 q_move ?_
       <;> refine xL 11 q_move ?_
       <;> refine xL 12 (q_leno 1000 tSl23_LfM) ?_
       <;> refine xL 13 q_lss ?_
       <;> refine aL_end (nav ?_) <;> try dsimp only)
     first | refine cCd (fun hb13 => ?_) (fun hb13 => ?_) | refine cC (fun hb13 => ?_) (fun hb13 => ?_)
     · first
       | exact Bool.noConfusion hb13
       | (
        obtain ⟨x, hx⟩ := get_some (show k + 1 < l.length by omega)
        obtain ⟨y, hy⟩ := get_some (show k < l.length by omega)
        have e1 := flat_drop cMv_len l (k + 1) x hx
        have e2 := flat_fit cMv_len hx
        have e3 : ((l.flatMap cMv).drop ((((k + 1 : Nat) : Int) - 1).toNat * 3)).take 3 = cMv y := by rw [show (((k + 1 : Nat) : Int) - 1).toNat * 3 = k * 3 by omega]; exact flat_drop cMv_len l k y hy
        have e4 := flat_fit cMv_len hy
        have hne := asc_next ha hy hx
        refine nav ?_
        (refine aC_draw (fun i => ([] : List Nat).elem i) [1000] (by kernel_rfl) ?_
          <;> refine xD 0 16 rfl q_move ?_
          <;> refine xD 1 17 rfl q_move ?_
          <;> refine xD 2 18 rfl (q_idxoN 1000 tSl23_LfM) ?_
          <;> (refine yD 3 19 rfl (q_ldao 1000 tAgg72_LfM) fun v19 hv19 => ?_; cases hv19)
          <;> refine xD 4 20 rfl q_move ?_
          <;> refine xE 5 21 rfl q_move ?_
          <;> refine xE 6 22 rfl q_sub ?_
          <;> refine xE 7 23 rfl (q_idxo 1000 tSl23_LfM) ?_
          <;> (refine yE 8 24 rfl (q_ldao 1000 tAgg72_LfM) fun v24 hv24 => ?_; cases hv24)
          <;> refine xE 9 25 rfl ((q_eqS (us := vMv x) (us' := vMv y) uMvS hMvS gMvS (eqMv_runG x y) rfl rfl)) ?_
          <;> refine aD_end (by kernel_rfl) (nav ?_)
          <;> try dsimp only)
        first | refine cCd (fun hb25 => ?_) (fun hb25 => ?_) | refine cC (fun hb25 => ?_) (fun hb25 => ?_)
        · rw [hne] at hb25; cases hb25
        · refine nav ?_
          (refine aC_region ?_
            <;> refine xL 14 q_move ?_
            <;> refine xL 15 q_add ?_
            <;> refine xL 3 q_assign ?_
            <;> refine aL_end (nav ?_) <;> try dsimp only)
          refine aN_again (
            ⟨k + 1 + 1, by omega, by omega⟩
            ) (by dsimp only; omega) ⟨rfl, rfl, trivial⟩ ⟨rfl, trivial⟩)
     · first
       | exact Bool.noConfusion hb13
       | (
        refine nav ?_
        (refine aC_region ?_
          <;> refine xL 60 q_move ?_
          <;> refine xL 2 q_assign ?_
          <;> refine aL_end (nav ?_) <;> try dsimp only)
        exact ret_h [(1000, hv, PV.own 72 3 l.length (l.flatMap cMv))] (Tryz.results117) rfl ⟨rfl, trivial⟩ ⟨rfl, rfl, rfl⟩))
end Go.Proofs.YtgigclnaicbiaaaGreatDoor

namespace Go.Proofs.YtgigclnaicbiaaaGreatDoor
open Go.RowKit Go.Cb Go.En
set_option linter.all false

structure PreA (a : Aut) : Prop where
  n0 : 0 ≤ a.n
  s0 : 0 ≤ a.syms
  s1 : a.syms ≤ 40
  st : InS a a.start
  fi : InS a a.fin
  sn : a.start.Nodup
  fn : a.fin.Nodup
  mv : ∀ m ∈ a.moves, 0 ≤ m.src ∧ m.src < a.n ∧ 0 ≤ m.dst ∧ m.dst < a.n ∧ -1 ≤ m.sym ∧ m.sym < a.syms
def mkA (a : Aut) : Aut := { a with moves := mkM a.moves }
theorem PreA.aok {a : Aut} (h : PreA a) (hb : ¬ (2000 < (mkA a).n ∨ 20000 < (mkA a).moves.length)) : AOk (mkA a) := by
  have hn : ¬ 2000 < a.n := fun h => hb (.inl h)
  have hl : ∀ {l : List Int}, l.Nodup → InS a l → l.length ≤ 2000 := fun {l} h1 h2 => by
    have := nodup_len a.n.toNat l h1 fun s hs => by have := h2 s hs; have := h.n0; omega
    omega
  exact ⟨h.n0, by show a.n ≤ 2000; omega, h.s0, h.s1, by have := hb; omega, h.st, h.fi, hl h.sn h.st, hl h.fn h.fi, fun m hm => h.mv m (mkM_mem.1 hm)⟩
theorem stOk_srt {n : Int} {l : List Int} (h : stOk n l = true) : Srt l := by
  unfold stOk at h
  rw [Bool.and_eq_true] at h
  have := h.2
  clear h
  induction l with
  | nil => exact .nil
  | cons x l ih =>
    cases l with
    | nil => exact List.pairwise_singleton ..
    | cons y l =>
      rw [chainB, Bool.and_eq_true] at this
      have h1 := ih this.2
      have hxy : x < y := by have := this.1; unfold ltI at this; simpa using this
      refine List.pairwise_cons.2 ⟨fun z hz => ?_, h1⟩
      rcases List.mem_cons.1 hz with rfl | hz
      · exact hxy
      · exact Int.lt_trans hxy ((List.pairwise_cons.1 h1).1 z hz)
theorem chain_asc : ∀ {l : List Mv}, chainB mvLt l = true → AscM l
  | [], _ => .nil
  | [x], _ => List.pairwise_singleton ..
  | x :: y :: l, h => by
    rw [chainB, Bool.and_eq_true] at h
    have h1 := chain_asc h.2
    refine List.pairwise_cons.2 ⟨fun z hz => ?_, h1⟩
    rcases List.mem_cons.1 hz with rfl | hz
    · exact h.1
    · exact mvLt_tr h.1 ((List.pairwise_cons.1 h1).1 z hz)
theorem srt_nodup {l : List Int} (h : Srt l) : l.Nodup := h.imp fun h => by omega
structure VOk (a : Aut) : Prop extends AOk a where
  ss : Srt a.start
  fs : Srt a.fin
  ms : AscM a.moves
theorem vok_of {a : Aut} (h : autOk a = true) : VOk a := by
  have h' := h
  unfold autOk at h'
  simp only [Bool.and_eq_true, decide_eq_true_eq] at h'
  obtain ⟨⟨⟨⟨⟨⟨⟨⟨_, _⟩, _⟩, _⟩, _⟩, h6⟩, h7⟩, _⟩, h9⟩ := h'
  exact ⟨aok_of h, stOk_srt h6, stOk_srt h7, chain_asc h9⟩
theorem asc_nodup2 {l : List Mv} (h : AscM l) : l.Nodup := h.imp fun {a b} h1 e => by rw [e, mvLt_irr] at h1; cases h1
theorem map_nodup {α β : Type} {f : α → β} {l : List α} (h : l.Nodup) (hf : ∀ x ∈ l, ∀ y ∈ l, f x = f y → x = y) : (l.map f).Nodup := by
  induction l with
  | nil => exact List.nodup_nil
  | cons x l ih =>
    rw [List.nodup_cons] at h
    rw [List.map_cons, List.nodup_cons]
    refine ⟨fun hm => ?_, ih h.2 fun y hy z hz => hf y (List.mem_cons_of_mem _ hy) z (List.mem_cons_of_mem _ hz)⟩
    obtain ⟨y, hy, e⟩ := List.mem_map.1 hm
    have := hf y (List.mem_cons_of_mem _ hy) x (List.mem_cons_self ..) e
    rw [this] at hy
    exact h.1 hy
theorem star_pre {a : Aut} (h : VOk a) : PreA (starA a) := by
  have hn := h.n0
  refine ⟨by show 0 ≤ a.n + 1; omega, h.s0, h.s1, fun s hs => ?_, fun s hs => ?_, by show [a.n].Nodup; simp, by show [a.n].Nodup; simp, fun m hm => ?_⟩
  · rw [show s = a.n from List.mem_singleton.1 hs]
    exact ⟨hn, by show a.n < a.n + 1; omega⟩
  · rw [show s = a.n from List.mem_singleton.1 hs]
    exact ⟨hn, by show a.n < a.n + 1; omega⟩
  · have hs := h.s0
    show 0 ≤ m.src ∧ m.src < a.n + 1 ∧ 0 ≤ m.dst ∧ m.dst < a.n + 1 ∧ -1 ≤ m.sym ∧ m.sym < a.syms
    have hm' : m ∈ a.moves ++ (a.start.map fun s => (⟨a.n, s, -1⟩ : Mv)) ++ a.fin.map fun s => (⟨s, a.n, -1⟩ : Mv) := hm
    rcases List.mem_append.1 hm' with hm | hm
    · rcases List.mem_append.1 hm with hm | hm
      · have := h.mv m hm; omega
      · obtain ⟨s, hs, rfl⟩ := List.mem_map.1 hm
        have := h.st s hs
        dsimp only; omega
    · obtain ⟨s, hs, rfl⟩ := List.mem_map.1 hm
      have := h.fi s hs
      dsimp only; omega
theorem star_nodup {a : Aut} (h : VOk a) : (starA a).moves.Nodup := by
  show (a.moves ++ (a.start.map fun s => (⟨a.n, s, -1⟩ : Mv)) ++ a.fin.map fun s => (⟨s, a.n, -1⟩ : Mv)).Nodup
  rw [List.nodup_append, List.nodup_append]
  refine ⟨⟨asc_nodup2 h.ms, map_nodup (srt_nodup h.ss) fun x _ y _ e => (Mv.mk.inj e).2.1, fun x hx y hy e => ?_⟩, map_nodup (srt_nodup h.fs) fun x _ y _ e => (Mv.mk.inj e).1, fun x hx y hy e => ?_⟩
  · obtain ⟨s, hs, rfl⟩ := List.mem_map.1 hy
    have := h.mv x hx
    rw [e] at this
    dsimp only at this; omega
  · obtain ⟨s, hs, rfl⟩ := List.mem_map.1 hy
    have h1 := h.fi s hs
    rcases List.mem_append.1 hx with hx | hx
    · have := h.mv x hx
      rw [e] at this
      dsimp only at this; omega
    · obtain ⟨s', hs', e'⟩ := List.mem_map.1 hx
      rw [e] at e'
      have := (Mv.mk.inj e').1
      omega
end Go.Proofs.YtgigclnaicbiaaaGreatDoor

namespace Go.En
open Go.RowKit Go.Cb
set_option linter.all false
section
variable {P : Program} {c : Ctx} {ops : Array Oper} {Q : Exit → Act → World → Prop} {Z : Nat → Bool} {K : List Nat} {fuel : Nat} {listed : Array Bool} {sL hP : List (Nat × Ent)} {o : Oper}
theorem aD_four (i j k l : Nat) (hr : Region.ready .any ops listed = [i, j, k, l]) (h : aW P c ops Q Z K fuel listed (⟨sL, hP⟩ : St) i) (h' : aW P c ops Q Z K fuel listed (⟨sL, hP⟩ : St) j) (h'' : aW P c ops Q Z K fuel listed (⟨sL, hP⟩ : St) k) (h3 : aW P c ops Q Z K fuel listed (⟨sL, hP⟩ : St) l) : aD P c ops Q Z K (fuel + 1) listed (⟨sL, hP⟩ : St) := fun a w F H C hC =>
  ⟨(fun hn => by rw [hr] at hn; cases hn), fun m hm => by
    rw [hr] at hm
    rcases (by simpa using hm : m = i ∨ m = j ∨ m = k ∨ m = l) with rfl | rfl | rfl | rfl
    · exact h a w F H C hC
    · exact h' a w F H C hC
    · exact h'' a w F H C hC
    · exact h3 a w F H C hC⟩
end
end Go.En

namespace Go.Proofs.YtgigclnaicbiaaaGreatDoor
open Go.RowKit Go.Cb Go.En
set_option linter.all false
set_option maxRecDepth 100000

theorem tAgg25_LfN : AggT Tryz.prog 25 5 = true := by kernel_rfl
theorem tFl25_4_LfN : FldT Tryz.prog 25 4 4 = true := by kernel_rfl
theorem tNa23_LfN : NoAgg Tryz.prog 23 = true := by kernel_rfl
theorem tSz23_LfN : (Tryz.prog.info? 23).map (·.size) = some 1 := by kernel_rfl
theorem tZr25_LfN : ZeroT Tryz.prog 25 (.agg #[(.int .i64 0), (.int .i64 0), (.slice none 0 0), (.slice none 0 0), (.slice none 0 0)]) := by unfold ZeroT; kernel_rfl

theorem sorted_mk {l r : List Mv} (hp : r.Perm l) (hs : Sorted r) (hn : l.Nodup) : r = mkM l := mkM_eq (sorted_asc hs (hp.nodup_iff.2 hn)) fun x => hp.mem_iff
theorem mkM_nd_len {l : List Mv} (hn : l.Nodup) : (mkM l).length = l.length := by
  refine Nat.le_antisymm (mkM_len l) ?_
  have : ∀ {l : List Mv} {m : List Mv}, l.Nodup → (∀ x ∈ l, x ∈ m) → l.length ≤ m.length := fun {l} => by
    induction l with
    | nil => intro m _ _; exact Nat.zero_le _
    | cons x l ih =>
      intro m h hm
      rw [List.nodup_cons] at h
      obtain ⟨a, b, rfl⟩ := List.append_of_mem (hm x (List.mem_cons_self ..))
      have := ih (m := a ++ b) h.2 fun y hy => by
        rcases List.mem_append.1 (hm y (List.mem_cons_of_mem _ hy)) with h1 | h1
        · exact List.mem_append_left _ h1
        · rcases List.mem_cons.1 h1 with rfl | h1
          · exact absurd hy h.1
          · exact List.mem_append_right _ h1
      simp only [List.length_append, List.length_cons] at this ⊢
      omega
  exact this hn fun x hx => mkM_mem.2 hx
theorem aMade_ok (a : Aut) (hl : a.moves.length ≤ 1000000) (hnd : a.moves.Nodup) (V hM : Value) (hMo : hM.oneCell' = true) {A : Aut} (hr : AF Tryz.prog 83 [pAut (mkA a)] (· = .tup [pAut A, pInt 0])) : AFh False Tryz.prog 88 [(0, V, .agg [pInt a.n, pInt a.syms, pInts a.start, pInts a.fin, .val hM])] [(1000, hM, .own 72 3 a.moves.length (a.moves.flatMap cMv))] (fun v q h => (∃ V1 : Value, v = .tuple [V1, .int .i64 0].toArray) ∧ q = .tup [pAut A, pInt 0] ∧ h = []) := by
  refine AFh.of_body 15 Tryz.func88 rfl Tryz.ntmps88 (Nat.le_of_ble_eq_true rfl) rfl ?_
  intro w0 M0 N0
  have hone : En.one (PV.val hM) = true := hMo
  refine nav ?_
  (refine aC_region ?_
    <;> refine s_boxa 1 5 fun h1 => ?_
    <;> refine s_alloc [(.int .i64 0), (.int .i64 0), (.slice none 0 0), (.slice none 0 0), (.slice none 0 0)] 5 2 tZr25_LfN fun h2 => ?_
    <;> refine xL 3 q_assign ?_
    <;> refine aL_end (nav ?_) <;> try dsimp only)
  (refine aC_region ?_
    <;> refine xL 4 (q_fldo 1 tFl25_4_LfN) ?_
    <;> (refine yL 5 (q_ldo 1 tNa23_LfN) fun v5 hv5 => ?_; cases hv5)
    <;> (rcases Nat.eq_zero_or_pos a.moves.length with h0 | h0 <;> first | (refine aL_ent (recast (l := 1000) (p' := .own 72 3 0 []) rfl (by rw [List.eq_nil_of_length_eq_zero h0]; rfl)) fun _ => ?_; refine aL_sort0 (l := 1000) sortMv_none rfl rfl (Nat.le_of_ble_eq_true rfl) rfl (Tryz.call116) rfl rfl rfl ?_; refine aL_ent (recast (l := 1000) (p' := .own 72 3 (mkM a.moves).length ((mkM a.moves).flatMap cMv)) rfl (by rw [List.eq_nil_of_length_eq_zero h0]; rfl)) fun _ => ?_) | (refine aL_sort (l := 1000) (β := Mv) (f := cMv) (cmp := mvCmp) (rows := a.moves) sortMv_c cMv_len (by decide) (fun _ => rfl) mvCmp_irr mvCmp_tr mvCmp_nt (fun x y M W u v _ _ hu hv => mv_exact2 x y M W u v hu hv) h0 (by omega) rfl rfl (Nat.le_of_ble_eq_true rfl) rfl (Tryz.call116) rfl rfl rfl (fun rows' hperm hord => ?_); refine aL_ent (recast (l := 1000) (p' := .own 72 3 (mkM a.moves).length ((mkM a.moves).flatMap cMv)) rfl (by rw [sorted_mk hperm hord hnd, mkM_nd_len hnd])) fun _ => ?_))
    <;> refine aL_end (nav ?_) <;> try dsimp only) <;> (
   (refine aC_region ?_
     <;> refine xL 7 (q_fldo 1 tFl25_4_LfN) ?_
     <;> (refine yL 8 (q_ldo 1 tNa23_LfN) fun v8 hv8 => ?_; cases hv8)
     <;> (refine aL_heap [(1000, hM, PV.own 72 3 (mkM a.moves).length ((mkM a.moves).flatMap cMv)), (1, _, _), (2, _, _)] ⟨rfl, rfl, rfl, trivial⟩ ?_; refine aL_ch [1, 2] 9 (Tryz.call117) (compactMv_asc (mkM a.moves) (by have := mkM_len a.moves; omega) (mkM_asc _) hM) ?_; rintro v9 _ _ ⟨hv9, rfl, rfl⟩; have hv9' := hv9.symm; subst hv9')
     <;> refine xL 10 (q_fldo 1 tFl25_4_LfN) ?_
     <;> refine s_st 1 tNa23_LfN tSz23_LfN ?_
     <;> refine aL_end (nav ?_) <;> try dsimp only)
   refine aC_ent (freezeCell (l := 1) (l' := 1000) (j := 4) rfl rfl rfl rfl) fun _ => ?_
   rw [share_mvl _ _ _ rfl]
   (refine aC_region ?_
     <;> (refine yL 11 (q_ldao 1 tAgg25_LfN) fun v11 hv11 => ?_; cases hv11)
     <;> (refine cP 12 (cA Tryz.call83 (hr)) fun va12 vb12 hva12 hvb12 => ?_; cases hvb12)
     <;> refine xL 13 q_extract ?_
     <;> refine xL 14 q_extract ?_
     <;> refine s_sta 2 tAgg25_LfN ?_
     <;> refine xL 3 q_assign ?_
     <;> refine aL_end (nav ?_) <;> try dsimp only)
   exact ret_hcs (k := 5) 2 [] (by kernel_rfl) (Tryz.results88) rfl rfl rfl (Nat.le_of_ble_eq_true rfl) (by decide) rfl trivial fun V => ⟨⟨V, rfl⟩, rfl, rfl⟩)
theorem aMade_err (a : Aut) (hl : a.moves.length ≤ 1000000) (hnd : a.moves.Nodup) (V hM : Value) (hMo : hM.oneCell' = true) {e : Int} (hr : AF Tryz.prog 83 [pAut (mkA a)] (· = .tup [rawZ, pInt e])) : AFh False Tryz.prog 88 [(0, V, .agg [pInt a.n, pInt a.syms, pInts a.start, pInts a.fin, .val hM])] [(1000, hM, .own 72 3 a.moves.length (a.moves.flatMap cMv))] (fun v q h => (∃ V1 : Value, v = .tuple [V1, .int .i64 e].toArray) ∧ q = .tup [rawZ, pInt e] ∧ h = []) := by
  refine AFh.of_body 15 Tryz.func88 rfl Tryz.ntmps88 (Nat.le_of_ble_eq_true rfl) rfl ?_
  intro w0 M0 N0
  have hone : En.one (PV.val hM) = true := hMo
  refine nav ?_
  (refine aC_region ?_
    <;> refine s_boxa 1 5 fun h1 => ?_
    <;> refine s_alloc [(.int .i64 0), (.int .i64 0), (.slice none 0 0), (.slice none 0 0), (.slice none 0 0)] 5 2 tZr25_LfN fun h2 => ?_
    <;> refine xL 3 q_assign ?_
    <;> refine aL_end (nav ?_) <;> try dsimp only)
  (refine aC_region ?_
    <;> refine xL 4 (q_fldo 1 tFl25_4_LfN) ?_
    <;> (refine yL 5 (q_ldo 1 tNa23_LfN) fun v5 hv5 => ?_; cases hv5)
    <;> (rcases Nat.eq_zero_or_pos a.moves.length with h0 | h0 <;> first | (refine aL_ent (recast (l := 1000) (p' := .own 72 3 0 []) rfl (by rw [List.eq_nil_of_length_eq_zero h0]; rfl)) fun _ => ?_; refine aL_sort0 (l := 1000) sortMv_none rfl rfl (Nat.le_of_ble_eq_true rfl) rfl (Tryz.call116) rfl rfl rfl ?_; refine aL_ent (recast (l := 1000) (p' := .own 72 3 (mkM a.moves).length ((mkM a.moves).flatMap cMv)) rfl (by rw [List.eq_nil_of_length_eq_zero h0]; rfl)) fun _ => ?_) | (refine aL_sort (l := 1000) (β := Mv) (f := cMv) (cmp := mvCmp) (rows := a.moves) sortMv_c cMv_len (by decide) (fun _ => rfl) mvCmp_irr mvCmp_tr mvCmp_nt (fun x y M W u v _ _ hu hv => mv_exact2 x y M W u v hu hv) h0 (by omega) rfl rfl (Nat.le_of_ble_eq_true rfl) rfl (Tryz.call116) rfl rfl rfl (fun rows' hperm hord => ?_); refine aL_ent (recast (l := 1000) (p' := .own 72 3 (mkM a.moves).length ((mkM a.moves).flatMap cMv)) rfl (by rw [sorted_mk hperm hord hnd, mkM_nd_len hnd])) fun _ => ?_))
    <;> refine aL_end (nav ?_) <;> try dsimp only) <;> (
   (refine aC_region ?_
     <;> refine xL 7 (q_fldo 1 tFl25_4_LfN) ?_
     <;> (refine yL 8 (q_ldo 1 tNa23_LfN) fun v8 hv8 => ?_; cases hv8)
     <;> (refine aL_heap [(1000, hM, PV.own 72 3 (mkM a.moves).length ((mkM a.moves).flatMap cMv)), (1, _, _), (2, _, _)] ⟨rfl, rfl, rfl, trivial⟩ ?_; refine aL_ch [1, 2] 9 (Tryz.call117) (compactMv_asc (mkM a.moves) (by have := mkM_len a.moves; omega) (mkM_asc _) hM) ?_; rintro v9 _ _ ⟨hv9, rfl, rfl⟩; have hv9' := hv9.symm; subst hv9')
     <;> refine xL 10 (q_fldo 1 tFl25_4_LfN) ?_
     <;> refine s_st 1 tNa23_LfN tSz23_LfN ?_
     <;> refine aL_end (nav ?_) <;> try dsimp only)
   refine aC_ent (freezeCell (l := 1) (l' := 1000) (j := 4) rfl rfl rfl rfl) fun _ => ?_
   rw [share_mvl _ _ _ rfl]
   (refine aC_region ?_
     <;> (refine yL 11 (q_ldao 1 tAgg25_LfN) fun v11 hv11 => ?_; cases hv11)
     <;> (refine cP 12 (cA Tryz.call83 (hr)) fun va12 vb12 hva12 hvb12 => ?_; cases hvb12)
     <;> refine xL 13 q_extract ?_
     <;> refine xL 14 q_extract ?_
     <;> refine s_sta 2 tAgg25_LfN ?_
     <;> refine xL 3 q_assign ?_
     <;> refine aL_end (nav ?_) <;> try dsimp only)
   exact ret_hcs (k := 5) 2 [] (by kernel_rfl) (Tryz.results88) rfl rfl rfl (Nat.le_of_ble_eq_true rfl) (by decide) rfl trivial fun V => ⟨⟨V, rfl⟩, rfl, rfl⟩)
theorem aReduced_mk (a : Aut) (hl : a.moves.length ≤ 1000000) (h : PreA a) : AF Tryz.prog 83 [pAut (mkA a)] (· = resW (madeX a)) :=
  aReduced_e (mkA a) (by have := mkM_len a.moves; show (mkM a.moves).length ≤ 1000000; omega) h.aok
end Go.Proofs.YtgigclnaicbiaaaGreatDoor
