/-
  Walks: automata: the minimal automaton of a table.
  Walks: automata: the minimal automaton of an automaton.
  Walks: automata: Minimal and Complement.
  The engine: quotients; a struct and a value are handed back beside what is owned. No program in sight.
  Walks: the reference's automata: lists of numbers as texts.
  Walks: the reference's automata: the subset automaton. Its final states are handed over.
  Walks: the reference's automata: the classes of a table's states.
  Walks: the reference's automata: the automaton of a table.
  Walks: the reference's automata: the least automaton of a table.
  Walks: the reference's automata: Minimal and Complement.
  Walks: automata: moves are sorted, each is kept once.
  The engine: four operations that come up together. No program in sight.
  Walks: automata: what an operation made is minimized; Star.
  Plain laws: what the reference finishes; a move put in its place. No program in sight.
  Plain laws: shuffles. No program in sight.
  Plain laws: the words of unions, concatenations, stars, reversals, shuffles. No program in sight.
  Plain laws: how what a search has met was met; ways back; turning round. No program in sight.
  Plain laws: searches go by ages; first words of products. No program in sight.
  Plain laws: minimal automata are unique; first differences. No program in sight.
-/
import Derived.Test.YtgigclnaicbiaaaGreatDoorPk04
import Derived.Test.YtgigclnaicbiaaaGreatDoorMShelfF
namespace Go.Proofs.YtgigclnaicbiaaaGreatDoor
open Go.RowKit Go.Cb Go.En
set_option linter.all false
set_option maxRecDepth 100000
theorem tFl93_0_LfD : FldT Tryz.prog 93 0 0 = true := by kernel_rfl
theorem tMp132_LfD : MpT Tryz.prog 132 3 3 (.int .i64) (.int .i64 0) := ⟨Tryz.underlying132, Tryz.underlying3, .inr ⟨_, rfl⟩, by show ZeroT _ _ _; unfold ZeroT; kernel_rfl⟩
theorem tSt25_LfD : stInfo Tryz.prog 25 = some ((.agg #[(.int .i64 0), (.int .i64 0), (.slice none 0 0), (.slice none 0 0), (.slice none 0 0)]), ([0, 1, 2, 3, 4] : List Nat).map fun o => (o, 1)) := by kernel_rfl
theorem tSt72_LfD : stInfo Tryz.prog 72 = some ((.agg #[(.int .i64 0), (.int .i64 0), (.int .i64 0)]), ([0, 1, 2] : List Nat).map fun o => (o, 1)) := by kernel_rfl
theorem tZr25_LfD : ZeroT Tryz.prog 25 (.agg #[(.int .i64 0), (.int .i64 0), (.slice none 0 0), (.slice none 0 0), (.slice none 0 0)]) := by unfold ZeroT; kernel_rfl
section
variable {α : Type}
def numAtI (f : α → Int) (o : List α) (x : α) : Nat := if posK f o (f x) < o.length then posK f o (f x) else 0
theorem num_lookI (f : α → Int) (o : List α) (x : α) : (mget (ikv (numE f 0 o)) (.int .i64 (f x))).getD (.int .i64 0) = .int .i64 (numAtI f o x : Nat) ∧ (mget (ikv (numE f 0 o)) (.int .i64 (f x))).isSome = decide (posK f o (f x) < o.length) := by
 rw [mget_ikv, numE_get]
 unfold numAtI
 by_cases h : posK f o (f x) < o.length
 · rw [if_pos h, if_pos h, decide_eq_true h, Nat.zero_add]; exact ⟨rfl, rfl⟩
 · rw [if_neg h, if_neg h, decide_eq_false h]; exact ⟨rfl, rfl⟩
theorem num_putI {f : α → Int} {o : List α} {x : α} (h : ¬ posK f o (f x) < o.length) : mput (ikv (numE f 0 o)) (.int .i64 (f x)) (.int .i64 (o.length : Nat)) = ikv (numE f 0 (o ++ [x])) := by
 have := numE_put f x o 0 h
 rw [Nat.zero_add] at this
 rw [mput_ikv, this]
end
section
variable {α : Type} {P : Program} {sL hP : List (Nat × Ent)} {o : Oper}
theorem q_num2I {t ks e : Nat} {kd : TypeDesc} {z : Value} {x y : Operand} {m : Value} {f : α → Int} {L : List α} {a : α} {p q : PV} (l : Nat) (hT : MpT P t ks e kd z) (hz : z = .int .i64 0) (hkd : kd = .int .i64) (ho : o.op = .lookup t x y true := by exact rfl) (hx : ev sL x = some (m, p) := by exact rfl) (hl : lk hP l = some (m, .omap (ikv (numE f 0 L))) := by exact rfl) (hy : ev sL y = some (.int .i64 (f a), q) := by exact rfl) :
 YE P (⟨sL, hP⟩ : St) o (· = .tuple [.int .i64 (numAtI f L a : Nat), .bool (decide (posK f L (f a) < L.length))].toArray) (.tup [.val (.int .i64 (numAtI f L a : Nat)), .val (.bool (decide (posK f L (f a) < L.length)))]) := by
 subst hz hkd
 have h := q_looko2 (sL := sL) (hP := hP) (o := o) l hT ho hx hl hy (kok_ikv _ _)
 rw [(num_lookI f L a).1, (num_lookI f L a).2] at h
 exact h
end
def clsI (t : Tab) (x : Nat) : Int := (clsT t x : Nat)
theorem clsI_id (t : Tab) (o : List Nat) (x : Nat) : posK (clsI t) o (clsI t x) = posK (clsT t) o (clsT t x) := posK_inj fun y _ => by unfold clsI; omega
theorem listedL_pre {t : Tab} {o o' : List Nat} (h : o <+: o') : ∀ k, k ≤ o.length → listedL k (finAt t o) = listedL k (finAt t o')
 | 0, _ => rfl
 | k + 1, hk => by
   rw [listedL_snoc, listedL_snoc, listedL_pre h k (by omega)]
   obtain ⟨x, hx⟩ := get_some (show k < o.length by omega)
   unfold finAt
   rw [hx, preG_get h hx]
theorem snoc_mv (e : Nat) (L : List Mv) (x : Mv) : PV.own e 3 (L.length + 1) (L.flatMap cMv ++ cMv x) = .own e 3 (L ++ [x]).length ((L ++ [x]).flatMap cMv) := by simp
theorem share_mvl (e n : Nat) (l : List Mv) (hn : n = l.length) : share (.own e 3 n (l.flatMap cMv)) = pMvs l := by
 subst hn
 rw [share, shares_eq, List.map_flatMap]; rfl
theorem own_ints (e : Nat) (L : List Int) (x : Int) : PV.own e 1 (L.length + 1) (L.map pInt ++ [pInt x]) = .own e 1 (L ++ [x]).length ((L ++ [x]).map pInt) := by simp
theorem mv_room {rows : List (List Nat)} {r : List Nat} {n m : Nat} (h : ∀ x ∈ rows, x.length = m) (hm : m ≤ 40) (hn : rows.length ≤ 2000) (hr : r.length ≤ m) : (movesT rows ++ rowMv n r).length ≤ 80040 := by
 rw [List.length_append, movesT_len rows h, rowMv_len]
 have : rows.length * m ≤ 2000 * 40 := Nat.mul_le_mul hn hm
 omega
set_option maxHeartbeats 4000000 in
theorem aMinimal_e (t : Tab) (ht : TOk t) : AF Tryz.prog 72 [pTab t] (· = resW (lim (leastT t))) := by
 have hn1 := ht.n1
 have hfl := ht.fl
 have hm1 := ht.m1
 have hpos := ht.pos
 refine AF.of_body 101 Tryz.func72 rfl Tryz.ntmps72 (Nat.le_of_ble_eq_true rfl) ?_
 intro w0 M0 vs hl hv
 obtain ⟨v0, rfl⟩ := len1 hl
 clear hl hv
 refine nav ?_
 (refine aC_region ?_ <;> refine s_boxa 1 3 fun h1 => ?_ <;> refine s_alloc [(.int .i64 0), (.int .i64 0), (.slice none 0 0), (.slice none 0 0), (.slice none 0 0)] 5 2 tZr25_LfD fun h2 => ?_ <;> refine xL 3 q_assign ?_ <;> refine aL_end (nav ?_) <;> try dsimp only)
 (refine aC_region ?_ <;> (refine yL 13 (q_ldao 1 tAgg93_LfB) fun v13 hv13 => ?_; cases hv13) <;> (refine cO 14 (cA Tryz.call105 (aClasses_e t ht)) fun v14 ho14 => ?_; refine aL_ent (En.freeze (l := 14) (t := 14) rfl rfl) fun _ => ?_; rw [show share (.own 3 1 t.rows.length (vec t.rows.length fun s => pInt (clsT t s : Nat))) = .sl t.rows.length (vec t.rows.length fun s => pInt (clsT t s : Nat)) by rw [share, shares_eq, vec_map]; rfl]) <;> refine xL 4 q_assign ?_ <;> refine aL_end (nav ?_) <;> try dsimp only)
 have e1 := vec_at1 (fun s => pInt (clsT t s : Nat)) hpos
 (refine aC_region ?_ <;> refine s_mkmap 15 fun h15 ho15 => ?_ <;> refine xL 16 q_move ?_ <;> refine xL 17 (q_idxN (i := 0) tSl22_LbB) ?_ <;> (refine yL 18 (q_ld tNa3_LbB) fun v18 hv18 => ?_; cases hv18) <;> (refine s_mins 15 tMp132_LfD ?_; rw [show mput [] (.int .i64 ((clsT t 0 : Nat) : Int)) (.int .i64 0) = ikv (numE (clsI t) 0 [0]) from rfl]) <;> refine xL 19 q_move ?_ <;> refine xL 5 q_assign ?_ <;> refine aL_end (nav ?_) <;> try dsimp only)
 (refine aC_region ?_ <;> refine s_lit1 (kk := 1) 20 tEl22_LdI fun h20 ho20 => ?_ <;> refine xL 6 q_assign ?_ <;> refine aL_end (nav ?_) <;> try dsimp only)
 refine aC_ent (relabel (l := 15) 304 rfl rfl) fun _ => ?_
 refine aC_ent (relabel (l := 20) 303 rfl rfl) fun _ => ?_
 refine aC_ent (recast (l := 303) (p' := .own 3 1 ([0] : List Nat).length ((toI [0]).map pInt)) rfl rfl) fun _ => ?_
 (refine aC_region ?_ <;> refine xL 21 (q_fldo 1 tFl93_0_LfD) ?_ <;> (refine yL 22 (q_ldo 1 tNa3_LbB) fun v22 hv22 => ?_; cases hv22) <;> (refine s_lit1 (kk := 1) 23 tEl22_LdI fun h23 ho23 => ?_; refine aL_ent (En.freeze (l := 23) (t := 23) rfl rfl) fun _ => ?_; rw [show share (PV.own 3 1 1 [PV.val (.int .i64 0)]) = pInts [0] from rfl]) <;> refine xL 24 (q_build tSt25_LfD) ?_ <;> refine s_alloc [(.int .i64 0), (.int .i64 0), (.slice none 0 0), (.slice none 0 0), (.slice none 0 0)] 5 7 tZr25_LfD fun h7 => ?_ <;> refine s_sta 7 tAgg25_LdS ?_ <;> refine aL_end (nav ?_) <;> try dsimp only)
 refine aC_ent (nilCells (l := 7) [pInt 0, pInt (t.m : Nat), pInts [0], .own 3 1 0 [], .own 72 3 0 []] rfl rfl (fun i p p' h1 h2 => by
  match i with
  | 0 => cases h1; cases h2; exact .inl rfl
  | 1 => cases h1; cases h2; exact .inl rfl
  | 2 => cases h1; cases h2; exact .inl rfl
  | 3 => cases h1; cases h2; exact .inr ⟨rfl, _, _, rfl⟩
  | 4 => cases h1; cases h2; exact .inr ⟨rfl, _, _, rfl⟩
  | i + 5 => simp at h2)) fun _ => ?_
 refine aC_ent (focusO (l := 7) (l' := 301) (j := 3) rfl rfl rfl rfl) fun i => ?_
 obtain ⟨v301, ho301⟩ := i
 refine aC_ent (focusO (l := 7) (l' := 302) (j := 4) rfl rfl rfl rfl) fun i => ?_
 obtain ⟨v302, ho302⟩ := i
 dsimp only [List.set]
 (refine aC_region ?_ <;> refine xL 8 q_assign ?_ <;> refine aL_end (nav ?_) <;> try dsimp only)
 refine aC_loop (ι := { q : Nat × Value × Value × Value × List Nat × List (List Nat) // (minW t).upto 0 q.1 = some (q.2.2.2.2.1, q.2.2.2.2.2) ∧ q.1 ≤ q.2.2.2.2.1.length ∧ q.2.1.oneCell' = true ∧ q.2.2.1.oneCell' = true ∧ q.2.2.2.1.oneCell' = true }) (fun k => ⟨[(1, _, _), (2, _, _), (3, _, _), (4, _, _), (5, _, _), (7, _, _), (6, k.1.2.2.2.1, .val k.1.2.2.2.1), (8, .int .i64 k.1.1, pInt k.1.1)], [(1, _, _), (2, _, _), (7, h7, .own 25 5 1 [pInt 0, pInt (t.m : Nat), pInts [0], .val k.1.2.1, .val k.1.2.2.1]), (301, k.1.2.1, .own 3 1 (listedL k.1.1 (finAt t k.1.2.2.2.2.1)).length ((listedL k.1.1 (finAt t k.1.2.2.2.2.1)).map pInt)), (302, k.1.2.2.1, .own 72 3 (movesT k.1.2.2.2.2.2).length ((movesT k.1.2.2.2.2.2).flatMap cMv)), (303, k.1.2.2.2.1, .own 3 1 k.1.2.2.2.2.1.length ((toI k.1.2.2.2.2.1).map pInt)), (304, h15, .omap (ikv (numE (clsI t) 0 k.1.2.2.2.2.1)))]⟩) (fun k => 2000 - k.1.1) ⟨(0, v301, v302, h20, [0], []), rfl, Nat.zero_le _, ho301, ho302, ho20⟩ (fun a w H => H.weaken ⟨rfl, rfl, rfl, rfl, rfl, rfl, rfl, rfl, trivial⟩ ⟨rfl, rfl, rfl, rfl, rfl, rfl, rfl, trivial⟩) ?_
 rintro ⟨⟨i, hF, hM, hO, o, rows⟩, hU, hi, hFo, hMo, hOo⟩
 dsimp only
 dsimp only at hU hi hFo hMo hOo
 obtain ⟨hOk, hRl, _⟩ := min_ok ht hU
 have hRl := hRl hi
 have hcap : o.length ≤ t.rows.length := hOk.cap
 have hrw := hOk.len
 have htl := toI_len o
 have hll := listedL_len i (finAt t o)
 refine nav ?_
 (refine aC_region ?_ <;> refine xL 25 q_move ?_ <;> refine xL 26 q_move ?_ <;> refine xL 27 (q_leno 303 tSl22_LbB) ?_ <;> refine xL 28 q_lss ?_ <;> refine aL_end (nav ?_) <;> try dsimp only)
 (first | refine cCd ?_ ?_ | refine cC ?_ ?_) <;> intro hb28
 · first
   | exact Bool.noConfusion hb28
   | (
    obtain ⟨x, hx⟩ := get_some (show i < o.length by omega)
    have hxn : x < t.rows.length := hOk.p x (List.mem_of_getElem? hx)
    have e1 : ((toI o).map pInt)[i * 1]? = some (pInt (x : Nat)) := by rw [Nat.mul_one, List.getElem?_map]; unfold toI; rw [List.getElem?_map, hx]; rfl
    obtain ⟨b, hb⟩ := get_some (show x < t.fin.length by omega)
    have e2 := map_at (f := pBool) hb
    obtain ⟨row, hrow⟩ := get_some hxn
    have e3 := map_at (f := pNats) hrow
    have hrl := ht.rl row (List.mem_of_getElem? hrow)
    have hrt := ht.to row (List.mem_of_getElem? hrow)
    have hrtl := toI_len row
    have hfa : finAt t o i = b := by unfold finAt; rw [hx]; show (t.fin[x]?).getD false = b; rw [hb]; rfl
    have hL1 := listedL_snoc i (finAt t o)
    rw [hfa] at hL1
    refine nav ?_
    (refine aC_draw (fun i => ([] : List Nat).elem i) [1, 303] (by kernel_rfl) ?_ <;> refine xD 0 31 rfl (q_fldo 1 tFl93_2_LfB) ?_ <;> (refine yD 1 32 rfl (q_ldo 1 tNa66_LdJ) fun v32 hv32 => ?_; cases hv32) <;> refine xD 2 33 rfl q_move ?_ <;> refine xE 3 34 rfl q_move ?_ <;> refine xE 4 35 rfl (q_idxoN 303 tSl22_LbB) ?_ <;> (refine yE 5 36 rfl (q_ldo 303 tNa3_LbB) fun v36 hv36 => ?_; cases hv36) <;> refine xE 6 37 rfl (q_idxN tSl66_LdJ) ?_ <;> (refine yE 7 38 rfl (q_ld tNa4_LdJ) fun v38 hv38 => ?_; cases hv38) <;> refine aD_end (by kernel_rfl) (nav ?_) <;> try dsimp only)
    (first | refine cCd ?_ ?_ | refine cC ?_ ?_) <;> intro hb38
    · first
      | exact Bool.noConfusion hb38
      | (
       rw [if_pos hb38] at hL1
       refine nav ?_
       (refine aC_region ?_ <;> refine xL 39 (q_fldo 7 tFl25_3_LdI) ?_ <;> (refine yL 40 (q_ldo 7 tNa22_LdI) fun v40 hv40 => ?_; cases hv40) <;> refine xL 41 q_move ?_ <;> refine s_lit1 (kk := 1) 42 tEl22_LdI fun h42 ho42 => ?_ <;> (refine s_app 301 42 43 tEl22_LdI fun h43 ho43 => ?_; refine aL_ent (relabel (l := 43) 301 rfl rfl) fun _ => ?_; refine aL_ent (recast (l := 301) rfl (own_ints _ (listedL i (finAt t o)) i)) fun _ => ?_) <;> refine xL 44 (q_fldo 7 tFl25_3_LdI) ?_ <;> refine s_st 7 tNa22_LdI tSz22_LdK ?_ <;> refine aL_end (nav ?_) <;> try dsimp only)
       (refine aC_draw (fun i => ([] : List Nat).elem i) [1, 303] (by kernel_rfl) ?_ <;> refine xD 0 45 rfl (q_fldo 1 tFl93_1_LfB) ?_ <;> (refine yD 1 46 rfl (q_ldo 1 tNa28_LfB) fun v46 hv46 => ?_; cases hv46) <;> refine xD 2 47 rfl q_move ?_ <;> refine xD 3 48 rfl q_move ?_ <;> refine xD 4 49 rfl (q_idxoN 303 tSl22_LbB) ?_ <;> (refine yD 5 50 rfl (q_ldo 303 tNa3_LbB) fun v50 hv50 => ?_; cases hv50) <;> refine xD 6 51 rfl (q_idxN tSl28_LdS) ?_ <;> (refine yD 7 52 rfl (q_ld tNa22_LdI) fun v52 hv52 => ?_; cases hv52) <;> refine xD 8 53 rfl (q_len tSl22_LbB) ?_ <;> refine xE 9 54 rfl q_move ?_ <;> refine aD_end (by kernel_rfl) (nav ?_) <;> try dsimp only)
       rw [← hL1]
       rw [show movesT rows = movesT rows ++ rowMv i ([] : List Nat) from (List.append_nil _).symm]
       refine aC_loop (ι := { q : Nat × Value × Value × List Nat × List Nat // (minW t).row i x o q.1 = some (q.2.2.2.1, q.2.2.2.2) ∧ q.1 ≤ t.m ∧ q.2.1.oneCell' = true ∧ q.2.2.1.oneCell' = true }) (fun k => ⟨[(1, _, _), (2, _, _), (3, _, _), (4, _, _), (5, _, _), (7, _, _), (8, _, _), (52, _, _), (53, _, _), (6, k.1.2.2.1, .val k.1.2.2.1), (54, .int .i64 k.1.1, pInt k.1.1)], [(1, _, _), (2, _, _), (301, _, _), (7, h7, .own 25 5 1 [pInt 0, pInt (t.m : Nat), pInts [0], _, .val k.1.2.1]), (302, k.1.2.1, .own 72 3 (movesT rows ++ rowMv i k.1.2.2.2.2).length ((movesT rows ++ rowMv i k.1.2.2.2.2).flatMap cMv)), (303, k.1.2.2.1, .own 3 1 k.1.2.2.2.1.length ((toI k.1.2.2.2.1).map pInt)), (304, h15, .omap (ikv (numE (clsI t) 0 k.1.2.2.2.1)))]⟩) (fun k => t.m - k.1.1) ⟨(0, hM, hO, o, []), rfl, Nat.zero_le _, hMo, hOo⟩ (fun a w H => H.weaken ⟨rfl, rfl, rfl, rfl, rfl, rfl, rfl, rfl, rfl, rfl, rfl, trivial⟩ ⟨rfl, rfl, rfl, rfl, rfl, rfl, rfl, trivial⟩) ?_
       rintro ⟨⟨s, hM', hO', o', r⟩, hW, hs, hM'o, hO'o⟩
       dsimp only
       dsimp only at hW hs hM'o hO'o
       obtain ⟨hMt, hpr, hrl2, _⟩ := hOk.toMet.row (fun s _ => toT_lt ht) (show s ≤ (minW t).m from hs) hW
       have hcap' : o'.length ≤ t.rows.length := hMt.cap
       have htl' := toI_len o'
       have hmr := mv_room (n := i) hrw hm1 (by omega) (show r.length ≤ t.m by omega)
       refine nav ?_
       (refine aC_region ?_ <;> refine xL 55 q_lss ?_ <;> refine aL_end (nav ?_) <;> try dsimp only)
       (first | refine cCd ?_ ?_ | refine cC ?_ ?_) <;> intro hb55
       · first
         | exact Bool.noConfusion hb55
         | (
          obtain ⟨y, hy⟩ := get_some (show s < row.length by omega)
          have hyn := hrt y (List.mem_of_getElem? hy)
          have e4 : ((toI row).map pInt)[s * 1]? = some (pInt (y : Nat)) := by rw [Nat.mul_one, List.getElem?_map]; unfold toI; rw [List.getElem?_map, hy]; rfl
          have e5 := vec_at1 (fun s => pInt (clsT t s : Nat)) hyn
          have hto : (minW t).step i x s = y := toT_at hrow hy
          have hid := clsI_id t o' y
          refine nav ?_
          (refine aC_region ?_ <;> refine xL 56 q_move ?_ <;> refine xL 57 (q_idxN tSl22_LbB) ?_ <;> (refine yL 58 (q_ld tNa3_LbB) fun v58 hv58 => ?_; cases hv58) <;> refine xL 9 q_assign ?_ <;> refine xL 10 q_assign ?_ <;> refine aL_end (nav ?_) <;> try dsimp only)
          (refine aC_region ?_ <;> refine xL 60 q_move ?_ <;> refine xL 61 q_move ?_ <;> refine xL 62 q_move ?_ <;> refine xL 63 (q_idxN tSl22_LbB) ?_ <;> (refine yL 64 (q_ld tNa3_LbB) fun v64 hv64 => ?_; cases hv64) <;> refine xL 65 (q_num2I (f := clsI t) (L := o') (a := y) 304 tMp132_LfD rfl rfl) ?_ <;> refine xL 59 q_move ?_ <;> refine xL 66 q_extract ?_ <;> refine xL 67 q_extract ?_ <;> refine xL 11 q_assign ?_ <;> refine xL 12 q_assign ?_ <;> refine aL_end (nav ?_) <;> try dsimp only)
          (refine aC_region ?_ <;> refine xL 68 q_move ?_ <;> refine xL 69 q_not ?_ <;> refine aL_end (nav ?_) <;> try dsimp only)
          (first | refine cCd ?_ ?_ | refine cC ?_ ?_) <;> intro hb69
          · first
            | exact Bool.noConfusion hb69
            | (
             have hnew : ¬ posK (clsI t) o' (clsI t y) < o'.length := by simpa using hb69
             have hnew2 : ¬ posK (minW t).key o' ((minW t).key ((minW t).step i x s)) < o'.length := by
              rw [hto]
              show ¬ posK (clsT t) o' (clsT t y) < o'.length
              rw [← hid]; exact hnew
             have hroom := min_visit ht hMt (show (minW t).step i x s < t.rows.length by rw [hto]; exact hyn) hnew2
             refine nav ?_
             (refine aC_region ?_ <;> refine xL 70 q_move ?_ <;> refine xL 71 (q_leno 303 tSl22_LbB) ?_ <;> refine xL 11 q_assign ?_ <;> refine aL_end (nav ?_) <;> try dsimp only)
             (refine aC_region ?_ <;> refine xL 72 q_move ?_ <;> refine xL 73 q_move ?_ <;> refine xL 74 q_move ?_ <;> refine xL 75 (q_idxN tSl22_LbB) ?_ <;> (refine yL 76 (q_ld tNa3_LbB) fun v76 hv76 => ?_; cases hv76) <;> refine xL 77 q_move ?_ <;> (refine s_mput 304 tMp132_LfD ?_; rw [show mput (ikv (numE (clsI t) 0 o')) (.int .i64 ((clsT t y : Nat) : Int)) (.int .i64 ((o'.length : Nat) : Int)) = ikv (numE (clsI t) 0 (o' ++ [y])) from num_putI hnew]) <;> refine aL_end (nav ?_) <;> try dsimp only)
             (refine aC_region ?_ <;> refine xL 78 q_move ?_ <;> refine xL 79 q_move ?_ <;> refine s_lit1 (kk := 1) 80 tEl22_LdI fun h80 ho80 => ?_ <;> (refine s_app 303 80 81 tEl22_LdI fun h81 ho81 => ?_; refine aL_ent (relabel (l := 81) 303 rfl rfl) fun _ => ?_; refine aL_ent (recast (l := 303) rfl (own_nats _ o' y)) fun _ => ?_) <;> refine xL 6 q_assign ?_ <;> refine aL_end (nav ?_) <;> try dsimp only)
             (refine aC_region ?_ <;> refine xL 82 (q_fldo 7 tFl25_4_LdI) ?_ <;> (refine yL 83 (q_ldo 7 tNa23_LdI) fun v83 hv83 => ?_; cases hv83) <;> refine xL 84 q_move ?_ <;> refine xL 85 q_move ?_ <;> refine xL 86 q_move ?_ <;> refine xL 87 (q_build tSt72_LfD) ?_ <;> refine s_lit1a 88 tEl23_LdR fun h88 ho88 => ?_ <;> (refine s_app 302 88 89 tEl23_LdR fun h89 ho89 => ?_; refine aL_ent (relabel (l := 89) 302 rfl rfl) fun _ => ?_; first | refine aL_ent (recast (l := 302) rfl (snoc_mv _ (movesT rows ++ rowMv i r) ⟨(i : Nat), (o'.length : Nat), (s : Nat)⟩)) fun _ => ?_ | refine aL_ent (recast (l := 302) rfl (snoc_mv _ (movesT rows ++ rowMv i r) ⟨(i : Nat), (numAtI (clsI t) o' y : Nat), (s : Nat)⟩)) fun _ => ?_) <;> refine xL 90 (q_fldo 7 tFl25_4_LdI) ?_ <;> refine s_st 7 tNa23_LdI tSz23_LdR ?_ <;> refine aL_end (nav ?_) <;> try dsimp only)
             (refine aC_region ?_ <;> refine xL 91 q_add ?_ <;> refine xL 54 q_move ?_ <;> refine aL_end (nav ?_) <;> try dsimp only)
             try rw [show (movesT rows ++ rowMv i r) ++ [(⟨(i : Nat), (o'.length : Nat), (s : Nat)⟩ : Mv)] = movesT rows ++ rowMv i (r ++ [o'.length]) by rw [rowMv_snoc, hrl2, List.append_assoc]]
             try rw [show (movesT rows ++ rowMv i r) ++ [(⟨(i : Nat), (numAtI (clsI t) o' y : Nat), (s : Nat)⟩ : Mv)] = movesT rows ++ rowMv i (r ++ [numAtI (clsI t) o' y]) by rw [rowMv_snoc, hrl2, List.append_assoc]]
             first
              | (exact aN_again (
                  ⟨(s + 1, h89, h81, o' ++ [y], r ++ [o'.length]), (by dsimp only; exact (by have h9 := Srch.row_snoc hW (visit_new hnew2 hroom); rwa [hto] at h9)), (by dsimp only; omega), ho89, ho81⟩
                  ) (by dsimp only; omega) ⟨rfl, rfl, rfl, rfl, rfl, rfl, rfl, rfl, rfl, rfl, rfl, trivial⟩ ⟨rfl, rfl, rfl, rfl, rfl, rfl, rfl, trivial⟩)
              | (exact aN_again (
                  ⟨(s + 1, h89, hO', o', r ++ [numAtI (clsI t) o' y]), (by dsimp only; rw [hnum]; exact Srch.row_snoc hW (visit_old hold2)), (by dsimp only; omega), ho89, hO'o⟩
                  ) (by dsimp only; omega) ⟨rfl, rfl, rfl, rfl, rfl, rfl, rfl, rfl, rfl, rfl, rfl, trivial⟩ ⟨rfl, rfl, rfl, rfl, rfl, rfl, rfl, trivial⟩))
          · first
            | exact Bool.noConfusion hb69
            | (
             have hold : posK (clsI t) o' (clsI t y) < o'.length := by simpa using hb69
             have hold2 : posK (minW t).key o' ((minW t).key ((minW t).step i x s)) < o'.length := by
              rw [hto]
              show posK (clsT t) o' (clsT t y) < o'.length
              rw [← hid]; exact hold
             have hnum : numAtI (clsI t) o' y = posK (minW t).key o' ((minW t).key ((minW t).step i x s)) := by
              rw [hto]
              show numAtI (clsI t) o' y = posK (clsT t) o' (clsT t y)
              unfold numAtI
              rw [if_pos hold, hid]
             refine nav ?_
             (refine aC_region ?_ <;> refine xL 82 (q_fldo 7 tFl25_4_LdI) ?_ <;> (refine yL 83 (q_ldo 7 tNa23_LdI) fun v83 hv83 => ?_; cases hv83) <;> refine xL 84 q_move ?_ <;> refine xL 85 q_move ?_ <;> refine xL 86 q_move ?_ <;> refine xL 87 (q_build tSt72_LfD) ?_ <;> refine s_lit1a 88 tEl23_LdR fun h88 ho88 => ?_ <;> (refine s_app 302 88 89 tEl23_LdR fun h89 ho89 => ?_; refine aL_ent (relabel (l := 89) 302 rfl rfl) fun _ => ?_; first | refine aL_ent (recast (l := 302) rfl (snoc_mv _ (movesT rows ++ rowMv i r) ⟨(i : Nat), (o'.length : Nat), (s : Nat)⟩)) fun _ => ?_ | refine aL_ent (recast (l := 302) rfl (snoc_mv _ (movesT rows ++ rowMv i r) ⟨(i : Nat), (numAtI (clsI t) o' y : Nat), (s : Nat)⟩)) fun _ => ?_) <;> refine xL 90 (q_fldo 7 tFl25_4_LdI) ?_ <;> refine s_st 7 tNa23_LdI tSz23_LdR ?_ <;> refine aL_end (nav ?_) <;> try dsimp only)
             (refine aC_region ?_ <;> refine xL 91 q_add ?_ <;> refine xL 54 q_move ?_ <;> refine aL_end (nav ?_) <;> try dsimp only)
             try rw [show (movesT rows ++ rowMv i r) ++ [(⟨(i : Nat), (o'.length : Nat), (s : Nat)⟩ : Mv)] = movesT rows ++ rowMv i (r ++ [o'.length]) by rw [rowMv_snoc, hrl2, List.append_assoc]]
             try rw [show (movesT rows ++ rowMv i r) ++ [(⟨(i : Nat), (numAtI (clsI t) o' y : Nat), (s : Nat)⟩ : Mv)] = movesT rows ++ rowMv i (r ++ [numAtI (clsI t) o' y]) by rw [rowMv_snoc, hrl2, List.append_assoc]]
             first
              | (exact aN_again (
                  ⟨(s + 1, h89, h81, o' ++ [y], r ++ [o'.length]), (by dsimp only; exact (by have h9 := Srch.row_snoc hW (visit_new hnew2 hroom); rwa [hto] at h9)), (by dsimp only; omega), ho89, ho81⟩
                  ) (by dsimp only; omega) ⟨rfl, rfl, rfl, rfl, rfl, rfl, rfl, rfl, rfl, rfl, rfl, trivial⟩ ⟨rfl, rfl, rfl, rfl, rfl, rfl, rfl, trivial⟩)
              | (exact aN_again (
                  ⟨(s + 1, h89, hO', o', r ++ [numAtI (clsI t) o' y]), (by dsimp only; rw [hnum]; exact Srch.row_snoc hW (visit_old hold2)), (by dsimp only; omega), ho89, hO'o⟩
                  ) (by dsimp only; omega) ⟨rfl, rfl, rfl, rfl, rfl, rfl, rfl, rfl, rfl, rfl, rfl, trivial⟩ ⟨rfl, rfl, rfl, rfl, rfl, rfl, rfl, trivial⟩)))
       · first
         | exact Bool.noConfusion hb55
         | (
          have hsm : s = t.m := by omega
          subst hsm
          have hU2 := Srch.upto_snoc hU hx hW
          rw [show movesT rows ++ rowMv i r = movesT (rows ++ [r]) by rw [movesT_snoc, hRl]]
          rw [listedL_pre hpr (i + 1) (by omega)]
          refine nav ?_
          (refine aC_region ?_ <;> refine xL 29 q_move ?_ <;> refine xL 30 q_add ?_ <;> refine xL 8 q_assign ?_ <;> refine aL_end (nav ?_) <;> try dsimp only)
          first
           | (exact aN_again (
               ⟨(i + 1, h43, hM', hO', o', rows ++ [r]), hU2, (by dsimp only; have := hpr.length_le; omega), ho43, hM'o, hO'o⟩
               ) (by dsimp only; omega) ⟨rfl, rfl, rfl, rfl, rfl, rfl, rfl, rfl, trivial⟩ ⟨rfl, rfl, rfl, rfl, rfl, rfl, rfl, trivial⟩)
           | (exact aN_again (
               ⟨(i + 1, hF, hM', hO', o', rows ++ [r]), hU2, (by dsimp only; have := hpr.length_le; omega), hFo, hM'o, hO'o⟩
               ) (by dsimp only; omega) ⟨rfl, rfl, rfl, rfl, rfl, rfl, rfl, rfl, trivial⟩ ⟨rfl, rfl, rfl, rfl, rfl, rfl, rfl, trivial⟩)))
    · first
      | exact Bool.noConfusion hb38
      | (
       rw [if_neg (by simpa using hb38), List.append_nil] at hL1
       refine nav ?_
       (refine aC_draw (fun i => ([] : List Nat).elem i) [1, 303] (by kernel_rfl) ?_ <;> refine xD 0 45 rfl (q_fldo 1 tFl93_1_LfB) ?_ <;> (refine yD 1 46 rfl (q_ldo 1 tNa28_LfB) fun v46 hv46 => ?_; cases hv46) <;> refine xD 2 47 rfl q_move ?_ <;> refine xD 3 48 rfl q_move ?_ <;> refine xD 4 49 rfl (q_idxoN 303 tSl22_LbB) ?_ <;> (refine yD 5 50 rfl (q_ldo 303 tNa3_LbB) fun v50 hv50 => ?_; cases hv50) <;> refine xD 6 51 rfl (q_idxN tSl28_LdS) ?_ <;> (refine yD 7 52 rfl (q_ld tNa22_LdI) fun v52 hv52 => ?_; cases hv52) <;> refine xD 8 53 rfl (q_len tSl22_LbB) ?_ <;> refine xE 9 54 rfl q_move ?_ <;> refine aD_end (by kernel_rfl) (nav ?_) <;> try dsimp only)
       rw [← hL1]
       rw [show movesT rows = movesT rows ++ rowMv i ([] : List Nat) from (List.append_nil _).symm]
       refine aC_loop (ι := { q : Nat × Value × Value × List Nat × List Nat // (minW t).row i x o q.1 = some (q.2.2.2.1, q.2.2.2.2) ∧ q.1 ≤ t.m ∧ q.2.1.oneCell' = true ∧ q.2.2.1.oneCell' = true }) (fun k => ⟨[(1, _, _), (2, _, _), (3, _, _), (4, _, _), (5, _, _), (7, _, _), (8, _, _), (52, _, _), (53, _, _), (6, k.1.2.2.1, .val k.1.2.2.1), (54, .int .i64 k.1.1, pInt k.1.1)], [(1, _, _), (2, _, _), (301, _, _), (7, h7, .own 25 5 1 [pInt 0, pInt (t.m : Nat), pInts [0], _, .val k.1.2.1]), (302, k.1.2.1, .own 72 3 (movesT rows ++ rowMv i k.1.2.2.2.2).length ((movesT rows ++ rowMv i k.1.2.2.2.2).flatMap cMv)), (303, k.1.2.2.1, .own 3 1 k.1.2.2.2.1.length ((toI k.1.2.2.2.1).map pInt)), (304, h15, .omap (ikv (numE (clsI t) 0 k.1.2.2.2.1)))]⟩) (fun k => t.m - k.1.1) ⟨(0, hM, hO, o, []), rfl, Nat.zero_le _, hMo, hOo⟩ (fun a w H => H.weaken ⟨rfl, rfl, rfl, rfl, rfl, rfl, rfl, rfl, rfl, rfl, rfl, trivial⟩ ⟨rfl, rfl, rfl, rfl, rfl, rfl, rfl, trivial⟩) ?_
       rintro ⟨⟨s, hM', hO', o', r⟩, hW, hs, hM'o, hO'o⟩
       dsimp only
       dsimp only at hW hs hM'o hO'o
       obtain ⟨hMt, hpr, hrl2, _⟩ := hOk.toMet.row (fun s _ => toT_lt ht) (show s ≤ (minW t).m from hs) hW
       have hcap' : o'.length ≤ t.rows.length := hMt.cap
       have htl' := toI_len o'
       have hmr := mv_room (n := i) hrw hm1 (by omega) (show r.length ≤ t.m by omega)
       refine nav ?_
       (refine aC_region ?_ <;> refine xL 55 q_lss ?_ <;> refine aL_end (nav ?_) <;> try dsimp only)
       (first | refine cCd ?_ ?_ | refine cC ?_ ?_) <;> intro hb55
       · first
         | exact Bool.noConfusion hb55
         | (
          obtain ⟨y, hy⟩ := get_some (show s < row.length by omega)
          have hyn := hrt y (List.mem_of_getElem? hy)
          have e4 : ((toI row).map pInt)[s * 1]? = some (pInt (y : Nat)) := by rw [Nat.mul_one, List.getElem?_map]; unfold toI; rw [List.getElem?_map, hy]; rfl
          have e5 := vec_at1 (fun s => pInt (clsT t s : Nat)) hyn
          have hto : (minW t).step i x s = y := toT_at hrow hy
          have hid := clsI_id t o' y
          refine nav ?_
          (refine aC_region ?_ <;> refine xL 56 q_move ?_ <;> refine xL 57 (q_idxN tSl22_LbB) ?_ <;> (refine yL 58 (q_ld tNa3_LbB) fun v58 hv58 => ?_; cases hv58) <;> refine xL 9 q_assign ?_ <;> refine xL 10 q_assign ?_ <;> refine aL_end (nav ?_) <;> try dsimp only)
          (refine aC_region ?_ <;> refine xL 60 q_move ?_ <;> refine xL 61 q_move ?_ <;> refine xL 62 q_move ?_ <;> refine xL 63 (q_idxN tSl22_LbB) ?_ <;> (refine yL 64 (q_ld tNa3_LbB) fun v64 hv64 => ?_; cases hv64) <;> refine xL 65 (q_num2I (f := clsI t) (L := o') (a := y) 304 tMp132_LfD rfl rfl) ?_ <;> refine xL 59 q_move ?_ <;> refine xL 66 q_extract ?_ <;> refine xL 67 q_extract ?_ <;> refine xL 11 q_assign ?_ <;> refine xL 12 q_assign ?_ <;> refine aL_end (nav ?_) <;> try dsimp only)
          (refine aC_region ?_ <;> refine xL 68 q_move ?_ <;> refine xL 69 q_not ?_ <;> refine aL_end (nav ?_) <;> try dsimp only)
          (first | refine cCd ?_ ?_ | refine cC ?_ ?_) <;> intro hb69
          · first
            | exact Bool.noConfusion hb69
            | (
             have hnew : ¬ posK (clsI t) o' (clsI t y) < o'.length := by simpa using hb69
             have hnew2 : ¬ posK (minW t).key o' ((minW t).key ((minW t).step i x s)) < o'.length := by
              rw [hto]
              show ¬ posK (clsT t) o' (clsT t y) < o'.length
              rw [← hid]; exact hnew
             have hroom := min_visit ht hMt (show (minW t).step i x s < t.rows.length by rw [hto]; exact hyn) hnew2
             refine nav ?_
             (refine aC_region ?_ <;> refine xL 70 q_move ?_ <;> refine xL 71 (q_leno 303 tSl22_LbB) ?_ <;> refine xL 11 q_assign ?_ <;> refine aL_end (nav ?_) <;> try dsimp only)
             (refine aC_region ?_ <;> refine xL 72 q_move ?_ <;> refine xL 73 q_move ?_ <;> refine xL 74 q_move ?_ <;> refine xL 75 (q_idxN tSl22_LbB) ?_ <;> (refine yL 76 (q_ld tNa3_LbB) fun v76 hv76 => ?_; cases hv76) <;> refine xL 77 q_move ?_ <;> (refine s_mput 304 tMp132_LfD ?_; rw [show mput (ikv (numE (clsI t) 0 o')) (.int .i64 ((clsT t y : Nat) : Int)) (.int .i64 ((o'.length : Nat) : Int)) = ikv (numE (clsI t) 0 (o' ++ [y])) from num_putI hnew]) <;> refine aL_end (nav ?_) <;> try dsimp only)
             (refine aC_region ?_ <;> refine xL 78 q_move ?_ <;> refine xL 79 q_move ?_ <;> refine s_lit1 (kk := 1) 80 tEl22_LdI fun h80 ho80 => ?_ <;> (refine s_app 303 80 81 tEl22_LdI fun h81 ho81 => ?_; refine aL_ent (relabel (l := 81) 303 rfl rfl) fun _ => ?_; refine aL_ent (recast (l := 303) rfl (own_nats _ o' y)) fun _ => ?_) <;> refine xL 6 q_assign ?_ <;> refine aL_end (nav ?_) <;> try dsimp only)
             (refine aC_region ?_ <;> refine xL 82 (q_fldo 7 tFl25_4_LdI) ?_ <;> (refine yL 83 (q_ldo 7 tNa23_LdI) fun v83 hv83 => ?_; cases hv83) <;> refine xL 84 q_move ?_ <;> refine xL 85 q_move ?_ <;> refine xL 86 q_move ?_ <;> refine xL 87 (q_build tSt72_LfD) ?_ <;> refine s_lit1a 88 tEl23_LdR fun h88 ho88 => ?_ <;> (refine s_app 302 88 89 tEl23_LdR fun h89 ho89 => ?_; refine aL_ent (relabel (l := 89) 302 rfl rfl) fun _ => ?_; first | refine aL_ent (recast (l := 302) rfl (snoc_mv _ (movesT rows ++ rowMv i r) ⟨(i : Nat), (o'.length : Nat), (s : Nat)⟩)) fun _ => ?_ | refine aL_ent (recast (l := 302) rfl (snoc_mv _ (movesT rows ++ rowMv i r) ⟨(i : Nat), (numAtI (clsI t) o' y : Nat), (s : Nat)⟩)) fun _ => ?_) <;> refine xL 90 (q_fldo 7 tFl25_4_LdI) ?_ <;> refine s_st 7 tNa23_LdI tSz23_LdR ?_ <;> refine aL_end (nav ?_) <;> try dsimp only)
             (refine aC_region ?_ <;> refine xL 91 q_add ?_ <;> refine xL 54 q_move ?_ <;> refine aL_end (nav ?_) <;> try dsimp only)
             try rw [show (movesT rows ++ rowMv i r) ++ [(⟨(i : Nat), (o'.length : Nat), (s : Nat)⟩ : Mv)] = movesT rows ++ rowMv i (r ++ [o'.length]) by rw [rowMv_snoc, hrl2, List.append_assoc]]
             try rw [show (movesT rows ++ rowMv i r) ++ [(⟨(i : Nat), (numAtI (clsI t) o' y : Nat), (s : Nat)⟩ : Mv)] = movesT rows ++ rowMv i (r ++ [numAtI (clsI t) o' y]) by rw [rowMv_snoc, hrl2, List.append_assoc]]
             first
              | (exact aN_again (
                  ⟨(s + 1, h89, h81, o' ++ [y], r ++ [o'.length]), (by dsimp only; exact (by have h9 := Srch.row_snoc hW (visit_new hnew2 hroom); rwa [hto] at h9)), (by dsimp only; omega), ho89, ho81⟩
                  ) (by dsimp only; omega) ⟨rfl, rfl, rfl, rfl, rfl, rfl, rfl, rfl, rfl, rfl, rfl, trivial⟩ ⟨rfl, rfl, rfl, rfl, rfl, rfl, rfl, trivial⟩)
              | (exact aN_again (
                  ⟨(s + 1, h89, hO', o', r ++ [numAtI (clsI t) o' y]), (by dsimp only; rw [hnum]; exact Srch.row_snoc hW (visit_old hold2)), (by dsimp only; omega), ho89, hO'o⟩
                  ) (by dsimp only; omega) ⟨rfl, rfl, rfl, rfl, rfl, rfl, rfl, rfl, rfl, rfl, rfl, trivial⟩ ⟨rfl, rfl, rfl, rfl, rfl, rfl, rfl, trivial⟩))
          · first
            | exact Bool.noConfusion hb69
            | (
             have hold : posK (clsI t) o' (clsI t y) < o'.length := by simpa using hb69
             have hold2 : posK (minW t).key o' ((minW t).key ((minW t).step i x s)) < o'.length := by
              rw [hto]
              show posK (clsT t) o' (clsT t y) < o'.length
              rw [← hid]; exact hold
             have hnum : numAtI (clsI t) o' y = posK (minW t).key o' ((minW t).key ((minW t).step i x s)) := by
              rw [hto]
              show numAtI (clsI t) o' y = posK (clsT t) o' (clsT t y)
              unfold numAtI
              rw [if_pos hold, hid]
             refine nav ?_
             (refine aC_region ?_ <;> refine xL 82 (q_fldo 7 tFl25_4_LdI) ?_ <;> (refine yL 83 (q_ldo 7 tNa23_LdI) fun v83 hv83 => ?_; cases hv83) <;> refine xL 84 q_move ?_ <;> refine xL 85 q_move ?_ <;> refine xL 86 q_move ?_ <;> refine xL 87 (q_build tSt72_LfD) ?_ <;> refine s_lit1a 88 tEl23_LdR fun h88 ho88 => ?_ <;> (refine s_app 302 88 89 tEl23_LdR fun h89 ho89 => ?_; refine aL_ent (relabel (l := 89) 302 rfl rfl) fun _ => ?_; first | refine aL_ent (recast (l := 302) rfl (snoc_mv _ (movesT rows ++ rowMv i r) ⟨(i : Nat), (o'.length : Nat), (s : Nat)⟩)) fun _ => ?_ | refine aL_ent (recast (l := 302) rfl (snoc_mv _ (movesT rows ++ rowMv i r) ⟨(i : Nat), (numAtI (clsI t) o' y : Nat), (s : Nat)⟩)) fun _ => ?_) <;> refine xL 90 (q_fldo 7 tFl25_4_LdI) ?_ <;> refine s_st 7 tNa23_LdI tSz23_LdR ?_ <;> refine aL_end (nav ?_) <;> try dsimp only)
             (refine aC_region ?_ <;> refine xL 91 q_add ?_ <;> refine xL 54 q_move ?_ <;> refine aL_end (nav ?_) <;> try dsimp only)
             try rw [show (movesT rows ++ rowMv i r) ++ [(⟨(i : Nat), (o'.length : Nat), (s : Nat)⟩ : Mv)] = movesT rows ++ rowMv i (r ++ [o'.length]) by rw [rowMv_snoc, hrl2, List.append_assoc]]
             try rw [show (movesT rows ++ rowMv i r) ++ [(⟨(i : Nat), (numAtI (clsI t) o' y : Nat), (s : Nat)⟩ : Mv)] = movesT rows ++ rowMv i (r ++ [numAtI (clsI t) o' y]) by rw [rowMv_snoc, hrl2, List.append_assoc]]
             first
              | (exact aN_again (
                  ⟨(s + 1, h89, h81, o' ++ [y], r ++ [o'.length]), (by dsimp only; exact (by have h9 := Srch.row_snoc hW (visit_new hnew2 hroom); rwa [hto] at h9)), (by dsimp only; omega), ho89, ho81⟩
                  ) (by dsimp only; omega) ⟨rfl, rfl, rfl, rfl, rfl, rfl, rfl, rfl, rfl, rfl, rfl, trivial⟩ ⟨rfl, rfl, rfl, rfl, rfl, rfl, rfl, trivial⟩)
              | (exact aN_again (
                  ⟨(s + 1, h89, hO', o', r ++ [numAtI (clsI t) o' y]), (by dsimp only; rw [hnum]; exact Srch.row_snoc hW (visit_old hold2)), (by dsimp only; omega), ho89, hO'o⟩
                  ) (by dsimp only; omega) ⟨rfl, rfl, rfl, rfl, rfl, rfl, rfl, rfl, rfl, rfl, rfl, trivial⟩ ⟨rfl, rfl, rfl, rfl, rfl, rfl, rfl, trivial⟩)))
       · first
         | exact Bool.noConfusion hb55
         | (
          have hsm : s = t.m := by omega
          subst hsm
          have hU2 := Srch.upto_snoc hU hx hW
          rw [show movesT rows ++ rowMv i r = movesT (rows ++ [r]) by rw [movesT_snoc, hRl]]
          rw [listedL_pre hpr (i + 1) (by omega)]
          refine nav ?_
          (refine aC_region ?_ <;> refine xL 29 q_move ?_ <;> refine xL 30 q_add ?_ <;> refine xL 8 q_assign ?_ <;> refine aL_end (nav ?_) <;> try dsimp only)
          first
           | (exact aN_again (
               ⟨(i + 1, h43, hM', hO', o', rows ++ [r]), hU2, (by dsimp only; have := hpr.length_le; omega), ho43, hM'o, hO'o⟩
               ) (by dsimp only; omega) ⟨rfl, rfl, rfl, rfl, rfl, rfl, rfl, rfl, trivial⟩ ⟨rfl, rfl, rfl, rfl, rfl, rfl, rfl, trivial⟩)
           | (exact aN_again (
               ⟨(i + 1, hF, hM', hO', o', rows ++ [r]), hU2, (by dsimp only; have := hpr.length_le; omega), hFo, hM'o, hO'o⟩
               ) (by dsimp only; omega) ⟨rfl, rfl, rfl, rfl, rfl, rfl, rfl, rfl, trivial⟩ ⟨rfl, rfl, rfl, rfl, rfl, rfl, rfl, trivial⟩))))
 · first
   | exact Bool.noConfusion hb28
   | (
    have hio : i = o.length := by omega
    subst hio
    have hA := Srch.all_some hU (Nat.le_refl _) (show o.length ≤ (minW t).cap from hcap)
    refine nav ?_
    (refine aC_region ?_ <;> refine xL 92 q_move ?_ <;> refine xL 93 (q_leno 303 tSl22_LbB) ?_ <;> refine xL 94 (q_fldo 7 tFl25_0_LdI) ?_ <;> refine s_st 7 tNa3_LbB tSz3_LdJ ?_ <;> refine aL_end (nav ?_) <;> try dsimp only)
    (refine aC_region ?_ <;> refine xL 95 (q_fldo 7 tFl25_4_LdI) ?_ <;> (refine yL 96 (q_ldo 7 tNa23_LdI) fun v96 hv96 => ?_; cases hv96) <;> refine xL 97 (q_leno 302 tSl23_LdI) ?_ <;> refine xL 98 q_gtr ?_ <;> refine aL_end (nav ?_) <;> try dsimp only)
    (first | refine cCd ?_ ?_ | refine cC ?_ ?_) <;> intro hb98
    · first
      | exact Bool.noConfusion hb98
      | (
       refine nav ?_
       (refine aC_region ?_ <;> refine xL 99 (q_build tSt25_LfD) ?_ <;> refine s_sta 2 tAgg25_LdS ?_ <;> refine xL 3 q_assign ?_ <;> refine aL_end (nav ?_) <;> try dsimp only)
       refine ret_cs (k := 5) 2 (by kernel_rfl) (Tryz.results72) rfl rfl rfl (Nat.le_of_ble_eq_true rfl) (by decide) rfl ?_
       unfold leastT
       rw [hA, Option.bind_some, if_pos (by dsimp only; omega)]; rfl)
    · first
      | exact Bool.noConfusion hb98
      | (
       refine nav ?_
       refine aC_ent (freezeCell (l := 7) (l' := 301) (j := 3) rfl rfl rfl rfl) fun _ => ?_
       refine aC_ent (freezeCell (l := 7) (l' := 302) (j := 4) rfl rfl rfl rfl) fun _ => ?_
       rw [share_ints _ _ _ rfl, share_mvl _ _ _ rfl]
       (refine aC_region ?_ <;> (refine yL 100 (q_ldao 7 tAgg25_LdS) fun v100 hv100 => ?_; cases hv100) <;> refine s_sta 2 tAgg25_LdS ?_ <;> refine xL 3 q_assign ?_ <;> refine aL_end (nav ?_) <;> try dsimp only)
       refine ret_cs (k := 5) 2 (by kernel_rfl) (Tryz.results72) rfl rfl rfl (Nat.le_of_ble_eq_true rfl) (by decide) rfl ?_
       unfold leastT
       rw [hA, Option.bind_some, if_neg (by dsimp only; omega)]; rfl))
theorem redL_big {a : Aut} (h : 2000 < a.n ∨ 20000 < a.moves.length) : redL a = .error 13 := by unfold redL; rw [if_pos h]
theorem redL_in {a : Aut} (h : ¬ (2000 < a.n ∨ 20000 < a.moves.length)) : redL a = redX a := by unfold redL; rw [if_neg h]
theorem lim_cases (x : Option Aut) : (∃ A, x = some A ∧ resW (lim x) = .tup [pAut A, pInt 0]) ∨ (x = none ∧ resW (lim x) = .tup [rawZ, pInt 13]) := by
 cases x with
 | none => exact .inr ⟨rfl, rfl⟩
 | some A => exact .inl ⟨A, rfl, rfl⟩
theorem res_cases (x : Except Int Aut) : (∃ A, x = .ok A ∧ resW x = .tup [pAut A, pInt 0]) ∨ (∃ e, x = .error e ∧ resW x = .tup [rawZ, pInt e]) := by
 cases x with
 | error e => exact .inr ⟨e, rfl, rfl⟩
 | ok A => exact .inl ⟨A, rfl, rfl⟩
theorem redX_some {a : Aut} {t : Tab} (h : subT a = some t) : redX a = lim (leastT t) := by unfold redX; rw [h]
theorem redX_none {a : Aut} (h : subT a = none) : redX a = .error 13 := by unfold redX; rw [h]
theorem aReduced_big (a : Aut) (hl : a.moves.length ≤ 1000000) (hb : 2000 < a.n ∨ 20000 < a.moves.length) : AF Tryz.prog 83 [pAut a] (· = .tup [rawZ, pInt 13]) := by
 refine AF.of_body 28 Tryz.func83 rfl Tryz.ntmps83 (Nat.le_of_ble_eq_true rfl) ?_
 intro w0 M0 vs hl hv
 obtain ⟨v0, rfl⟩ := len1 hl
 clear hl hv
 refine nav ?_
 (refine aC_region ?_ <;> refine s_boxa 1 5 fun h1 => ?_ <;> refine s_alloc [(.int .i64 0), (.int .i64 0), (.slice none 0 0), (.slice none 0 0), (.slice none 0 0)] 5 2 tZr25_LfD fun h2 => ?_ <;> refine xL 3 q_assign ?_ <;> refine aL_end (nav ?_) <;> try dsimp only)
 (refine aC_region ?_ <;> refine xL 6 (q_fldo 1 tFl25_0_LdI) ?_ <;> (refine yL 7 (q_ldo 1 tNa3_LbB) fun v7 hv7 => ?_; cases hv7) <;> refine xL 8 q_gtr ?_ <;> refine xL 9 q_move ?_ <;> (refine bLd 9 (fun hb9 => ?_) (fun hb9 => ?_) <;> (first | refine kL 10 ?_ | refine xL 10 (q_fldo 1 tFl25_4_LdI) ?_)) <;> (first | refine kL 11 ?_ | (refine yL 11 (q_ldo 1 tNa23_LdI) fun v11 hv11 => ?_; cases hv11)) <;> (first | refine kL 12 ?_ | refine xL 12 (q_len tSl23_LdI) ?_) <;> (first | refine kL 13 ?_ | refine xL 13 q_gtr ?_) <;> refine xL 14 q_pick ?_ <;> refine aL_end (nav ?_) <;> try dsimp only) <;> (
  (first | refine cCd ?_ ?_ | refine cC ?_ ?_) <;> intro hb14
  · refine nav ?_
    (refine aC_region ?_ <;> refine xL 15 (q_build tSt25_LfD) ?_ <;> refine s_sta 2 tAgg25_LdS ?_ <;> refine xL 3 q_assign ?_ <;> refine aL_end (nav ?_) <;> try dsimp only)
    exact ret_cs (k := 5) 2 (by kernel_rfl) (Tryz.results83) rfl rfl rfl (Nat.le_of_ble_eq_true rfl) (by decide) rfl rfl
  · exfalso
    first
     | omega
     | (simp at hb14; done)
     | (simp at hb14; omega))
theorem aReduced_none (a : Aut) (h : AOk a) (hs : subT a = none) : AF Tryz.prog 83 [pAut a] (· = .tup [rawZ, pInt 13]) := by
 have hn1 := h.n1
 have hml := h.ml
 have hS : AF Tryz.prog 114 [pAut a] (fun p => ∃ i : { i : Value × Value × Value // i.1.oneCell' = true ∧ i.2.1.oneCell' = true ∧ i.2.2.oneCell' = true }, p = .tup [.agg [.val i.1.1, .val i.1.2.1, .val i.1.2.2], pBool false]) := (aSubsets_e a h).mono fun p hp => by
  rcases hp with ⟨t, h1, _⟩ | ⟨_, u1, u2, u3, o1, o2, o3, h2⟩
  · rw [hs] at h1; cases h1
  · exact ⟨⟨(u1, u2, u3), o1, o2, o3⟩, h2⟩
 refine AF.of_body 28 Tryz.func83 rfl Tryz.ntmps83 (Nat.le_of_ble_eq_true rfl) ?_
 intro w0 M0 vs hl hv
 obtain ⟨v0, rfl⟩ := len1 hl
 clear hl hv
 refine nav ?_
 (refine aC_region ?_ <;> refine s_boxa 1 5 fun h1 => ?_ <;> refine s_alloc [(.int .i64 0), (.int .i64 0), (.slice none 0 0), (.slice none 0 0), (.slice none 0 0)] 5 2 tZr25_LfD fun h2 => ?_ <;> refine xL 3 q_assign ?_ <;> refine aL_end (nav ?_) <;> try dsimp only)
 (refine aC_region ?_ <;> refine xL 6 (q_fldo 1 tFl25_0_LdI) ?_ <;> (refine yL 7 (q_ldo 1 tNa3_LbB) fun v7 hv7 => ?_; cases hv7) <;> refine xL 8 q_gtr ?_ <;> refine xL 9 q_move ?_ <;> (refine bLd 9 (fun hb9 => ?_) (fun hb9 => ?_) <;> (first | refine kL 10 ?_ | refine xL 10 (q_fldo 1 tFl25_4_LdI) ?_)) <;> (first | refine kL 11 ?_ | (refine yL 11 (q_ldo 1 tNa23_LdI) fun v11 hv11 => ?_; cases hv11)) <;> (first | refine kL 12 ?_ | refine xL 12 (q_len tSl23_LdI) ?_) <;> (first | refine kL 13 ?_ | refine xL 13 q_gtr ?_) <;> refine xL 14 q_pick ?_ <;> refine aL_end (nav ?_) <;> try dsimp only) <;> (
  (first | refine cCd ?_ ?_ | refine cC ?_ ?_) <;> intro hb14
  · exfalso
    first
     | omega
     | (simp at hb14; done)
     | (simp at hb14; omega)
  · refine nav ?_
    (refine aC_region ?_ <;> (refine yL 17 (q_ldao 1 tAgg25_LdS) fun v17 hv17 => ?_; cases hv17) <;> (refine cPx 18 (cA Tryz.call114 hS) (fun i va18 vb18 hva18 hvb18 => ?_) (fun _ => rfl); cases hvb18; obtain ⟨⟨u1, u2, u3⟩, o1, o2, o3⟩ := i; dsimp only at o1 o2 o3 hva18 ⊢; have q1 : En.one (PV.val u1) = true := o1; have q2 : En.one (PV.val u2) = true := o2; have q3 : En.one (PV.val u3) = true := o3) <;> refine xL 16 q_move ?_ <;> refine xL 19 q_extract ?_ <;> refine xL 20 q_extract ?_ <;> refine s_alloc [(.int .i64 0), (.slice none 0 0), (.slice none 0 0)] 3 4 tZr93_LfB fun h4 => ?_ <;> refine s_sta 4 tAgg93_LfB ?_ <;> refine xL 5 q_assign ?_ <;> refine aL_end (nav ?_) <;> try dsimp only)
    (refine aC_region ?_ <;> refine xL 21 q_move ?_ <;> refine xL 22 q_not ?_ <;> refine aL_end (nav ?_) <;> try dsimp only)
    refine cCt ?_
    refine nav ?_
    (refine aC_region ?_ <;> refine xL 23 (q_build tSt25_LfD) ?_ <;> refine s_sta 2 tAgg25_LdS ?_ <;> refine xL 3 q_assign ?_ <;> refine aL_end (nav ?_) <;> try dsimp only)
    exact ret_cs (k := 5) 2 (by kernel_rfl) (Tryz.results83) rfl rfl rfl (Nat.le_of_ble_eq_true rfl) (by decide) rfl rfl)
theorem aReduced_ok (a : Aut) (h : AOk a) {t : Tab} (hs : subT a = some t) {A : Aut} (hm : AF Tryz.prog 72 [pTab t] (· = .tup [pAut A, pInt 0])) : AF Tryz.prog 83 [pAut a] (· = .tup [pAut A, pInt 0]) := by
 have hn1 := h.n1
 have hml := h.ml
 have hS : AF Tryz.prog 114 [pAut a] (· = .tup [pTab t, pBool true]) := (aSubsets_e a h).mono fun p hp => by
  rcases hp with ⟨t', h1, h2⟩ | ⟨h1, _⟩
  · rw [hs] at h1; cases h1; exact h2
  · rw [hs] at h1; cases h1
 refine AF.of_body 28 Tryz.func83 rfl Tryz.ntmps83 (Nat.le_of_ble_eq_true rfl) ?_
 intro w0 M0 vs hl hv
 obtain ⟨v0, rfl⟩ := len1 hl
 clear hl hv
 refine nav ?_
 (refine aC_region ?_ <;> refine s_boxa 1 5 fun h1 => ?_ <;> refine s_alloc [(.int .i64 0), (.int .i64 0), (.slice none 0 0), (.slice none 0 0), (.slice none 0 0)] 5 2 tZr25_LfD fun h2 => ?_ <;> refine xL 3 q_assign ?_ <;> refine aL_end (nav ?_) <;> try dsimp only)
 (refine aC_region ?_ <;> refine xL 6 (q_fldo 1 tFl25_0_LdI) ?_ <;> (refine yL 7 (q_ldo 1 tNa3_LbB) fun v7 hv7 => ?_; cases hv7) <;> refine xL 8 q_gtr ?_ <;> refine xL 9 q_move ?_ <;> (refine bLd 9 (fun hb9 => ?_) (fun hb9 => ?_) <;> (first | refine kL 10 ?_ | refine xL 10 (q_fldo 1 tFl25_4_LdI) ?_)) <;> (first | refine kL 11 ?_ | (refine yL 11 (q_ldo 1 tNa23_LdI) fun v11 hv11 => ?_; cases hv11)) <;> (first | refine kL 12 ?_ | refine xL 12 (q_len tSl23_LdI) ?_) <;> (first | refine kL 13 ?_ | refine xL 13 q_gtr ?_) <;> refine xL 14 q_pick ?_ <;> refine aL_end (nav ?_) <;> try dsimp only) <;> (
  (first | refine cCd ?_ ?_ | refine cC ?_ ?_) <;> intro hb14
  · exfalso
    first
     | omega
     | (simp at hb14; done)
     | (simp at hb14; omega)
  · refine nav ?_
    (refine aC_region ?_ <;> (refine yL 17 (q_ldao 1 tAgg25_LdS) fun v17 hv17 => ?_; cases hv17) <;> (refine cP 18 (cA Tryz.call114 (hS)) fun va18 vb18 hva18 hvb18 => ?_; cases hvb18) <;> refine xL 16 q_move ?_ <;> refine xL 19 q_extract ?_ <;> refine xL 20 q_extract ?_ <;> refine s_alloc [(.int .i64 0), (.slice none 0 0), (.slice none 0 0)] 3 4 tZr93_LfB fun h4 => ?_ <;> refine s_sta 4 tAgg93_LfB ?_ <;> refine xL 5 q_assign ?_ <;> refine aL_end (nav ?_) <;> try dsimp only)
    (refine aC_region ?_ <;> refine xL 21 q_move ?_ <;> refine xL 22 q_not ?_ <;> refine aL_end (nav ?_) <;> try dsimp only)
    refine cCf ?_
    refine nav ?_
    (refine aC_region ?_ <;> (refine yL 24 (q_ldao 4 tAgg93_LfB) fun v24 hv24 => ?_; cases hv24) <;> (refine cP 25 (cA Tryz.call72 (hm)) fun va25 vb25 hva25 hvb25 => ?_; cases hvb25) <;> refine xL 26 q_extract ?_ <;> refine xL 27 q_extract ?_ <;> refine s_sta 2 tAgg25_LdS ?_ <;> refine xL 3 q_assign ?_ <;> refine aL_end (nav ?_) <;> try dsimp only)
    exact ret_cs (k := 5) 2 (by kernel_rfl) (Tryz.results83) rfl rfl rfl (Nat.le_of_ble_eq_true rfl) (by decide) rfl rfl)
theorem aReduced_lim (a : Aut) (h : AOk a) {t : Tab} (hs : subT a = some t) (hm : AF Tryz.prog 72 [pTab t] (· = .tup [rawZ, pInt 13])) : AF Tryz.prog 83 [pAut a] (· = .tup [rawZ, pInt 13]) := by
 have hn1 := h.n1
 have hml := h.ml
 have hS : AF Tryz.prog 114 [pAut a] (· = .tup [pTab t, pBool true]) := (aSubsets_e a h).mono fun p hp => by
  rcases hp with ⟨t', h1, h2⟩ | ⟨h1, _⟩
  · rw [hs] at h1; cases h1; exact h2
  · rw [hs] at h1; cases h1
 refine AF.of_body 28 Tryz.func83 rfl Tryz.ntmps83 (Nat.le_of_ble_eq_true rfl) ?_
 intro w0 M0 vs hl hv
 obtain ⟨v0, rfl⟩ := len1 hl
 clear hl hv
 refine nav ?_
 (refine aC_region ?_ <;> refine s_boxa 1 5 fun h1 => ?_ <;> refine s_alloc [(.int .i64 0), (.int .i64 0), (.slice none 0 0), (.slice none 0 0), (.slice none 0 0)] 5 2 tZr25_LfD fun h2 => ?_ <;> refine xL 3 q_assign ?_ <;> refine aL_end (nav ?_) <;> try dsimp only)
 (refine aC_region ?_ <;> refine xL 6 (q_fldo 1 tFl25_0_LdI) ?_ <;> (refine yL 7 (q_ldo 1 tNa3_LbB) fun v7 hv7 => ?_; cases hv7) <;> refine xL 8 q_gtr ?_ <;> refine xL 9 q_move ?_ <;> (refine bLd 9 (fun hb9 => ?_) (fun hb9 => ?_) <;> (first | refine kL 10 ?_ | refine xL 10 (q_fldo 1 tFl25_4_LdI) ?_)) <;> (first | refine kL 11 ?_ | (refine yL 11 (q_ldo 1 tNa23_LdI) fun v11 hv11 => ?_; cases hv11)) <;> (first | refine kL 12 ?_ | refine xL 12 (q_len tSl23_LdI) ?_) <;> (first | refine kL 13 ?_ | refine xL 13 q_gtr ?_) <;> refine xL 14 q_pick ?_ <;> refine aL_end (nav ?_) <;> try dsimp only) <;> (
  (first | refine cCd ?_ ?_ | refine cC ?_ ?_) <;> intro hb14
  · exfalso
    first
     | omega
     | (simp at hb14; done)
     | (simp at hb14; omega)
  · refine nav ?_
    (refine aC_region ?_ <;> (refine yL 17 (q_ldao 1 tAgg25_LdS) fun v17 hv17 => ?_; cases hv17) <;> (refine cP 18 (cA Tryz.call114 (hS)) fun va18 vb18 hva18 hvb18 => ?_; cases hvb18) <;> refine xL 16 q_move ?_ <;> refine xL 19 q_extract ?_ <;> refine xL 20 q_extract ?_ <;> refine s_alloc [(.int .i64 0), (.slice none 0 0), (.slice none 0 0)] 3 4 tZr93_LfB fun h4 => ?_ <;> refine s_sta 4 tAgg93_LfB ?_ <;> refine xL 5 q_assign ?_ <;> refine aL_end (nav ?_) <;> try dsimp only)
    (refine aC_region ?_ <;> refine xL 21 q_move ?_ <;> refine xL 22 q_not ?_ <;> refine aL_end (nav ?_) <;> try dsimp only)
    refine cCf ?_
    refine nav ?_
    (refine aC_region ?_ <;> (refine yL 24 (q_ldao 4 tAgg93_LfB) fun v24 hv24 => ?_; cases hv24) <;> (refine cP 25 (cA Tryz.call72 (hm)) fun va25 vb25 hva25 hvb25 => ?_; cases hvb25) <;> refine xL 26 q_extract ?_ <;> refine xL 27 q_extract ?_ <;> refine s_sta 2 tAgg25_LdS ?_ <;> refine xL 3 q_assign ?_ <;> refine aL_end (nav ?_) <;> try dsimp only)
    exact ret_cs (k := 5) 2 (by kernel_rfl) (Tryz.results83) rfl rfl rfl (Nat.le_of_ble_eq_true rfl) (by decide) rfl rfl)
theorem aReduced_x (a : Aut) (h : AOk a) : AF Tryz.prog 83 [pAut a] (· = resW (redX a)) := by
 rcases hs : subT a with _ | t
 · rw [redX_none hs]; exact aReduced_none a h hs
 · have hm := aMinimal_e t (sub_tok h hs)
   rw [redX_some hs]
   rcases lim_cases (leastT t) with ⟨A, _, h2⟩ | ⟨_, h2⟩
   · rw [h2] at hm ⊢; exact aReduced_ok a h hs hm
   · rw [h2] at hm ⊢; exact aReduced_lim a h hs hm
theorem aReduced_e (a : Aut) (hl : a.moves.length ≤ 1000000) (h : ¬ (2000 < a.n ∨ 20000 < a.moves.length) → AOk a) : AF Tryz.prog 83 [pAut a] (· = resW (redL a)) := by
 by_cases hb : 2000 < a.n ∨ 20000 < a.moves.length
 · rw [redL_big hb]; exact aReduced_big a hl hb
 · rw [redL_in hb]; exact aReduced_x a (h hb)
theorem rr_rawZ (e : Int) : Rr (.tup [rawZ, pInt e]) (.tup [pAut autZ, pInt e]) := Rr.tup2 (Rr.agg rfl fun i p p' h1 h2 => by
 match i with
 | 0 => cases h1; cases h2; exact Rr.rfl' _
 | 1 => cases h1; cases h2; exact Rr.rfl' _
 | 2 => cases h1; cases h2; exact Rr.nil
 | 3 => cases h1; cases h2; exact Rr.nil
 | 4 => cases h1; cases h2; exact Rr.nil
 | i + 5 => simp at h1)
theorem resW_A {P : Program} {f : Nat} {ps : List PV} {x : Except Int Aut} (h : AF P f ps (· = resW x)) : AF P f ps (· = resA x) := by
 cases x with
 | ok A => exact h
 | error e => exact h.reread rfl (rr_rawZ e)
theorem aMinimalW_bad (a : Aut) (hv : autOk a = false) : AF Tryz.prog 26 [pAut a] (· = .tup [rawZ, pInt 1]) := by
 refine AF.of_body 12 Tryz.func26 rfl Tryz.ntmps26 (Nat.le_of_ble_eq_true rfl) ?_
 intro w0 M0 vs hl hv
 obtain ⟨v0, rfl⟩ := len1 hl
 clear hl hv
 refine nav ?_
 (refine aC_region ?_ <;> refine s_boxa 1 5 fun h1 => ?_ <;> refine s_alloc [(.int .i64 0), (.int .i64 0), (.slice none 0 0), (.slice none 0 0), (.slice none 0 0)] 5 2 tZr25_LfD fun h2 => ?_ <;> refine xL 3 q_assign ?_ <;> refine aL_end (nav ?_) <;> try dsimp only)
 (refine aC_region ?_ <;> (refine yL 4 (q_ldao 1 tAgg25_LdS) fun v4 hv4 => ?_; cases hv4) <;> (refine cS 5 (cA Tryz.call24 (aValid_e a)) fun v5 hv5 => ?_; cases hv5) <;> refine xL 6 q_not ?_ <;> refine aL_end (nav ?_) <;> try dsimp only)
 (first | refine cCd ?_ ?_ | refine cC ?_ ?_) <;> intro hb6
 · refine nav ?_
   (refine aC_region ?_ <;> refine xL 7 (q_build tSt25_LfD) ?_ <;> refine s_sta 2 tAgg25_LdS ?_ <;> refine xL 3 q_assign ?_ <;> refine aL_end (nav ?_) <;> try dsimp only)
   exact ret_cs (k := 5) 2 (by kernel_rfl) (Tryz.results26) rfl rfl rfl (Nat.le_of_ble_eq_true rfl) (by decide) rfl rfl
 · rw [hv] at hb6; simp at hb6
theorem aMinimalW_ok (a : Aut) (hv : autOk a = true) {A : Aut} (hm : AF Tryz.prog 83 [pAut a] (· = .tup [pAut A, pInt 0])) : AF Tryz.prog 26 [pAut a] (· = .tup [pAut A, pInt 0]) := by
 refine AF.of_body 12 Tryz.func26 rfl Tryz.ntmps26 (Nat.le_of_ble_eq_true rfl) ?_
 intro w0 M0 vs hl hv
 obtain ⟨v0, rfl⟩ := len1 hl
 clear hl hv
 refine nav ?_
 (refine aC_region ?_ <;> refine s_boxa 1 5 fun h1 => ?_ <;> refine s_alloc [(.int .i64 0), (.int .i64 0), (.slice none 0 0), (.slice none 0 0), (.slice none 0 0)] 5 2 tZr25_LfD fun h2 => ?_ <;> refine xL 3 q_assign ?_ <;> refine aL_end (nav ?_) <;> try dsimp only)
 (refine aC_region ?_ <;> (refine yL 4 (q_ldao 1 tAgg25_LdS) fun v4 hv4 => ?_; cases hv4) <;> (refine cS 5 (cA Tryz.call24 (aValid_e a)) fun v5 hv5 => ?_; cases hv5) <;> refine xL 6 q_not ?_ <;> refine aL_end (nav ?_) <;> try dsimp only)
 (first | refine cCd ?_ ?_ | refine cC ?_ ?_) <;> intro hb6
 · rw [hv] at hb6; simp at hb6
 · refine nav ?_
   (refine aC_region ?_ <;> (refine yL 8 (q_ldao 1 tAgg25_LdS) fun v8 hv8 => ?_; cases hv8) <;> (refine cP 9 (cA Tryz.call83 (hm)) fun va9 vb9 hva9 hvb9 => ?_; cases hvb9) <;> refine xL 10 q_extract ?_ <;> refine xL 11 q_extract ?_ <;> refine s_sta 2 tAgg25_LdS ?_ <;> refine xL 3 q_assign ?_ <;> refine aL_end (nav ?_) <;> try dsimp only)
   exact ret_cs (k := 5) 2 (by kernel_rfl) (Tryz.results26) rfl rfl rfl (Nat.le_of_ble_eq_true rfl) (by decide) rfl rfl
theorem aMinimalW_err (a : Aut) (hv : autOk a = true) {e : Int} (hm : AF Tryz.prog 83 [pAut a] (· = .tup [rawZ, pInt e])) : AF Tryz.prog 26 [pAut a] (· = .tup [rawZ, pInt e]) := by
 refine AF.of_body 12 Tryz.func26 rfl Tryz.ntmps26 (Nat.le_of_ble_eq_true rfl) ?_
 intro w0 M0 vs hl hv
 obtain ⟨v0, rfl⟩ := len1 hl
 clear hl hv
 refine nav ?_
 (refine aC_region ?_ <;> refine s_boxa 1 5 fun h1 => ?_ <;> refine s_alloc [(.int .i64 0), (.int .i64 0), (.slice none 0 0), (.slice none 0 0), (.slice none 0 0)] 5 2 tZr25_LfD fun h2 => ?_ <;> refine xL 3 q_assign ?_ <;> refine aL_end (nav ?_) <;> try dsimp only)
 (refine aC_region ?_ <;> (refine yL 4 (q_ldao 1 tAgg25_LdS) fun v4 hv4 => ?_; cases hv4) <;> (refine cS 5 (cA Tryz.call24 (aValid_e a)) fun v5 hv5 => ?_; cases hv5) <;> refine xL 6 q_not ?_ <;> refine aL_end (nav ?_) <;> try dsimp only)
 (first | refine cCd ?_ ?_ | refine cC ?_ ?_) <;> intro hb6
 · rw [hv] at hb6; simp at hb6
 · refine nav ?_
   (refine aC_region ?_ <;> (refine yL 8 (q_ldao 1 tAgg25_LdS) fun v8 hv8 => ?_; cases hv8) <;> (refine cP 9 (cA Tryz.call83 (hm)) fun va9 vb9 hva9 hvb9 => ?_; cases hvb9) <;> refine xL 10 q_extract ?_ <;> refine xL 11 q_extract ?_ <;> refine s_sta 2 tAgg25_LdS ?_ <;> refine xL 3 q_assign ?_ <;> refine aL_end (nav ?_) <;> try dsimp only)
   exact ret_cs (k := 5) 2 (by kernel_rfl) (Tryz.results26) rfl rfl rfl (Nat.le_of_ble_eq_true rfl) (by decide) rfl rfl
theorem aMinimalW_e (a : Aut) : AF Tryz.prog 26 [pAut a] (· = resW (minX a)) := by
 unfold minX
 cases hv : autOk a with
 | false => rw [if_neg (by simp)]; exact aMinimalW_bad a hv
 | true =>
   rw [if_pos rfl]
   have hm := aReduced_x a (aok_of hv)
   rcases res_cases (redX a) with ⟨A, _, h2⟩ | ⟨e, _, h2⟩
   · rw [h2] at hm ⊢; exact aMinimalW_ok a hv hm
   · rw [h2] at hm ⊢; exact aMinimalW_err a hv hm
theorem ikv_put (m : List (Int × Value)) (x : Int) : mput (ikv m) (.int .i64 x) (.bool true) = ikv (aput m x (.bool true)) := mput_ikv _ _ _
theorem ins_look (l : List Int) (s : Int) : (mget (ikv (insL l)) (.int .i64 s)).getD (.bool false) = .bool (hasI l s) := by rw [mget_ikv, insL_get]
theorem aComplement_err (a : Aut) {e : Int} (he : ¬ e = 0) (hm : AF Tryz.prog 26 [pAut a] (· = .tup [rawZ, pInt e])) : AF Tryz.prog 28 [pAut a] (· = .tup [rawZ, pInt e]) := by
 refine AF.of_body 48 Tryz.func28 rfl Tryz.ntmps28 (Nat.le_of_ble_eq_true rfl) ?_
 intro w0 M0 vs hl hv
 obtain ⟨v0, rfl⟩ := len1 hl
 clear hl hv
 refine nav ?_
 (refine aC_region ?_ <;> refine s_boxa 1 5 fun h1 => ?_ <;> refine s_alloc [(.int .i64 0), (.int .i64 0), (.slice none 0 0), (.slice none 0 0), (.slice none 0 0)] 5 2 tZr25_LfD fun h2 => ?_ <;> refine xL 3 q_assign ?_ <;> refine aL_end (nav ?_) <;> try dsimp only)
 (refine aC_region ?_ <;> (refine yL 11 (q_ldao 1 tAgg25_LdS) fun v11 hv11 => ?_; cases hv11) <;> (refine cP 12 (cA Tryz.call26 (hm)) fun va12 vb12 hva12 hvb12 => ?_; cases hvb12) <;> refine xL 10 q_move ?_ <;> refine xL 13 q_extract ?_ <;> refine xL 14 q_extract ?_ <;> refine s_alloc [(.int .i64 0), (.int .i64 0), (.slice none 0 0), (.slice none 0 0), (.slice none 0 0)] 5 4 tZr25_LfD fun h4 => ?_ <;> refine s_sta 4 tAgg25_LdS ?_ <;> refine xL 5 q_assign ?_ <;> refine aL_end (nav ?_) <;> try dsimp only)
 (refine aC_region ?_ <;> refine xL 15 q_move ?_ <;> refine xL 16 q_neq ?_ <;> refine aL_end (nav ?_) <;> try dsimp only)
 (first | refine cCd ?_ ?_ | refine cC ?_ ?_) <;> intro hb16
 · refine nav ?_
   (refine aC_region ?_ <;> refine xL 17 (q_build tSt25_LfD) ?_ <;> refine xL 18 q_move ?_ <;> refine s_sta 2 tAgg25_LdS ?_ <;> refine xL 3 q_assign ?_ <;> refine aL_end (nav ?_) <;> try dsimp only)
   exact ret_cs (k := 5) 2 (by kernel_rfl) (Tryz.results28) rfl rfl rfl (Nat.le_of_ble_eq_true rfl) (by decide) rfl rfl
 · exfalso; omega
theorem aComplement_ok (a : Aut) {A : Aut} (hA : AOk A) (hm : AF Tryz.prog 26 [pAut a] (· = .tup [pAut A, pInt 0])) : AF Tryz.prog 28 [pAut a] (· = .tup [pAut (compA A), pInt 0]) := by
 have hn0 := hA.n0
 have hn1 := hA.n1
 have hfl := hA.fl
 refine AF.of_body 48 Tryz.func28 rfl Tryz.ntmps28 (Nat.le_of_ble_eq_true rfl) ?_
 intro w0 M0 vs hl hv
 obtain ⟨v0, rfl⟩ := len1 hl
 clear hl hv
 refine nav ?_
 (refine aC_region ?_ <;> refine s_boxa 1 5 fun h1 => ?_ <;> refine s_alloc [(.int .i64 0), (.int .i64 0), (.slice none 0 0), (.slice none 0 0), (.slice none 0 0)] 5 2 tZr25_LfD fun h2 => ?_ <;> refine xL 3 q_assign ?_ <;> refine aL_end (nav ?_) <;> try dsimp only)
 (refine aC_region ?_ <;> (refine yL 11 (q_ldao 1 tAgg25_LdS) fun v11 hv11 => ?_; cases hv11) <;> (refine cP 12 (cA Tryz.call26 (hm)) fun va12 vb12 hva12 hvb12 => ?_; cases hvb12) <;> refine xL 10 q_move ?_ <;> refine xL 13 q_extract ?_ <;> refine xL 14 q_extract ?_ <;> refine s_alloc [(.int .i64 0), (.int .i64 0), (.slice none 0 0), (.slice none 0 0), (.slice none 0 0)] 5 4 tZr25_LfD fun h4 => ?_ <;> refine s_sta 4 tAgg25_LdS ?_ <;> refine xL 5 q_assign ?_ <;> refine aL_end (nav ?_) <;> try dsimp only)
 (refine aC_region ?_ <;> refine xL 15 q_move ?_ <;> refine xL 16 q_neq ?_ <;> refine aL_end (nav ?_) <;> try dsimp only)
 (first | refine cCd ?_ ?_ | refine cC ?_ ?_) <;> intro hb16
 · exfalso; exact hb16 rfl
 · refine nav ?_
   (refine aC_region ?_ <;> refine s_mkmap 19 fun h19 ho19 => ?_ <;> refine xL 6 q_assign ?_ <;> refine aL_end (nav ?_) <;> try dsimp only)
   refine aC_ent (recast (l := 19) (p' := .omap (ikv (insL (A.fin.take 0)))) rfl rfl) fun _ => ?_
   (refine aC_region ?_ <;> refine xL 20 (q_fldo 4 tFl25_3_LdI) ?_ <;> (refine yL 21 (q_ldo 4 tNa22_LdI) fun v21 hv21 => ?_; cases hv21) <;> refine xL 22 (q_len tSl22_LbB) ?_ <;> refine xL 23 q_move ?_ <;> refine aL_end (nav ?_) <;> try dsimp only)
   refine aC_loop (ι := { k : Nat // k ≤ A.fin.length }) (fun k => ⟨[(1, _, _), (2, _, _), (3, _, _), (4, _, _), (6, _, _), (21, _, _), (22, _, _), (23, .int .i64 k.1, pInt k.1)], [(1, _, _), (2, _, _), (4, _, _), (19, h19, .omap (ikv (insL (A.fin.take k.1))))]⟩) (fun k => A.fin.length - k.1) ⟨0, Nat.zero_le _⟩ (fun a w H => H.weaken ⟨rfl, rfl, rfl, rfl, rfl, rfl, rfl, rfl, trivial⟩ ⟨rfl, rfl, rfl, rfl, trivial⟩) ?_
   rintro ⟨k, hk⟩
   dsimp only
   refine nav ?_
   (refine aC_region ?_ <;> refine xL 24 q_lss ?_ <;> refine aL_end (nav ?_) <;> try dsimp only)
   (first | refine cCd ?_ ?_ | refine cC ?_ ?_) <;> intro hb24
   · first
     | exact Bool.noConfusion hb24
     | (
      obtain ⟨x, hx⟩ := get_some (show k < A.fin.length by omega)
      have e1 := map_at (f := pInt) hx
      refine nav ?_
      (refine aC_region ?_ <;> refine xL 25 (q_idxN tSl22_LbB) ?_ <;> (refine yL 26 (q_ld tNa3_LbB) fun v26 hv26 => ?_; cases hv26) <;> refine xL 8 q_assign ?_ <;> refine aL_end (nav ?_) <;> try dsimp only)
      (refine aC_region ?_ <;> refine xL 27 q_move ?_ <;> refine xL 28 q_move ?_ <;> (refine s_mput 19 tMp113_LdK ?_; rw [ikv_put, ← insL_snoc hx]) <;> refine aL_end (nav ?_) <;> try dsimp only)
      (refine aC_region ?_ <;> refine xL 29 q_add ?_ <;> refine xL 23 q_move ?_ <;> refine aL_end (nav ?_) <;> try dsimp only)
      refine aN_again (
       ⟨k + 1, lt_of_get hx⟩
       ) (by dsimp only; omega) ⟨rfl, rfl, rfl, rfl, rfl, rfl, rfl, rfl, trivial⟩ ⟨rfl, rfl, rfl, rfl, trivial⟩)
   · first
     | exact Bool.noConfusion hb24
     | (
      rw [List.take_of_length_le (show A.fin.length ≤ k by omega)]
      refine nav ?_
      (refine aC_region ?_ <;> refine xL 30 (q_fldo 4 tFl25_3_LdI) ?_ <;> refine s_st 4 tNa22_LdI tSz22_LdK ?_ <;> refine aL_end (nav ?_) <;> try dsimp only)
      refine aC_ent (nilCells (l := 4) [pInt A.n, pInt A.syms, pInts A.start, .own 3 1 0 [], pMvs A.moves] rfl rfl (fun i p p' h1 h2 => by
       match i with
       | 0 => cases h1; cases h2; exact .inl rfl
       | 1 => cases h1; cases h2; exact .inl rfl
       | 2 => cases h1; cases h2; exact .inl rfl
       | 3 => cases h1; cases h2; exact .inr ⟨rfl, _, _, rfl⟩
       | 4 => cases h1; cases h2; exact .inl rfl
       | i + 5 => simp at h2)) fun _ => ?_
      refine aC_ent (focusO (l := 4) (l' := 301) (j := 3) rfl rfl rfl rfl) fun i => ?_
      obtain ⟨v301, ho301⟩ := i
      dsimp only [List.set]
      (refine aC_region ?_ <;> refine xL 31 (q_fldo 4 tFl25_0_LdI) ?_ <;> (refine yL 32 (q_ldo 4 tNa3_LbB) fun v32 hv32 => ?_; cases hv32) <;> refine xL 33 q_move ?_ <;> refine aL_end (nav ?_) <;> try dsimp only)
      refine aC_loop (ι := { q : Nat × Value // q.1 ≤ A.n.toNat ∧ q.2.oneCell' = true }) (fun k => ⟨[(1, _, _), (2, _, _), (3, _, _), (4, _, _), (6, _, _), (32, _, _), (33, .int .i64 k.1.1, pInt k.1.1)], [(1, _, _), (2, _, _), (19, _, _), (4, h4, .own 25 5 1 [pInt A.n, pInt A.syms, pInts A.start, .val k.1.2, pMvs A.moves]), (301, k.1.2, .own 3 1 (listedL k.1.1 fun i => !finB A (i : Nat)).length ((listedL k.1.1 fun i => !finB A (i : Nat)).map pInt))]⟩) (fun k => A.n.toNat - k.1.1) ⟨(0, v301), Nat.zero_le _, ho301⟩ (fun a w H => H.weaken ⟨rfl, rfl, rfl, rfl, rfl, rfl, rfl, trivial⟩ ⟨rfl, rfl, rfl, rfl, rfl, trivial⟩) ?_
      rintro ⟨⟨s, hF⟩, hs, hFo⟩
      dsimp only
      dsimp only at hs hFo
      have hll := listedL_len s fun i => !finB A (i : Nat)
      have hL1 := listedL_snoc s fun i => !finB A (i : Nat)
      refine nav ?_
      (refine aC_region ?_ <;> refine xL 34 q_lss ?_ <;> refine aL_end (nav ?_) <;> try dsimp only)
      (first | refine cCd ?_ ?_ | refine cC ?_ ?_) <;> intro hb34
      · first
        | exact Bool.noConfusion hb34
        | (
         refine nav ?_
         (refine aC_region ?_ <;> refine xL 35 q_move ?_ <;> refine xL 9 q_assign ?_ <;> refine aL_end (nav ?_) <;> try dsimp only)
         (refine aC_region ?_ <;> refine xL 36 q_move ?_ <;> refine xL 37 q_move ?_ <;> refine xL 38 (q_lookoE 19 tMp113_LdK (hk := kok_ikv _ _) (hu := ins_look A.fin s)) ?_ <;> refine xL 39 q_not ?_ <;> refine aL_end (nav ?_) <;> try dsimp only)
         (first | refine cCd ?_ ?_ | refine cC ?_ ?_) <;> intro hb39
         · first
           | exact Bool.noConfusion hb39
           | (
            rw [if_pos (show (!finB A (s : Nat)) = true from hb39)] at hL1
            refine nav ?_
            (refine aC_region ?_ <;> refine xL 40 (q_fldo 4 tFl25_3_LdI) ?_ <;> (refine yL 41 (q_ldo 4 tNa22_LdI) fun v41 hv41 => ?_; cases hv41) <;> refine xL 42 q_move ?_ <;> refine s_lit1 (kk := 1) 43 tEl22_LdI fun h43 ho43 => ?_ <;> (refine s_app 301 43 44 tEl22_LdI fun h44 ho44 => ?_; refine aL_ent (relabel (l := 44) 301 rfl rfl) fun _ => ?_; refine aL_ent (recast (l := 301) rfl (own_ints _ (listedL s fun i => !finB A (i : Nat)) s)) fun _ => ?_) <;> refine xL 45 (q_fldo 4 tFl25_3_LdI) ?_ <;> refine s_st 4 tNa22_LdI tSz22_LdK ?_ <;> refine aL_end (nav ?_) <;> try dsimp only)
            (refine aC_region ?_ <;> refine xL 46 q_add ?_ <;> refine xL 33 q_move ?_ <;> refine aL_end (nav ?_) <;> try dsimp only)
            rw [← hL1]
            first
             | (exact aN_again (
                 ⟨(s + 1, h44), by dsimp only; omega, ho44⟩
                 ) (by dsimp only; omega) ⟨rfl, rfl, rfl, rfl, rfl, rfl, rfl, trivial⟩ ⟨rfl, rfl, rfl, rfl, rfl, trivial⟩)
             | (exact aN_again (
                 ⟨(s + 1, hF), by dsimp only; omega, hFo⟩
                 ) (by dsimp only; omega) ⟨rfl, rfl, rfl, rfl, rfl, rfl, rfl, trivial⟩ ⟨rfl, rfl, rfl, rfl, rfl, trivial⟩))
         · first
           | exact Bool.noConfusion hb39
           | (
            rw [if_neg (show ¬ (!finB A (s : Nat)) = true by rw [show (!finB A (s : Nat)) = false from hb39]; simp), List.append_nil] at hL1
            refine nav ?_
            (refine aC_region ?_ <;> refine xL 46 q_add ?_ <;> refine xL 33 q_move ?_ <;> refine aL_end (nav ?_) <;> try dsimp only)
            rw [← hL1]
            first
             | (exact aN_again (
                 ⟨(s + 1, h44), by dsimp only; omega, ho44⟩
                 ) (by dsimp only; omega) ⟨rfl, rfl, rfl, rfl, rfl, rfl, rfl, trivial⟩ ⟨rfl, rfl, rfl, rfl, rfl, trivial⟩)
             | (exact aN_again (
                 ⟨(s + 1, hF), by dsimp only; omega, hFo⟩
                 ) (by dsimp only; omega) ⟨rfl, rfl, rfl, rfl, rfl, rfl, rfl, trivial⟩ ⟨rfl, rfl, rfl, rfl, rfl, trivial⟩)))
      · first
        | exact Bool.noConfusion hb34
        | (
         have hsn : s = A.n.toNat := by omega
         subst hsn
         refine nav ?_
         refine aC_ent (freezeCell (l := 4) (l' := 301) (j := 3) rfl rfl rfl rfl) fun _ => ?_
         rw [share_ints _ _ _ rfl]
         (refine aC_region ?_ <;> (refine yL 47 (q_ldao 4 tAgg25_LdS) fun v47 hv47 => ?_; cases hv47) <;> refine s_sta 2 tAgg25_LdS ?_ <;> refine xL 3 q_assign ?_ <;> refine aL_end (nav ?_) <;> try dsimp only)
         exact ret_cs (k := 5) 2 (by kernel_rfl) (Tryz.results28) rfl rfl rfl (Nat.le_of_ble_eq_true rfl) (by decide) rfl rfl))
theorem minX_err {a : Aut} {e : Int} (h : minX a = .error e) : ¬ e = 0 := by
 unfold minX redX at h
 split at h
 · split at h
   · rename_i t _
     cases hl : leastT t with
     | some A => rw [hl] at h; cases h
     | none => rw [hl] at h; cases h; decide
   · cases h; decide
 · cases h; decide
theorem aComplement_e (a : Aut) : AF Tryz.prog 28 [pAut a] (· = resW (compX a)) := by
 have hm := aMinimalW_e a
 unfold compX
 cases hx : minX a with
 | error e => rw [hx] at hm; exact aComplement_err a (minX_err hx) hm
 | ok A =>
   rw [hx] at hm
   obtain ⟨h1, h2⟩ := minX_ok hx
   exact aComplement_ok a (redX_aok (aok_of h1) h2) hm
end Go.Proofs.YtgigclnaicbiaaaGreatDoor
namespace Go.En
open Go.RowKit Go.Cb
set_option linter.all false
section
variable {P : Program} {st : St} {o : Oper} {x y : Operand} {q q' : PV} {t t' : TypeId}
end
section
variable {P : Program} {c : Ctx} {sL hP : List (Nat × Ent)}
theorem ret_hcs {fn : Func} {R : Value → PV → List (Nat × Ent) → Prop} {t ty s k e k' n : Nat} {h u : Value} {q p : PV} {cs : List PV} (l : Nat) (H' : List (Nat × Ent)) (hT : AggT P ty k = true) (hr : fn.results = #[.cell t ty, .tmp s]) (ht : lk sL t = some (padd (sbase h) 0, q)) (hl : lk hP l = some (h, .own e k' n cs)) (hs : lk sL s = some (u, p)) (hp : k ≤ cs.length) (hk : 0 < k) (hsh : (cs.take k).all isSh = true) (hsub : Sub H' hP) (hR : ∀ V : Value, R (.tuple [V, u].toArray) (.tup [.agg (cs.take k), p]) H') : aR c (bodyPost P fn (RetH c R)) (⟨sL, hP⟩ : St) := fun a w ⟨F, H⟩ => by
 obtain ⟨V, A, h0, h1, h2⟩ := cell_run H hT ht hl hp hk hsh
 obtain ⟨h3, h4⟩ := H.sl s _ _ hs
 have H2 : HoldsF c (⟨sL, H'⟩ : St) F a w := H.less (fun _ _ h => h) fun t x hx => hsub.lk hx
 have hM : ∀ b, b < w.heap.size → mof c H' F b → mof c hP F b := fun b _ hb => by
  rcases hb with hb | ⟨l, x, h1, h2⟩
  · exact .inl hb
  · exact .inr ⟨l, x, hsub.lk h1, h2⟩
 refine ⟨H.df, .tuple #[V, u], ?_, .tuple #[V, u], .tup [.agg (cs.take k), p], H', F, rfl, hR _, H2.toHeapF, .tup [V, u] _ rfl fun i v q' hv hq' => ?_⟩
 · simp only [results, hr]
   simp at h0
   simp [h0, h1, Array.getD_eq_getD_getElem?, h3]
 · match i with
   | 0 => simp at hv hq'; subst hv hq'; exact h2.anti hM
   | 1 => simp at hv hq'; subst hv hq'; exact h4.anti hM
   | i + 2 => simp at hv
end
end Go.En
namespace Go.Proofs.YtgigclnaicbiaaaGreatDoor
open Go.RowKit Go.Cb Go.En
set_option linter.all false
set_option maxRecDepth 100000
section
variable {α : Type}
end
theorem aL_sort0 {P : Program} {c : Ctx} {sL hP : List (Nat × Ent)} {ops : Array Oper} {Q : Exit → Act → World → Prop} {o : Oper} {rest : List Oper} {fs g k e d l : Nat} {cs : List PV} {h : Value} {q q' : PV} {x y : Operand} {ats : Array TypeId} (hS : ∀ (p : Option Addr) (cap : Nat) (fv : Value) (w : World), Calls P fs #[.slice p 0 cap, fv] w fun e w' => e = .returned (.tuple #[]) ∧ w' = w)
 (hw : wants ops sL o = some true) (hd : o.dst = some d) (hdn : d < c.nt) (ho : o.op = .call { callee := .value (.func fs), args := #[x, y], argTypes := ats }) (hc : ∀ args w, (callFunc fs args).run P w = .ok (.enter fs args) w) (hx : ev sL x = some (h, q)) (hy : ev sL y = some (.func (.func g) #[] #[], q')) (hl : lk hP l = some (h, .own e k 0 cs))
 (kk : aL P c ops Q rest ⟨put d (.tuple #[], .val (.tuple #[])) sL, hP⟩) : aL P c ops Q (o :: rest) (⟨sL, hP⟩ : St) :=
 aL_run hw fun a w F H => by
  have hxv := (H.rd.ev hx).1
  have hyv := (H.rd.ev hy).1
  obtain ⟨xs, Fs, hrow, _⟩ := (H.tr l _ _ hl).row
  obtain ⟨p, cap, rfl⟩ : ∃ p cap, h = .slice p 0 cap := by
   rcases row_form hrow with ⟨h1, _⟩ | ⟨g, cap, h1, _⟩
   · exact ⟨_, _, h1⟩
   · exact ⟨_, _, h1⟩
  unfold Oper.wp
  have hrun : (execOp a.eval o).run P w = .ok (.enter fs #[.slice p 0 cap, .func (.func g) #[] #[]]) w := by
   have hev : a.eval (.func fs) = .func (.func fs) #[] #[] := rfl
   simp [execOp, ho, resolve, Deferred.ofValue, hev, invoke, hxv, hyv, hc]
  rw [hrun, Oper.upon_enter]
  refine (hS p cap _ w).mono fun e' w' ⟨he', hw'⟩ => ?_
  subst he' hw'
  rw [hd]
  exact kk _ _ ⟨F, H.put hdn (.val _)⟩
theorem mvCmp_lt {a b : Mv} : mvCmp a b < 0 ↔ mvLt a b = true := by unfold mvLt; rw [decide_eq_true_eq]
theorem mvCmp_irr (a : Mv) : ¬ mvCmp a a < 0 := fun h => by have := mvCmp_lt.1 h; rw [mvLt_irr] at this; cases this
theorem mvCmp_tr (a b c : Mv) (h1 : mvCmp a b < 0) (h2 : mvCmp b c < 0) : mvCmp a c < 0 := mvCmp_lt.2 (mvLt_tr (mvCmp_lt.1 h1) (mvCmp_lt.1 h2))
theorem mvCmp_nt (a b c : Mv) (h1 : ¬ mvCmp a b < 0) (h2 : ¬ mvCmp b c < 0) : ¬ mvCmp a c < 0 := fun h => by
 rw [mvCmp_lt, mvLt_iff] at h1 h2 h
 omega
def Sorted (l : List Mv) : Prop := ∀ (i j : Nat) (a b : Mv), i < j → l[i]? = some a → l[j]? = some b → ¬ mvCmp b a < 0
theorem sorted_asc {l : List Mv} (h : Sorted l) (hn : l.Nodup) : AscM l := by
 unfold AscM
 rw [List.pairwise_iff_getElem]
 intro i j hi hj hij
 have h1 := h i j l[i] l[j] hij (List.getElem?_eq_getElem hi) (List.getElem?_eq_getElem hj)
 rw [mvCmp_lt] at h1
 cases h2 : mvLt l[i] l[j] with
 | true => rfl
 | false =>
   have h3 := mvLt_tri h2 (by simpa using h1)
   exact absurd (List.getElem_inj hn |>.1 h3) (by omega)
theorem asc_next {l : List Mv} (h : AscM l) {k : Nat} {x y : Mv} (hy : l[k]? = some y) (hx : l[k + 1]? = some x) : eqM x y = false := by
 have h1 := List.pairwise_iff_getElem.1 h k (k + 1) (lt_of_get hy) (lt_of_get hx) (by omega)
 rw [(List.getElem?_eq_some_iff.1 hy).2, (List.getElem?_eq_some_iff.1 hx).2] at h1
 cases h2 : eqM x y with
 | false => rfl
 | true => rw [eqM_iff.1 h2, mvLt_irr] at h1; cases h1
theorem uMvS : Tryz.prog.underlying 72 = some (.struct (Tryz.prog.fieldsOf 72)) := by kernel_rfl
theorem hMvS : Tryz.prog.stoodInHeld 72 = false := by kernel_rfl
theorem gMvS : Tryz.prog.eqGuardType Tryz.prog.depth 72 = false := by kernel_rfl
def vMv (m : Mv) : List Value := [Value.int .i64 m.src, .int .i64 m.dst, .int .i64 m.sym]
theorem eqMv_runG (x y : Mv) (w : World) : (Op.eqFields 9999 (vMv x).toArray (vMv y).toArray (Tryz.prog.fieldsOf 72).toList).run Tryz.prog w = .ok (eqM x y) w := by
 unfold vMv eqM
 simp only [Program.fieldsOf, Tryz.underlying72]
 simp [Op.eqFields, part, run_equalIn_int w 9998 3 .i64 .i64 x.src y.src Tryz.underlying3, run_equalIn_int w 9998 3 .i64 .i64 x.dst y.dst Tryz.underlying3, run_equalIn_int w 9998 3 .i64 .i64 x.sym y.sym Tryz.underlying3]
 by_cases h1 : x.src = y.src <;> by_cases h2 : x.dst = y.dst <;> by_cases h3 : x.sym = y.sym <;> simp [h1, h2, h3]
theorem cloneMv_e (l : List Mv) (hl : l.length ≤ 1000000) : AF Tryz.prog 96 [pMvs l] (· = .own 72 3 l.length (l.flatMap cMv)) := by
 refine AF.of_body 8 Tryz.func96 rfl Tryz.ntmps96 (Nat.le_of_ble_eq_true rfl) ?_
 intro w0 M0 vs hl hv
 obtain ⟨v0, rfl⟩ := len1 hl
 clear hl hv
 have f3 : (l.flatMap cMv).length = l.length * 3 := flat_len cMv_len l
 have f4 : (l.flatMap cMv).all En.one = true := cMv_one l
 refine nav ?_
 (refine aC_region ?_ <;> refine xL 2 q_assign ?_ <;> refine aL_end (nav ?_) <;> try dsimp only)
 (refine aC_region ?_ <;> refine xL 3 q_move ?_ <;> (refine yL 4 (q_eqnil tSl23_LdI) fun v4 hv4 => ?_; rcases hv4 with rfl | ⟨rfl, hn0⟩) <;> refine aL_end (nav ?_) <;> try dsimp only) <;> (
  (first | refine cCd ?_ ?_ | refine cC ?_ ?_) <;> intro hb4
  · first
    | exact Bool.noConfusion hb4
    | (
     refine nav ?_
     (refine aC_region ?_ <;> refine xL 2 q_assign ?_ <;> refine aL_end (nav ?_) <;> try dsimp only)
     have hl0 : l = [] := List.eq_nil_of_length_eq_zero hn0
     subst hl0
     refine aR_ent (nilOwn 200 72 3 rfl) fun _ => ?_
     exact ret_own 200 (Tryz.results96) rfl rfl rfl)
  · first
    | exact Bool.noConfusion hb4
    | (
     refine nav ?_
     (refine aC_region ?_ <;> refine s_lit0 5 tEl23_LdR fun h5 ho5 => ?_ <;> refine xL 6 q_move ?_ <;> refine s_apps 5 7 tEl23_LdR (fun h7 ho7 => ?_) f3 f4 <;> refine xL 2 q_assign ?_ <;> refine aL_end (nav ?_) <;> try dsimp only)
     refine ret_own 7 (Tryz.results96) rfl rfl ?_
     rw [Nat.zero_add, List.nil_append]))
theorem tAggMv : AggT Tryz.prog 72 3 = true := by kernel_rfl
theorem sortMv_c : SortC Tryz.prog 116 80 3 := fun enc hk h1 cf hO blk cap d w hcmp hH hblk hsz =>
 AnyQ.slices_SortFunc Tryz.sortMvL 3 (fun w => AggT.run tAggMv w) (fun w => AggT.size tAggMv w) enc hk h1 cf hO 80 #[] blk 0 cap d w (Tryz.call80) hcmp hH hblk hsz
theorem sortMv_none (p : Option Addr) (cap : Nat) (fv : Value) (w : World) : Calls Tryz.prog 116 #[.slice p 0 cap, fv] w fun e w' => e = .returned (.tuple #[]) ∧ w' = w := (AnyF.slices_SortFunc_none Tryz.sortMvL p cap fv w).mono fun e w' ⟨h1, h2⟩ => ⟨h1, h2⟩
theorem mv_exact2 (x y : Mv) (M : BS) (W : World) (u v : Value) (hu : Shr M W u (.agg (cMv x))) (hv : Shr M W v (.agg (cMv y))) : Calls Tryz.prog 80 #[u, v] W fun e w' => e = .returned (.int .i64 (mvCmp x y)) ∧ ∃ q os', w' = Go.Sort.grow (W.drewN q) os' := (aCmpMoves_g x y).exact2 hu hv
theorem compactMv_asc (l : List Mv) (hl : l.length ≤ 1000000) (ha : AscM l) (hv : Value) : AFh False Tryz.prog 117 [(0, hv, .val hv)] [(1000, hv, .own 72 3 l.length (l.flatMap cMv))] (fun v q h => v = hv ∧ q = .val hv ∧ h = [(1000, hv, .own 72 3 l.length (l.flatMap cMv))]) := by
 refine AFh.of_body 61 Tryz.func117 rfl Tryz.ntmps117 (Nat.le_of_ble_eq_true rfl) rfl ?_
 intro w0 M0 N0
 refine nav ?_
 (refine aC_region ?_ <;> refine xL 2 q_assign ?_ <;> refine aL_end (nav ?_) <;> try dsimp only)
 (refine aC_region ?_ <;> refine xL 6 q_move ?_ <;> refine xL 7 (q_leno 1000 tSl23_LdI) ?_ <;> refine xL 8 q_lss ?_ <;> refine aL_end (nav ?_) <;> try dsimp only)
 (first | refine cCd ?_ ?_ | refine cC ?_ ?_) <;> intro hb8
 · first
   | exact Bool.noConfusion hb8
   | (
    refine nav ?_
    (refine aC_region ?_ <;> refine xL 9 q_move ?_ <;> refine xL 2 q_assign ?_ <;> refine aL_end (nav ?_) <;> try dsimp only)
    exact ret_h [(1000, hv, PV.own 72 3 l.length (l.flatMap cMv))] (Tryz.results117) rfl ⟨rfl, trivial⟩ ⟨rfl, rfl, rfl⟩)
 · first
   | exact Bool.noConfusion hb8
   | (
    refine nav ?_
    (refine aC_region ?_ <;> refine xL 3 q_assign ?_ <;> refine aL_end (nav ?_) <;> try dsimp only)
    refine aC_loop (ι := { k : Nat // 1 ≤ k ∧ k ≤ l.length }) (fun k => ⟨[(0, _, _), (3, .int .i64 k.1, pInt k.1)], [(1000, _, _)]⟩) (fun k => l.length - k.1) ⟨1, Nat.le_refl _, by omega⟩ (fun a w H => H.weaken ⟨rfl, rfl, trivial⟩ ⟨rfl, trivial⟩) ?_
    rintro ⟨k1, hk1, hk⟩
    dsimp only
    obtain ⟨k, rfl⟩ : ∃ k, k1 = k + 1 := ⟨k1 - 1, by omega⟩
    refine nav ?_
    (refine aC_region ?_ <;> refine xL 10 q_move ?_ <;> refine xL 11 q_move ?_ <;> refine xL 12 (q_leno 1000 tSl23_LdI) ?_ <;> refine xL 13 q_lss ?_ <;> refine aL_end (nav ?_) <;> try dsimp only)
    (first | refine cCd ?_ ?_ | refine cC ?_ ?_) <;> intro hb13
    · first
      | exact Bool.noConfusion hb13
      | (
       obtain ⟨x, hx⟩ := get_some (show k + 1 < l.length by omega)
       obtain ⟨y, hy⟩ := get_some (show k < l.length by omega)
       have e1 := flat_drop cMv_len l (k + 1) x hx
       have e2 := flat_fit cMv_len hx
       have e3 : ((l.flatMap cMv).drop ((((k + 1 : Nat) : Int) - 1).toNat * 3)).take 3 = cMv y := by rw [show (((k + 1 : Nat) : Int) - 1).toNat * 3 = k * 3 by omega]; exact flat_drop cMv_len l k y hy
       have e4 := flat_fit cMv_len hy
       have hne := asc_next ha hy hx
       refine nav ?_
       (refine aC_draw (fun i => ([] : List Nat).elem i) [1000] (by kernel_rfl) ?_ <;> refine xD 0 16 rfl q_move ?_ <;> refine xD 1 17 rfl q_move ?_ <;> refine xD 2 18 rfl (q_idxoN 1000 tSl23_LdI) ?_ <;> (refine yD 3 19 rfl (q_ldao 1000 tAgg72_LdI) fun v19 hv19 => ?_; cases hv19) <;> refine xD 4 20 rfl q_move ?_ <;> refine xE 5 21 rfl q_move ?_ <;> refine xE 6 22 rfl q_sub ?_ <;> refine xE 7 23 rfl (q_idxo 1000 tSl23_LdI) ?_ <;> (refine yE 8 24 rfl (q_ldao 1000 tAgg72_LdI) fun v24 hv24 => ?_; cases hv24) <;> refine xE 9 25 rfl ((q_eqS (us := vMv x) (us' := vMv y) uMvS hMvS gMvS (eqMv_runG x y) rfl rfl)) ?_ <;> refine aD_end (by kernel_rfl) (nav ?_) <;> try dsimp only)
       (first | refine cCd ?_ ?_ | refine cC ?_ ?_) <;> intro hb25
       · rw [hne] at hb25; cases hb25
       · refine nav ?_
         (refine aC_region ?_ <;> refine xL 14 q_move ?_ <;> refine xL 15 q_add ?_ <;> refine xL 3 q_assign ?_ <;> refine aL_end (nav ?_) <;> try dsimp only)
         refine aN_again (
          ⟨k + 1 + 1, by omega, by omega⟩
          ) (by dsimp only; omega) ⟨rfl, rfl, trivial⟩ ⟨rfl, trivial⟩)
    · first
      | exact Bool.noConfusion hb13
      | (
       refine nav ?_
       (refine aC_region ?_ <;> refine xL 60 q_move ?_ <;> refine xL 2 q_assign ?_ <;> refine aL_end (nav ?_) <;> try dsimp only)
       exact ret_h [(1000, hv, PV.own 72 3 l.length (l.flatMap cMv))] (Tryz.results117) rfl ⟨rfl, trivial⟩ ⟨rfl, rfl, rfl⟩))
end Go.Proofs.YtgigclnaicbiaaaGreatDoor
namespace Go.En
open Go.RowKit Go.Cb
set_option linter.all false
section
variable {P : Program} {c : Ctx} {ops : Array Oper} {Q : Exit → Act → World → Prop} {Z : Nat → Bool} {K : List Nat} {fuel : Nat} {listed : Array Bool} {sL hP : List (Nat × Ent)} {o : Oper}
theorem aD_four (i j k l : Nat) (hr : Region.ready .any ops listed = [i, j, k, l]) (h : aW P c ops Q Z K fuel listed (⟨sL, hP⟩ : St) i) (h' : aW P c ops Q Z K fuel listed (⟨sL, hP⟩ : St) j) (h'' : aW P c ops Q Z K fuel listed (⟨sL, hP⟩ : St) k) (h3 : aW P c ops Q Z K fuel listed (⟨sL, hP⟩ : St) l) : aD P c ops Q Z K (fuel + 1) listed (⟨sL, hP⟩ : St) := fun a w F H C hC =>
 ⟨(fun hn => by rw [hr] at hn; cases hn), fun m hm => by
   rw [hr] at hm
   rcases (by simpa using hm : m = i ∨ m = j ∨ m = k ∨ m = l) with rfl | rfl | rfl | rfl
   · exact h a w F H C hC
   · exact h' a w F H C hC
   · exact h'' a w F H C hC
   · exact h3 a w F H C hC⟩
end
end Go.En
namespace Go.Proofs.YtgigclnaicbiaaaGreatDoor
open Go.RowKit Go.Cb Go.En
set_option linter.all false
set_option maxRecDepth 100000
theorem sorted_mk {l r : List Mv} (hp : r.Perm l) (hs : Sorted r) (hn : l.Nodup) : r = mkM l := mkM_eq (sorted_asc hs (hp.nodup_iff.2 hn)) fun x => hp.mem_iff
theorem mkM_nd_len {l : List Mv} (hn : l.Nodup) : (mkM l).length = l.length := by
 refine Nat.le_antisymm (mkM_len l) ?_
 have : ∀ {l : List Mv} {m : List Mv}, l.Nodup → (∀ x ∈ l, x ∈ m) → l.length ≤ m.length := fun {l} => by
  induction l with
  | nil => intro m _ _; exact Nat.zero_le _
  | cons x l ih =>
    intro m h hm
    rw [List.nodup_cons] at h
    obtain ⟨a, b, rfl⟩ := List.append_of_mem (hm x (List.mem_cons_self ..))
    have := ih (m := a ++ b) h.2 fun y hy => by
     rcases List.mem_append.1 (hm y (List.mem_cons_of_mem _ hy)) with h1 | h1
     · exact List.mem_append_left _ h1
     · rcases List.mem_cons.1 h1 with rfl | h1
       · exact absurd hy h.1
       · exact List.mem_append_right _ h1
    simp only [List.length_append, List.length_cons] at this ⊢
    omega
 exact this hn fun x hx => mkM_mem.2 hx
structure R5 (p0 p1 p2 p3 p4 : PV) : Prop where
 o : En.one p0 = true ∧ En.one p1 = true ∧ En.one p2 = true ∧ En.one p3 = true ∧ En.one p4 = true
 s : [p0, p1, p2, p3, p4].all isSh = true
 d : shD (.agg [p0, p1, p2, p3, p4]) = true
theorem R5.aut (A : Aut) : R5 (pInt A.n) (pInt A.syms) (pInts A.start) (pInts A.fin) (pMvs A.moves) := ⟨⟨rfl, rfl, rfl, rfl, rfl⟩, rfl, rfl⟩
theorem R5.raw : R5 (pInt 0) (pInt 0) (.val (.slice none 0 0)) (.val (.slice none 0 0)) (.val (.slice none 0 0)) := ⟨⟨rfl, rfl, rfl, rfl, rfl⟩, rfl, rfl⟩
theorem R5.t {p0 p1 p2 p3 p4 : PV} (h : R5 p0 p1 p2 p3 p4) (E : Int) : shD (.tup [.agg [p0, p1, p2, p3, p4], pInt E]) = true := by
 show (shD (.agg [p0, p1, p2, p3, p4]) && (true && true)) = true
 rw [h.d]; rfl
theorem aMade_g (a : Aut) (hl : a.moves.length ≤ 1000000) (hnd : a.moves.Nodup) (V hM : Value) (hMo : hM.oneCell' = true) {p0 p1 p2 p3 p4 : PV} {E : Int} (h5 : R5 p0 p1 p2 p3 p4) (hr : AF Tryz.prog 83 [pAut (mkA a)] (· = .tup [.agg [p0, p1, p2, p3, p4], pInt E])) : AFh False Tryz.prog 88 [(0, V, .agg [pInt a.n, pInt a.syms, pInts a.start, pInts a.fin, .val hM])] [(1000, hM, .own 72 3 a.moves.length (a.moves.flatMap cMv))] (fun v q h => (∃ V1 : Value, v = .tuple [V1, .int .i64 E].toArray) ∧ q = .tup [.agg [p0, p1, p2, p3, p4], pInt E] ∧ h = []) := by
 obtain ⟨o0, o1, o2, o3, o4⟩ := h5.o
 refine AFh.of_body 15 Tryz.func88 rfl Tryz.ntmps88 (Nat.le_of_ble_eq_true rfl) rfl ?_
 intro w0 M0 N0
 have hone : En.one (PV.val hM) = true := hMo
 refine nav ?_
 (refine aC_region ?_ <;> refine s_boxa 1 5 fun h1 => ?_ <;> refine s_alloc [(.int .i64 0), (.int .i64 0), (.slice none 0 0), (.slice none 0 0), (.slice none 0 0)] 5 2 tZr25_LfD fun h2 => ?_ <;> refine xL 3 q_assign ?_ <;> refine aL_end (nav ?_) <;> try dsimp only)
 (refine aC_region ?_ <;> refine xL 4 (q_fldo 1 tFl25_4_LdI) ?_ <;> (refine yL 5 (q_ldo 1 tNa23_LdI) fun v5 hv5 => ?_; cases hv5) <;> (rcases Nat.eq_zero_or_pos a.moves.length with h0 | h0 <;> first | (refine aL_ent (recast (l := 1000) (p' := .own 72 3 0 []) rfl (by rw [List.eq_nil_of_length_eq_zero h0]; rfl)) fun _ => ?_; refine aL_sort0 (l := 1000) sortMv_none rfl rfl (Nat.le_of_ble_eq_true rfl) rfl (Tryz.call116) rfl rfl rfl ?_; refine aL_ent (recast (l := 1000) (p' := .own 72 3 (mkM a.moves).length ((mkM a.moves).flatMap cMv)) rfl (by rw [List.eq_nil_of_length_eq_zero h0]; rfl)) fun _ => ?_) | (refine aL_sort (l := 1000) (β := Mv) (f := cMv) (cmp := mvCmp) (rows := a.moves) sortMv_c cMv_len (by decide) (fun _ => rfl) mvCmp_irr mvCmp_tr mvCmp_nt (fun x y M W u v _ _ hu hv => mv_exact2 x y M W u v hu hv) h0 (by omega) rfl rfl (Nat.le_of_ble_eq_true rfl) rfl (Tryz.call116) rfl rfl rfl (fun rows' hperm hord => ?_); refine aL_ent (recast (l := 1000) (p' := .own 72 3 (mkM a.moves).length ((mkM a.moves).flatMap cMv)) rfl (by rw [sorted_mk hperm hord hnd, mkM_nd_len hnd])) fun _ => ?_)) <;> refine aL_end (nav ?_) <;> try dsimp only) <;> (
  (refine aC_region ?_ <;> refine xL 7 (q_fldo 1 tFl25_4_LdI) ?_ <;> (refine yL 8 (q_ldo 1 tNa23_LdI) fun v8 hv8 => ?_; cases hv8) <;> (refine aL_heap [(1000, hM, PV.own 72 3 (mkM a.moves).length ((mkM a.moves).flatMap cMv)), (1, _, _), (2, _, _)] ⟨rfl, rfl, rfl, trivial⟩ ?_; refine aL_ch [1, 2] 9 (Tryz.call117) (compactMv_asc (mkM a.moves) (by have := mkM_len a.moves; omega) (mkM_asc _) hM) ?_; rintro v9 _ _ ⟨hv9, rfl, rfl⟩; have hv9' := hv9.symm; subst hv9') <;> refine xL 10 (q_fldo 1 tFl25_4_LdI) ?_ <;> refine s_st 1 tNa23_LdI tSz23_LdR ?_ <;> refine aL_end (nav ?_) <;> try dsimp only)
  refine aC_ent (freezeCell (l := 1) (l' := 1000) (j := 4) rfl rfl rfl rfl) fun _ => ?_
  rw [share_mvl _ _ _ rfl]
  (refine aC_region ?_ <;> (refine yL 11 (q_ldao 1 tAgg25_LdS) fun v11 hv11 => ?_; cases hv11) <;> (refine cP 12 (cA Tryz.call83 hr) (fun va12 vb12 hva12 hvb12 => ?_) (hsh := h5.t E); cases hvb12) <;> refine xL 13 q_extract ?_ <;> refine xL 14 q_extract ?_ <;> refine s_sta 2 tAgg25_LdS ?_ <;> refine xL 3 q_assign ?_ <;> refine aL_end (nav ?_) <;> try dsimp only)
  exact ret_hcs (k := 5) 2 [] (by kernel_rfl) (Tryz.results88) rfl rfl rfl (Nat.le_of_ble_eq_true rfl) (by decide) h5.s trivial fun V => ⟨⟨V, rfl⟩, rfl, rfl⟩)
theorem aReduced_mk (a : Aut) (hl : a.moves.length ≤ 1000000) (h : PreA a) : AF Tryz.prog 83 [pAut (mkA a)] (· = resW (madeX a)) :=
 aReduced_e (mkA a) (by have := mkM_len a.moves; show (mkM a.moves).length ≤ 1000000; omega) h.aok
theorem aReduced_5 (a : Aut) (hl : a.moves.length ≤ 1000000) (h : PreA a) : ∃ p0 p1 p2 p3 p4 E, R5 p0 p1 p2 p3 p4 ∧ resW (madeX a) = .tup [.agg [p0, p1, p2, p3, p4], pInt E] ∧ AF Tryz.prog 83 [pAut (mkA a)] (· = .tup [.agg [p0, p1, p2, p3, p4], pInt E]) := by
 have hr := aReduced_mk a hl h
 rcases res_cases (madeX a) with ⟨A, _, h2⟩ | ⟨e, _, h2⟩
 · rw [h2] at hr ⊢; exact ⟨_, _, _, _, _, _, R5.aut A, rfl, hr⟩
 · rw [h2] at hr ⊢; exact ⟨_, _, _, _, _, _, R5.raw, rfl, hr⟩
theorem flat_takeG {α β : Type} {f : α → List β} {m : Nat} (hf : ∀ x, (f x).length = m) : ∀ (L : List α) (k : Nat), (L.flatMap f).take (k * m) = (L.take k).flatMap f
 | [], k => by simp
 | x :: L, 0 => by simp
 | x :: L, k + 1 => by
   rw [List.take_succ_cons, List.flatMap_cons, List.flatMap_cons, ← flat_takeG hf L k, List.take_append, List.take_of_length_le (by rw [hf, Nat.add_mul]; omega), hf, show (k + 1) * m - m = k * m by rw [Nat.add_mul]; omega]
theorem asc_chain : ∀ {l : List Mv}, AscM l → chainB mvLt l = true
 | [], _ => rfl
 | [_], _ => rfl
 | x :: y :: l, h => by
   have h' := List.pairwise_cons.1 h
   rw [chainB, Bool.and_eq_true]
   exact ⟨h'.1 y (List.mem_cons_self ..), asc_chain h'.2⟩
theorem srt_chain : ∀ {l : List Int}, Srt l → chainB ltI l = true
 | [], _ => rfl
 | [_], _ => rfl
 | x :: y :: l, h => by
   have h' := List.pairwise_cons.1 h
   rw [chainB, Bool.and_eq_true]
   exact ⟨by unfold ltI; simpa using h'.1 y (List.mem_cons_self ..), srt_chain h'.2⟩
theorem st_ok {a : Aut} {l : List Int} (h : InS a l) (hs : Srt l) : stOk a.n l = true := by
 unfold stOk
 rw [Bool.and_eq_true, List.all_eq_true]
 refine ⟨fun x hx => ?_, srt_chain hs⟩
 have := h x hx
 simp [this.1, this.2]
theorem ok_mk {a : Aut} (h : PreA a) (hs : Srt a.start) (hf : Srt a.fin) (hn : ¬ 2000 < a.n) (hm : ¬ 20000 < (mkM a.moves).length) : autOk (mkA a) = true := by
 have h1 := h.n0
 have h2 := h.s0
 have h3 := h.s1
 unfold autOk
 simp only [Bool.and_eq_true, decide_eq_true_eq]
 refine ⟨⟨⟨⟨⟨⟨⟨⟨h1, by show a.n ≤ 2000; omega⟩, h2⟩, h3⟩, by show (mkM a.moves).length ≤ 20000; omega⟩, st_ok h.st hs⟩, st_ok h.fi hf⟩, ?_⟩, asc_chain (mkM_asc _)⟩
 rw [List.all_eq_true]
 intro m hm'
 have hm' : m ∈ mkM a.moves := hm'
 have := h.mv m (mkM_mem.1 hm')
 unfold mvOk
 simp only [Bool.and_eq_true, decide_eq_true_eq]
 show ((((0 ≤ m.src ∧ m.src < a.n) ∧ 0 ≤ m.dst) ∧ m.dst < a.n) ∧ -1 ≤ m.sym) ∧ m.sym < a.syms
 omega
def doneX (b : Aut) : Except Int Aut := if 2000 < b.n ∨ 20000 < b.moves.length then .error 13 else minX b
theorem madeX_fin {a : Aut} (h : PreA a) (hs : Srt a.start) (hf : Srt a.fin) : madeX a = doneX (mkA a) := by
 unfold madeX redL doneX minX
 show (if 2000 < a.n ∨ 20000 < (mkM a.moves).length then _ else redX (mkA a)) = (if 2000 < a.n ∨ 20000 < (mkM a.moves).length then _ else _)
 by_cases hb : 2000 < a.n ∨ 20000 < (mkM a.moves).length
 · rw [if_pos hb, if_pos hb]
 · rw [if_neg hb, if_neg hb, if_pos (ok_mk h hs hf (fun h => hb (.inl h)) (fun h => hb (.inr h)))]
section
variable {a b : Aut}
theorem addI_srt {n : Int} {l : List Int} (h : Srt l) : Srt (addI n l) := List.pairwise_map.2 (h.imp fun h => by omega)
theorem catX_fin (ha : VOk a) (hb : VOk b) (hs : a.syms = b.syms) : madeX (catA a b) = doneX (mkA (catA a b)) := madeX_fin (cat_pre ha hb hs) ha.ss (addI_srt hb.fs)
theorem cat_len (a b : Aut) : (catA a b).moves.length = a.moves.length + b.moves.length + a.fin.length * b.start.length := by
 show (a.moves ++ addM a.n b.moves ++ epsM a.n a.fin b.start).length = _
 rw [List.length_append, List.length_append, addM_len, epsM_len]
theorem doneX_cat (ha : VOk a) (hb : VOk b) (h : 2000 < a.n + b.n ∨ 20000 < a.moves.length + b.moves.length + a.fin.length * b.start.length) : doneX (mkA (catA a b)) = .error 13 := by
 unfold doneX
 rw [if_pos]
 show 2000 < a.n + b.n ∨ 20000 < (mkM (catA a b).moves).length
 rw [mkM_nd_len (cat_nodup ha hb), cat_len]; exact h
end
def shL (m : Int) (x : Mv) : List Mv := (List.range m.toNat).map fun j => ⟨x.src * m + (j : Nat), x.dst * m + (j : Nat), x.sym⟩
def shR (n m : Int) (x : Mv) : List Mv := (List.range n.toNat).map fun i => ⟨(i : Nat) * m + x.src, (i : Nat) * m + x.dst, x.sym⟩
def shI (m : Int) (l k : List Int) : List Int := l.flatMap fun i => addI (i * m) k
def shM (n m : Int) (l k : List Mv) : List Mv := l.flatMap (shL m) ++ k.flatMap (shR n m)
def shufA (a b : Aut) : Aut := ⟨a.n * b.n, a.syms, shI b.n a.start b.start, shI b.n a.fin b.fin, shM a.n b.n a.moves b.moves⟩
def shufX (a b : Aut) : Except Int Aut := if ¬ fitX a b = 0 then .error (fitX a b) else if 2000 < a.n * b.n ∨ 40000 < (a.moves.length : Int) * b.n + (b.moves.length : Int) * a.n then .error 13 else madeX (shufA a b)
theorem lex_lt {m i j i' j' : Int} (h : i < i') (h0 : 0 ≤ j) (h1 : j < m) (h2 : 0 ≤ j') : i * m + j < i' * m + j' := by
 have h3 : (i + 1) * m ≤ i' * m := Int.mul_le_mul_of_nonneg_right (by omega) (by omega)
 rw [Int.add_mul, Int.one_mul] at h3
 omega
theorem lex_inj {m i j i' j' : Int} (h : i * m + j = i' * m + j') (h1 : 0 ≤ j ∧ j < m) (h2 : 0 ≤ j' ∧ j' < m) : i = i' ∧ j = j' := by
 have h3 : i = i' := by
  rcases Int.lt_trichotomy i i' with h3 | h3 | h3
  · have := lex_lt h3 h1.1 h1.2 h2.1; omega
  · exact h3
  · have := lex_lt h3 h2.1 h2.2 h1.1; omega
 subst h3
 exact ⟨rfl, by omega⟩
theorem lex_in {n m i j : Int} (hi : 0 ≤ i ∧ i < n) (hj : 0 ≤ j ∧ j < m) : 0 ≤ i * m + j ∧ i * m + j < n * m := by
 have h3 : (i + 1) * m ≤ n * m := Int.mul_le_mul_of_nonneg_right (by omega) (by omega)
 have h4 : 0 ≤ i * m := Int.mul_nonneg hi.1 (by omega)
 rw [Int.add_mul, Int.one_mul] at h3
 omega
theorem mem_shI {m x : Int} {l k : List Int} : x ∈ shI m l k ↔ ∃ i ∈ l, ∃ j ∈ k, i * m + j = x := by
 unfold shI
 simp only [List.mem_flatMap, mem_addI]
 constructor
 · rintro ⟨i, h1, j, h2, h3⟩; exact ⟨i, h1, j, h2, by omega⟩
 · rintro ⟨i, h1, j, h2, h3⟩; exact ⟨i, h1, j, h2, by omega⟩
theorem mem_shL {m : Int} {x y : Mv} : y ∈ shL m x ↔ ∃ j : Nat, (j : Int) < m ∧ (⟨x.src * m + (j : Nat), x.dst * m + (j : Nat), x.sym⟩ : Mv) = y := by
 unfold shL
 rw [List.mem_map]
 constructor
 · rintro ⟨j, h1, h2⟩; rw [List.mem_range] at h1; exact ⟨j, by omega, h2⟩
 · rintro ⟨j, h1, h2⟩; exact ⟨j, by rw [List.mem_range]; omega, h2⟩
theorem mem_shR {n m : Int} {x y : Mv} : y ∈ shR n m x ↔ ∃ i : Nat, (i : Int) < n ∧ (⟨(i : Nat) * m + x.src, (i : Nat) * m + x.dst, x.sym⟩ : Mv) = y := by
 unfold shR
 rw [List.mem_map]
 constructor
 · rintro ⟨j, h1, h2⟩; rw [List.mem_range] at h1; exact ⟨j, by omega, h2⟩
 · rintro ⟨j, h1, h2⟩; exact ⟨j, by rw [List.mem_range]; omega, h2⟩
theorem shI_srt {m : Int} {l k : List Int} (hk : ∀ j ∈ k, 0 ≤ j ∧ j < m) (h1 : Srt l) (h2 : Srt k) : Srt (shI m l k) := by
 induction l with
 | nil => exact .nil
 | cons i l ih =>
   have h := List.pairwise_cons.1 h1
   show Srt (addI (i * m) k ++ shI m l k)
   refine List.pairwise_append.2 ⟨addI_srt h2, ih h.2, fun x hx y hy => ?_⟩
   obtain ⟨j, hj, rfl⟩ := mem_addI.1 hx
   obtain ⟨i', hi', j', hj', rfl⟩ := mem_shI.1 hy
   have := lex_lt (h.1 i' hi') (hk j hj).1 (hk j hj).2 (hk j' hj').1
   omega
section
variable {a b : Aut}
theorem mem_shM {x : Mv} : x ∈ shM a.n b.n a.moves b.moves ↔ (∃ y ∈ a.moves, ∃ j : Nat, (j : Int) < b.n ∧ (⟨y.src * b.n + (j : Nat), y.dst * b.n + (j : Nat), y.sym⟩ : Mv) = x) ∨ ∃ y ∈ b.moves, ∃ i : Nat, (i : Int) < a.n ∧ (⟨(i : Nat) * b.n + y.src, (i : Nat) * b.n + y.dst, y.sym⟩ : Mv) = x := by
 unfold shM
 simp only [List.mem_append, List.mem_flatMap, mem_shL, mem_shR]
theorem shuf_pre (ha : VOk a) (hb : VOk b) (hs : a.syms = b.syms) : PreA (shufA a b) := by
 have h1 := ha.n0
 have h2 := hb.n0
 have hI : ∀ {l k : List Int}, InS a l → InS b k → ∀ x ∈ shI b.n l k, 0 ≤ x ∧ x < a.n * b.n := fun hl hk x hx => by
  obtain ⟨i, hi, j, hj, rfl⟩ := mem_shI.1 hx
  exact lex_in (hl i hi) (hk j hj)
 refine ⟨Int.mul_nonneg h1 h2, ha.s0, ha.s1, hI ha.st hb.st, hI ha.fi hb.fi, srt_nodup (shI_srt hb.st ha.ss hb.ss), srt_nodup (shI_srt hb.fi ha.fs hb.fs), fun x hx => ?_⟩
 rcases mem_shM.1 hx with ⟨y, hy, j, hj, rfl⟩ | ⟨y, hy, i, hi, rfl⟩
 · have h3 := ha.mv y hy
   have h4 := lex_in (m := b.n) (n := a.n) (i := y.src) (j := j) ⟨h3.1, h3.2.1⟩ ⟨by omega, hj⟩
   have h5 := lex_in (m := b.n) (n := a.n) (i := y.dst) (j := j) ⟨h3.2.2.1, h3.2.2.2.1⟩ ⟨by omega, hj⟩
   exact ⟨h4.1, h4.2, h5.1, h5.2, h3.2.2.2.2⟩
 · have h3 := hb.mv y hy
   have h4 := lex_in (m := b.n) (n := a.n) (i := i) (j := y.src) ⟨by omega, hi⟩ ⟨h3.1, h3.2.1⟩
   have h5 := lex_in (m := b.n) (n := a.n) (i := i) (j := y.dst) ⟨by omega, hi⟩ ⟨h3.2.2.1, h3.2.2.2.1⟩
   exact ⟨h4.1, h4.2, h5.1, h5.2, h3.2.2.2.2.1, by have := h3.2.2.2.2.2; show y.sym < a.syms; omega⟩
theorem shL_len (m : Int) (x : Mv) : (shL m x).length = m.toNat := by unfold shL; simp
theorem shR_len (n m : Int) (x : Mv) : (shR n m x).length = n.toNat := by unfold shR; simp
theorem flat_len {α β : Type} {f : α → List β} {n : Nat} (h : ∀ x, (f x).length = n) : ∀ l : List α, (l.flatMap f).length = l.length * n
 | [] => by simp
 | x :: l => by rw [List.flatMap_cons, List.length_append, h, flat_len h l, List.length_cons, Nat.succ_mul, Nat.add_comm]
end
section
variable {a b : Aut}
theorem pth_part {X a : Aut} {n : Int} (hX : ∀ (s : Int) (m : Mv), 0 ≤ s ∧ s < a.n → m ∈ X.moves → m.src = s + n → ∃ m' ∈ a.moves, m'.src = s ∧ m.dst = m'.dst + n ∧ m.sym = m'.sym) (ha : ∀ m ∈ a.moves, 0 ≤ m.dst ∧ m.dst < a.n) {s y : Int} {w : List Int} (hs : 0 ≤ s ∧ s < a.n) (h : Pth X (s + n) w y) : ∃ t, y = t + n ∧ (0 ≤ t ∧ t < a.n) ∧ Pth a s w t := by
 generalize e : s + n = x at h
 induction h generalizing s with
 | nil x => exact ⟨s, e.symm, hs, .nil s⟩
 | eps hm h1 _ ih =>
   obtain ⟨m', h2, h3, h4, h5⟩ := hX s _ hs hm e.symm
   obtain ⟨t, h6, h7, h8⟩ := ih (ha m' h2) h4.symm
   exact ⟨t, h6, h7, h3 ▸ Pth.eps h2 (by rw [← h5]; exact h1) h8⟩
 | sym hm h1 _ ih =>
   obtain ⟨m', h2, h3, h4, h5⟩ := hX s _ hs hm e.symm
   obtain ⟨t, h6, h7, h8⟩ := ih (ha m' h2) h4.symm
   refine ⟨t, h6, h7, ?_⟩
   rw [h5]
   exact h3 ▸ Pth.sym h2 (by rw [← h5]; exact h1) h8
theorem part_pth {X a : Aut} {n : Int} (hX : ∀ m ∈ a.moves, (⟨m.src + n, m.dst + n, m.sym⟩ : Mv) ∈ X.moves) {s t : Int} {w : List Int} (h : Pth a s w t) : Pth X (s + n) w (t + n) := by
 induction h with
 | nil x => exact .nil _
 | eps hm h1 _ ih => exact .eps (hX _ hm) h1 ih
 | sym hm h1 _ ih => exact .sym (hX _ hm) h1 ih
theorem two_right (ha : VOk a) {x : Int} {m : Mv} {l : List Mv} (hl : ∀ m ∈ l, m.src < a.n) (hx : 0 ≤ x) (hm : m ∈ a.moves ++ addM a.n b.moves ++ l) (hs : m.src = x + a.n) : ∃ m' ∈ b.moves, m'.src = x ∧ m.dst = m'.dst + a.n ∧ m.sym = m'.sym := by
 rcases List.mem_append.1 hm with hm | hm
 · rcases List.mem_append.1 hm with hm | hm
   · have := ha.mv m hm; omega
   · obtain ⟨y, hy, rfl⟩ := mem_addM.1 hm
     exact ⟨y, hy, by dsimp only at hs; omega, rfl, rfl⟩
 · have := hl m hm; omega
theorem union_lng (ha : VOk a) (hb : VOk b) {w : List Int} : Lng (unionA a b) w ↔ Lng a w ∨ Lng b w := by
 have hmL : ∀ (s : Int) (m : Mv), 0 ≤ s ∧ s < a.n → m ∈ (unionA a b).moves → m.src = s + 0 → ∃ m' ∈ a.moves, m'.src = s ∧ m.dst = m'.dst + 0 ∧ m.sym = m'.sym := fun s m hs hm e => by
  rcases List.mem_append.1 (show m ∈ a.moves ++ addM a.n b.moves from hm) with hm | hm
  · exact ⟨m, hm, by omega, by omega, rfl⟩
  · obtain ⟨y, hy, rfl⟩ := mem_addM.1 hm
    have := hb.mv y hy
    dsimp only at e; omega
 have hmR : ∀ (s : Int) (m : Mv), 0 ≤ s ∧ s < b.n → m ∈ (unionA a b).moves → m.src = s + a.n → ∃ m' ∈ b.moves, m'.src = s ∧ m.dst = m'.dst + a.n ∧ m.sym = m'.sym := fun s m hs hm e => two_right (l := []) ha (fun m hm => by cases hm) hs.1 (by rw [List.append_nil]; exact hm) e
 have hinA : ∀ m ∈ a.moves, (⟨m.src + 0, m.dst + 0, m.sym⟩ : Mv) ∈ (unionA a b).moves := fun m hm => by
  rw [Int.add_zero, Int.add_zero]; exact List.mem_append_left _ hm
 have hinB : ∀ m ∈ b.moves, (⟨m.src + a.n, m.dst + a.n, m.sym⟩ : Mv) ∈ (unionA a b).moves := fun m hm => List.mem_append_right _ (mem_addM.2 ⟨m, hm, rfl⟩)
 have hda : ∀ m ∈ a.moves, 0 ≤ m.dst ∧ m.dst < a.n := fun m hm => by have := ha.mv m hm; omega
 have hdb : ∀ m ∈ b.moves, 0 ≤ m.dst ∧ m.dst < b.n := fun m hm => by have := hb.mv m hm; omega
 constructor
 · rintro ⟨s, hs, f, hf, h⟩
   rcases List.mem_append.1 (show s ∈ a.start ++ addI a.n b.start from hs) with hs | hs
   · obtain ⟨t, e, h1, h2⟩ := pth_part (n := 0) hmL hda (ha.st s hs) (by rw [Int.add_zero]; exact h)
     rw [Int.add_zero] at e
     subst e
     rcases List.mem_append.1 (show f ∈ a.fin ++ addI a.n b.fin from hf) with hf | hf
     · exact .inl ⟨s, hs, f, hf, h2⟩
     · obtain ⟨y, hy, rfl⟩ := mem_addI.1 hf
       have := hb.fi y hy; omega
   · obtain ⟨y, hy, rfl⟩ := mem_addI.1 hs
     obtain ⟨t, rfl, h1, h2⟩ := pth_part hmR hdb (hb.st y hy) h
     rcases List.mem_append.1 (show t + a.n ∈ a.fin ++ addI a.n b.fin from hf) with hf | hf
     · have := ha.fi _ hf; omega
     · obtain ⟨z, hz, e⟩ := mem_addI.1 hf
       have : z = t := by omega
       subst this
       exact .inr ⟨y, hy, z, hz, h2⟩
 · rintro (⟨s, hs, f, hf, h⟩ | ⟨s, hs, f, hf, h⟩)
   · have := part_pth (n := 0) hinA h
     rw [Int.add_zero, Int.add_zero] at this
     exact ⟨s, List.mem_append_left _ hs, f, List.mem_append_left _ hf, this⟩
   · exact ⟨s + a.n, List.mem_append_right _ (mem_addI.2 ⟨s, hs, rfl⟩), f + a.n, List.mem_append_right _ (mem_addI.2 ⟨f, hf, rfl⟩), part_pth hinB h⟩
theorem cat_in {m : Mv} (ha : VOk a) (hb : VOk b) (hm : m ∈ (catA a b).moves) (hs : m.src < a.n) : m ∈ a.moves ∨ ∃ f ∈ a.fin, ∃ s ∈ b.start, (⟨f, s + a.n, -1⟩ : Mv) = m := by
 rcases List.mem_append.1 (show m ∈ a.moves ++ addM a.n b.moves ++ epsM a.n a.fin b.start from hm) with hm | hm
 · rcases List.mem_append.1 hm with hm | hm
   · exact .inl hm
   · obtain ⟨y, hy, rfl⟩ := mem_addM.1 hm
     have := hb.mv y hy
     dsimp only at hs; omega
 · exact .inr (mem_epsM.1 hm)
theorem cat_right (ha : VOk a) (hb : VOk b) {s y : Int} {w : List Int} (hs : 0 ≤ s ∧ s < b.n) (h : Pth (catA a b) (s + a.n) w y) : ∃ t, y = t + a.n ∧ Pth b s w t := by
 obtain ⟨t, h1, _, h2⟩ := pth_part (X := catA a b) (a := b) (n := a.n) (fun s m hs hm e => two_right (l := epsM a.n a.fin b.start) ha (fun m hm => by
  obtain ⟨f, hf, s, _, rfl⟩ := mem_epsM.1 hm
  exact (ha.fi f hf).2) hs.1 hm e) (fun m hm => by have := hb.mv m hm; omega) hs h
 exact ⟨t, h1, h2⟩
theorem cat_left (ha : VOk a) (hb : VOk b) {s y : Int} {w : List Int} (hs : s < a.n) (hy : a.n ≤ y) (h : Pth (catA a b) s w y) : ∃ u v f s', w = u ++ v ∧ Pth a s u f ∧ f ∈ a.fin ∧ s' ∈ b.start ∧ Pth (catA a b) (s' + a.n) v y := by
 induction h with
 | nil x => omega
 | eps hm h1 h ih =>
   rcases cat_in ha hb hm hs with h2 | ⟨f, hf, s', hs', rfl⟩
   · obtain ⟨u, v, f, s', e, h3, h4⟩ := ih (by have := ha.mv _ h2; omega) hy
     exact ⟨u, v, f, s', e, .eps h2 h1 h3, h4⟩
   · exact ⟨[], _, f, s', rfl, .nil _, hf, hs', h⟩
 | sym hm h1 h ih =>
   rcases cat_in ha hb hm hs with h2 | ⟨f, hf, s', hs', rfl⟩
   · obtain ⟨u, v, f, s', e, h3, h4⟩ := ih (by have := ha.mv _ h2; omega) hy
     exact ⟨_ :: u, v, f, s', by rw [e]; rfl, .sym h2 h1 h3, h4⟩
   · exact absurd rfl h1
theorem cat_lng (ha : VOk a) (hb : VOk b) {w : List Int} : Lng (catA a b) w ↔ ∃ u v, w = u ++ v ∧ Lng a u ∧ Lng b v := by
 constructor
 · rintro ⟨s, hs, f, hf, h⟩
   obtain ⟨y, hy, rfl⟩ := mem_addI.1 (show f ∈ addI a.n b.fin from hf)
   have hyb := hb.fi y hy
   obtain ⟨u, v, f, s', e, h1, h2, h3, h4⟩ := cat_left ha hb (ha.st s hs).2 (by omega) h
   obtain ⟨t, e2, h5⟩ := cat_right ha hb (hb.st s' h3) h4
   have : t = y := by omega
   subst this
   exact ⟨u, v, e, ⟨s, hs, f, h2, h1⟩, ⟨s', h3, t, hy, h5⟩⟩
 · rintro ⟨u, v, rfl, ⟨s, hs, f, hf, h⟩, ⟨s', hs', f', hf', h'⟩⟩
   refine ⟨s, hs, f' + a.n, mem_addI.2 ⟨f', hf', rfl⟩, ?_⟩
   have h1 : Pth (catA a b) s u f := h.mono fun m hm => List.mem_append_left _ (List.mem_append_left _ hm)
   have h2 : Pth (catA a b) (s' + a.n) v (f' + a.n) := part_pth (fun m hm => List.mem_append_left _ (List.mem_append_right _ (mem_addM.2 ⟨m, hm, rfl⟩))) h'
   have h3 : Pth (catA a b) f v (f' + a.n) := Pth.eps (m := ⟨f, s' + a.n, -1⟩) (List.mem_append_right _ (mem_epsM.2 ⟨f, hf, s', hs', rfl⟩)) rfl h2
   exact h1.app h3
inductive Star (L : List Int → Prop) : List Int → Prop
 | nil : Star L []
 | app {u v : List Int} (h : L u) (h' : Star L v) : Star L (u ++ v)
theorem star_mem {m : Mv} : m ∈ (starA a).moves ↔ m ∈ a.moves ∨ (∃ s ∈ a.start, (⟨a.n, s, -1⟩ : Mv) = m) ∨ ∃ s ∈ a.fin, (⟨s, a.n, -1⟩ : Mv) = m := by
 show m ∈ a.moves ++ (a.start.map fun s => (⟨a.n, s, -1⟩ : Mv)) ++ a.fin.map (fun s => (⟨s, a.n, -1⟩ : Mv)) ↔ _
 simp only [List.mem_append, List.mem_map, or_assoc]
theorem star_way (ha : VOk a) {x y : Int} {w : List Int} (h : Pth (starA a) x w y) (hy : y = a.n) : (x = a.n → Star (Lng a) w) ∧ (x < a.n → ∃ u v f, w = u ++ v ∧ f ∈ a.fin ∧ Pth a x u f ∧ Star (Lng a) v) := by
 induction h with
 | nil x => exact ⟨fun _ => .nil, fun h => by omega⟩
 | eps hm h1 _ ih =>
   have ih := ih hy
   refine ⟨fun e => ?_, fun e => ?_⟩
   · rcases star_mem.1 hm with h2 | ⟨s, hs, rfl⟩ | ⟨s, hs, rfl⟩
     · have := ha.mv _ h2; omega
     · obtain ⟨u, v, f, rfl, hf, h3, h4⟩ := ih.2 (ha.st s hs).2
       exact .app ⟨s, hs, f, hf, h3⟩ h4
     · have := ha.fi s hs
       dsimp only at e; omega
   · rcases star_mem.1 hm with h2 | ⟨s, hs, rfl⟩ | ⟨s, hs, rfl⟩
     · obtain ⟨u, v, f, e2, hf, h3, h4⟩ := ih.2 (by have := ha.mv _ h2; omega)
       exact ⟨u, v, f, e2, hf, .eps h2 h1 h3, h4⟩
     · dsimp only at e; omega
     · exact ⟨[], _, s, rfl, hs, .nil _, ih.1 rfl⟩
 | sym hm h1 _ ih =>
   have ih := ih hy
   rcases star_mem.1 hm with h2 | ⟨s, hs, rfl⟩ | ⟨s, hs, rfl⟩
   · refine ⟨fun e => by have := ha.mv _ h2; omega, fun e => ?_⟩
     obtain ⟨u, v, f, e2, hf, h3, h4⟩ := ih.2 (by have := ha.mv _ h2; omega)
     exact ⟨_ :: u, v, f, by rw [e2]; rfl, hf, .sym h2 h1 h3, h4⟩
   · exact absurd rfl h1
   · exact absurd rfl h1
theorem star_lng (ha : VOk a) {w : List Int} : Lng (starA a) w ↔ Star (Lng a) w := by
 constructor
 · rintro ⟨s, hs, f, hf, h⟩
   have hs : s = a.n := List.mem_singleton.1 hs
   have hf : f = a.n := List.mem_singleton.1 hf
   exact (star_way ha h hf).1 hs
 · intro h
   refine ⟨a.n, List.mem_singleton.2 rfl, a.n, List.mem_singleton.2 rfl, ?_⟩
   induction h with
   | nil => exact .nil _
   | app h _ ih =>
     obtain ⟨s, hs, f, hf, h⟩ := h
     have h1 : Pth (starA a) s _ f := h.mono fun m hm => star_mem.2 (.inl hm)
     have h2 : Pth (starA a) f _ a.n := Pth.eps (m := ⟨f, a.n, -1⟩) (star_mem.2 (.inr (.inr ⟨f, hf, rfl⟩))) rfl ih
     exact Pth.eps (m := ⟨a.n, s, -1⟩) (star_mem.2 (.inr (.inl ⟨s, hs, rfl⟩))) rfl (h1.app h2)
theorem mem_turnM {l : List Mv} {x : Mv} : x ∈ turnM l ↔ (⟨x.dst, x.src, x.sym⟩ : Mv) ∈ l := by
 unfold turnM
 rw [List.mem_map]
 constructor
 · rintro ⟨y, hy, rfl⟩; exact hy
 · intro h; exact ⟨_, h, rfl⟩
theorem rev_way {s t : Int} {w : List Int} (h : Pth (revA a) s w t) : Pth a t w.reverse s := by
 induction h with
 | nil s => exact .nil s
 | @eps m w t hm h1 _ ih =>
   have h2 := mem_turnM.1 (show m ∈ turnM a.moves from hm)
   have h3 := ih.app (Pth.eps (m := ⟨m.dst, m.src, m.sym⟩) h2 h1 (.nil _))
   rw [List.append_nil] at h3; exact h3
 | @sym m w t hm h1 _ ih =>
   have h2 := mem_turnM.1 (show m ∈ turnM a.moves from hm)
   rw [List.reverse_cons]
   exact ih.app (Pth.sym (m := ⟨m.dst, m.src, m.sym⟩) h2 h1 (.nil _))
theorem rev_way' {s t : Int} {w : List Int} (h : Pth a t w s) : Pth (revA a) s w.reverse t := by
 induction h with
 | nil s => exact .nil s
 | @eps m w t hm h1 _ ih =>
   have h2 : (⟨m.dst, m.src, m.sym⟩ : Mv) ∈ (revA a).moves := mem_turnM.2 hm
   have h3 := ih.app (Pth.eps (m := ⟨m.dst, m.src, m.sym⟩) h2 h1 (.nil _))
   rw [List.append_nil] at h3; exact h3
 | @sym m w t hm h1 _ ih =>
   have h2 : (⟨m.dst, m.src, m.sym⟩ : Mv) ∈ (revA a).moves := mem_turnM.2 hm
   rw [List.reverse_cons]
   exact ih.app (Pth.sym (m := ⟨m.dst, m.src, m.sym⟩) h2 h1 (.nil _))
theorem rev_lng {w : List Int} : Lng (revA a) w ↔ Lng a w.reverse := by
 constructor
 · rintro ⟨s, hs, f, hf, h⟩; exact ⟨f, hf, s, hs, rev_way h⟩
 · rintro ⟨s, hs, f, hf, h⟩
   have := rev_way' h
   rw [List.reverse_reverse] at this
   exact ⟨f, hf, s, hs, this⟩
inductive Mix : List Int → List Int → List Int → Prop
 | nil : Mix [] [] []
 | one {w u v : List Int} (c : Int) (h : Mix w u v) : Mix (c :: w) (c :: u) v
 | two {w u v : List Int} (c : Int) (h : Mix w u v) : Mix (c :: w) u (c :: v)
theorem shuf_way (ha : VOk a) (hb : VOk b) {x y : Int} {w : List Int} (h : Pth (shufA a b) x w y) : ∀ i j, (0 ≤ i ∧ i < a.n) → (0 ≤ j ∧ j < b.n) → x = i * b.n + j → ∃ i' j' u v, (0 ≤ i' ∧ i' < a.n) ∧ (0 ≤ j' ∧ j' < b.n) ∧ y = i' * b.n + j' ∧ Mix w u v ∧ Pth a i u i' ∧ Pth b j v j' := by
 induction h with
 | nil x => exact fun i j hi hj e => ⟨i, j, [], [], hi, hj, e, .nil, .nil _, .nil _⟩
 | eps hm h1 _ ih =>
   intro i j hi hj e
   rcases mem_shM.1 hm with ⟨z, hz, k, hk, rfl⟩ | ⟨z, hz, k, hk, rfl⟩
   · have h2 := ha.mv z hz
     obtain ⟨rfl, e2⟩ := lex_inj e ⟨by omega, hk⟩ hj
     obtain ⟨i', j', u, v, h3, h4, h5, h6, h7, h8⟩ := ih z.dst k ⟨h2.2.2.1, h2.2.2.2.1⟩ ⟨by omega, hk⟩ rfl
     exact ⟨i', j', u, v, h3, h4, h5, h6, .eps hz h1 h7, e2 ▸ h8⟩
   · have h2 := hb.mv z hz
     obtain ⟨e2, rfl⟩ := lex_inj e ⟨h2.1, h2.2.1⟩ hj
     obtain ⟨i', j', u, v, h3, h4, h5, h6, h7, h8⟩ := ih k z.dst ⟨by omega, hk⟩ ⟨h2.2.2.1, h2.2.2.2.1⟩ rfl
     exact ⟨i', j', u, v, h3, h4, h5, h6, e2 ▸ h7, .eps hz h1 h8⟩
 | sym hm h1 _ ih =>
   intro i j hi hj e
   rcases mem_shM.1 hm with ⟨z, hz, k, hk, rfl⟩ | ⟨z, hz, k, hk, rfl⟩
   · have h2 := ha.mv z hz
     obtain ⟨rfl, e2⟩ := lex_inj e ⟨by omega, hk⟩ hj
     obtain ⟨i', j', u, v, h3, h4, h5, h6, h7, h8⟩ := ih z.dst k ⟨h2.2.2.1, h2.2.2.2.1⟩ ⟨by omega, hk⟩ rfl
     exact ⟨i', j', _ :: u, v, h3, h4, h5, .one _ h6, .sym hz h1 h7, e2 ▸ h8⟩
   · have h2 := hb.mv z hz
     obtain ⟨e2, rfl⟩ := lex_inj e ⟨h2.1, h2.2.1⟩ hj
     obtain ⟨i', j', u, v, h3, h4, h5, h6, h7, h8⟩ := ih k z.dst ⟨by omega, hk⟩ ⟨h2.2.2.1, h2.2.2.2.1⟩ rfl
     exact ⟨i', j', u, _ :: v, h3, h4, h5, .two _ h6, e2 ▸ h7, .sym hz h1 h8⟩
theorem shuf_eps (hb : VOk b) {i i' j : Int} {u : List Int} (hj : 0 ≤ j ∧ j < b.n) (h : Pth a i u i') : Pth (shufA a b) (i * b.n + j) u (i' * b.n + j) := by
 have e : ((j.toNat : Nat) : Int) = j := Int.toNat_of_nonneg hj.1
 induction h with
 | nil s => exact .nil _
 | @eps m w t hm h1 _ ih => exact Pth.eps (m := ⟨m.src * b.n + j, m.dst * b.n + j, m.sym⟩) (mem_shM.2 (.inl ⟨m, hm, j.toNat, by omega, by rw [e]⟩)) h1 ih
 | @sym m w t hm h1 _ ih => exact Pth.sym (m := ⟨m.src * b.n + j, m.dst * b.n + j, m.sym⟩) (mem_shM.2 (.inl ⟨m, hm, j.toNat, by omega, by rw [e]⟩)) h1 ih
theorem shuf_eps2 {i j j' : Int} {u : List Int} (hi : 0 ≤ i ∧ i < a.n) (h : Pth b j u j') : Pth (shufA a b) (i * b.n + j) u (i * b.n + j') := by
 have e : ((i.toNat : Nat) : Int) = i := Int.toNat_of_nonneg hi.1
 induction h with
 | nil s => exact .nil _
 | @eps m w t hm h1 _ ih => exact Pth.eps (m := ⟨i * b.n + m.src, i * b.n + m.dst, m.sym⟩) (mem_shM.2 (.inr ⟨m, hm, i.toNat, by omega, by rw [e]⟩)) h1 ih
 | @sym m w t hm h1 _ ih => exact Pth.sym (m := ⟨i * b.n + m.src, i * b.n + m.dst, m.sym⟩) (mem_shM.2 (.inr ⟨m, hm, i.toNat, by omega, by rw [e]⟩)) h1 ih
theorem pth_in (ha : AOk a) {s t : Int} {w : List Int} (h : Pth a s w t) (hs : 0 ≤ s ∧ s < a.n) : 0 ≤ t ∧ t < a.n := by
 induction h with
 | nil s => exact hs
 | eps hm _ _ ih => exact ih (by have := ha.mv _ hm; omega)
 | sym hm _ _ ih => exact ih (by have := ha.mv _ hm; omega)
theorem way_shuf (ha : VOk a) (hb : VOk b) {w u v : List Int} (hm : Mix w u v) : ∀ {i i' j j' : Int}, (0 ≤ i ∧ i < a.n) → (0 ≤ j ∧ j < b.n) → Pth a i u i' → Pth b j v j' → Pth (shufA a b) (i * b.n + j) w (i' * b.n + j') := by
 induction hm with
 | nil =>
   intro i i' j j' hi hj h1 h2
   have h3 := (shuf_eps hb hj h1).app (shuf_eps2 (pth_in ha.toAOk h1 hi) h2)
   exact h3
 | one c _ ih =>
   intro i i' j j' hi hj h1 h2
   obtain ⟨m, hm, h3, rfl, h4, h5⟩ := h1.cons
   have h6 := ha.mv m hm
   have h7 : Pth a m.src [m.sym] m.dst := .sym hm h4 (.nil _)
   have h8 := (shuf_eps hb hj h3).app ((shuf_eps hb hj h7).app (ih ⟨h6.2.2.1, h6.2.2.2.1⟩ hj h5 h2))
   exact h8
 | two c _ ih =>
   intro i i' j j' hi hj h1 h2
   obtain ⟨m, hm, h3, rfl, h4, h5⟩ := h2.cons
   have h6 := hb.mv m hm
   have h7 : Pth b m.src [m.sym] m.dst := .sym hm h4 (.nil _)
   have h8 := (shuf_eps2 hi h3).app ((shuf_eps2 hi h7).app (ih hi ⟨h6.2.2.1, h6.2.2.2.1⟩ h1 h5))
   exact h8
theorem shuf_lng (ha : VOk a) (hb : VOk b) {w : List Int} : Lng (shufA a b) w ↔ ∃ u v, Mix w u v ∧ Lng a u ∧ Lng b v := by
 constructor
 · rintro ⟨s, hs, f, hf, h⟩
   obtain ⟨i, hi, j, hj, rfl⟩ := mem_shI.1 (show s ∈ shI b.n a.start b.start from hs)
   obtain ⟨i', hi', j', hj', rfl⟩ := mem_shI.1 (show f ∈ shI b.n a.fin b.fin from hf)
   obtain ⟨i2, j2, u, v, h1, h2, h3, h4, h5, h6⟩ := shuf_way ha hb h i j (ha.st i hi) (hb.st j hj) rfl
   obtain ⟨rfl, rfl⟩ := lex_inj h3 (hb.fi j' hj') h2
   exact ⟨u, v, h4, ⟨i, hi, i', hi', h5⟩, ⟨j, hj, j', hj', h6⟩⟩
 · rintro ⟨u, v, hm, ⟨i, hi, i', hi', h5⟩, ⟨j, hj, j', hj', h6⟩⟩
   exact ⟨_, mem_shI.2 ⟨i, hi, j, hj, rfl⟩, _, mem_shI.2 ⟨i', hi', j', hj', rfl⟩, way_shuf ha hb hm (ha.st i hi) (hb.st j hj) h5 h6⟩
end
section
variable {α κ : Type} [DecidableEq κ] {W : Srch α κ}
def Srch.Born (W : Srch α κ) (o : List α) : Prop := ∀ j x, 0 < j → o[j]? = some x → ∃ i y s, i < j ∧ o[i]? = some y ∧ s < W.m ∧ x = W.step i y s
theorem Srch.Born.visit {o o' : List α} {i s n : Nat} {y : α} (h : W.Born o) (hy : o[i]? = some y) (hs : s < W.m) (hv : visit W.key W.cap o (W.step i y s) = some (o', n)) : W.Born o' := by
 unfold Go.Proofs.YtgigclnaicbiaaaGreatDoor.visit at hv
 split at hv
 · cases hv; exact h
 · split at hv
   · cases hv
   · cases hv
     intro j x hj hx
     rw [List.getElem?_append] at hx
     split at hx
     · obtain ⟨i', y', s', h1, h2, h3, h4⟩ := h j x hj hx
       exact ⟨i', y', s', h1, preG_get (List.prefix_append ..) h2, h3, h4⟩
     · rename_i hjl
       have h1 := lt_of_get hx
       rw [List.length_singleton] at h1
       rw [show j - o.length = 0 by omega, List.getElem?_cons_zero] at hx
       cases hx
       exact ⟨i, y, s, by have := lt_of_get hy; omega, preG_get (List.prefix_append ..) hy, hs, rfl⟩
theorem Srch.Born.row {o : List α} {i : Nat} {y : α} (h : W.Born o) (hy : o[i]? = some y) : ∀ {s : Nat} {o' : List α} {r : List Nat}, s ≤ W.m → W.row i y o s = some (o', r) → W.Born o' ∧ o <+: o'
 | 0, o', r, _, hr => by
   rw [Srch.row] at hr; cases hr
   exact ⟨h, List.prefix_refl _⟩
 | s + 1, o', r, hs, hr => by
   rw [Srch.row, Option.bind_eq_some_iff] at hr
   obtain ⟨⟨o1, r1⟩, h1, h2⟩ := hr
   obtain ⟨⟨o2, n⟩, h3, h4⟩ := Option.map_eq_some_iff.1 h2
   cases h4
   obtain ⟨h5, h6⟩ := Srch.Born.row h hy (by omega) h1
   exact ⟨h5.visit (preG_get h6 hy) (by omega) h3, h6.trans (visit_pre h3).1⟩
theorem Srch.born {x0 : α} : ∀ {i : Nat} {o : List α} {rows : List (List Nat)}, W.upto x0 i = some (o, rows) → W.Born o
 | 0, o, rows, h => by
   rw [Srch.upto] at h; cases h
   intro j x hj hx
   have := lt_of_get hx
   rw [List.length_singleton] at this; omega
 | i + 1, o, rows, h => by
   rw [Srch.upto, Option.bind_eq_some_iff] at h
   obtain ⟨⟨o1, rows1⟩, h1, h2⟩ := h
   have h3 := Srch.born h1
   dsimp only at h2
   cases hx : o1[i]? with
   | none => rw [hx] at h2; cases h2; exact h3
   | some x =>
     rw [hx] at h2
     obtain ⟨⟨o2, r⟩, h5, h6⟩ := Option.map_eq_some_iff.1 h2
     cases h6
     exact (h3.row hx (Nat.le_refl _) h5).1
end
def Back (par : List (Int × Int)) : Prop := ∀ (j : Nat) (x : Int × Int), par[j]? = some x → x.1 < (j : Int)
theorem pathP_fuel {par : List (Int × Int)} (h : Back par) : ∀ (f g i : Nat), i < f → i < g → pathP par f i = pathP par g i
 | 0, _, _, h1, _ => by omega
 | f + 1, 0, _, _, h2 => by omega
 | f + 1, g + 1, i, h1, h2 => by
   rw [pathP, pathP]
   cases hx : par[i]? with
   | none => rfl
   | some x =>
     dsimp only
     have := h i x hx
     by_cases h0 : x.1 < 0
     · rw [if_pos h0, if_pos h0]
     · rw [if_neg h0, if_neg h0, pathP_fuel h f g x.1.toNat (by omega) (by omega)]
def wayP (par : List (Int × Int)) (i : Nat) : List Int := pathP par (i + 1) i
theorem wayP_end {par : List (Int × Int)} {i : Nat} {x : Int × Int} (hx : par[i]? = some x) (h0 : x.1 < 0) : wayP par i = [] := by
 unfold wayP; rw [pathP, hx]; dsimp only; rw [if_pos h0]
theorem wayP_on {par : List (Int × Int)} (h : Back par) {i : Nat} {x : Int × Int} (hx : par[i]? = some x) (h0 : ¬ x.1 < 0) : wayP par i = wayP par x.1.toNat ++ [x.2] := by
 unfold wayP; rw [pathP, hx]; dsimp only; rw [if_neg h0, pathP_fuel h i (x.1.toNat + 1) x.1.toNat (by have := h i x hx; omega) (by omega)]
theorem prod_back {A B : Aut} {i : Nat} {o : List ((Nat × Nat) × (Int × Int))} {rows : List (List Nat)} (hu : (prodW A B).upto ((0, 0), (-1, -1)) i = some (o, rows)) (h0 : o[0]? = some ((0, 0), (-1, -1))) : Back (o.map (·.2)) := fun j x hx => by
 rw [List.getElem?_map] at hx
 obtain ⟨y, hy, rfl⟩ := Option.map_eq_some_iff.1 hx
 rcases Nat.eq_zero_or_pos j with rfl | hj
 · rw [h0] at hy; cases hy; decide
 · obtain ⟨i', y', s, h1, _, _, rfl⟩ := Srch.born hu j y hj hy
   show ((i' : Nat) : Int) < _
   omega
theorem idxB (l : List Bool) : idx (fun x => x == true) l = match l.idxOf? true with | some i => (i : Int) | none => -1 := rfl
section
variable {α κ : Type} [DecidableEq κ] {W : Srch α κ} {g : α → Int}
theorem Srch.row_ages (hg : ∀ i x s, g (W.step i x s) = ((i : Nat) : Int)) {i : Nat} {x : α} {o : List α} : ∀ {s : Nat} {o' : List α} {r : List Nat}, W.row i x o s = some (o', r) → o <+: o' ∧ (∀ k y, o.length ≤ k → o'[k]? = some y → g y = ((i : Nat) : Int)) ∧ ∀ c n : Nat, r[c]? = some n → n < o'.length
 | 0, o', r, h => by
   rw [Srch.row] at h; cases h
   exact ⟨List.prefix_refl _, fun k y hk hy => by have := lt_of_get hy; omega, fun c n h => by simp at h⟩
 | s + 1, o', r, h => by
   rw [Srch.row, Option.bind_eq_some_iff] at h
   obtain ⟨⟨o1, r1⟩, h1, h2⟩ := h
   obtain ⟨⟨o2, n⟩, h3, h4⟩ := Option.map_eq_some_iff.1 h2
   cases h4
   obtain ⟨h5, h6, h7⟩ := Srch.row_ages hg h1
   obtain ⟨h8, h9, _⟩ := visit_pre h3
   dsimp only at h3 h8 h9 ⊢
   refine ⟨h5.trans h8, fun k y hk hy => ?_, fun c m hc => ?_⟩
   · rcases Nat.lt_or_ge k o1.length with hkl | hkl
     · obtain ⟨z, hz⟩ := get_some hkl
       have := preG_get h8 hz
       rw [this] at hy; cases hy
       exact h6 k y hk hz
     · have hv := h3
       unfold Go.Proofs.YtgigclnaicbiaaaGreatDoor.visit at hv
       split at hv
       · cases hv; have := lt_of_get hy; omega
       · split at hv
         · cases hv
         · cases hv
           have h10 := lt_of_get hy
           rw [List.length_append, List.length_singleton] at h10
           rw [List.getElem?_append_right hkl, show k - o1.length = 0 by omega] at hy
           cases hy
           exact hg i x s
   · rw [List.getElem?_append] at hc
     split at hc
     · have := h7 c m hc
       have := h8.length_le
       omega
     · have h10 := lt_of_get hc
       rw [List.length_singleton] at h10
       rw [show c - r1.length = 0 by omega] at hc
       cases hc; exact h9
structure Srch.Aged (g : α → Int) (i : Nat) (o : List α) (rows : List (List Nat)) : Prop where
 mono : ∀ (j k : Nat) (x y : α), j ≤ k → o[j]? = some x → o[k]? = some y → g x ≤ g y
 lt : ∀ (j : Nat) (x : α), o[j]? = some x → g x < (i : Nat)
 len : i ≤ o.length → rows.length = i
 to : ∀ (p : Nat) (r : List Nat) (c n : Nat), rows[p]? = some r → r[c]? = some n → ∃ x, o[n]? = some x ∧ g x ≤ (p : Nat)
theorem Srch.ages (hg : ∀ i x s, g (W.step i x s) = ((i : Nat) : Int)) {x0 : α} (h0 : g x0 = -1) : ∀ {i : Nat} {o : List α} {rows : List (List Nat)}, W.upto x0 i = some (o, rows) → Srch.Aged g i o rows
 | 0, o, rows, h => by
   rw [Srch.upto] at h; cases h
   refine ⟨fun j k x y _ hx hy => ?_, fun j x hx => ?_, fun _ => rfl, fun p r c n h => by simp at h⟩
   · have h1 := lt_of_get hx
     have h2 := lt_of_get hy
     rw [List.length_singleton] at h1 h2
     have e1 : j = 0 := by omega
     have e2 : k = 0 := by omega
     subst e1 e2
     rw [hx] at hy; cases hy; exact Int.le_refl _
   · have h1 := lt_of_get hx
     rw [List.length_singleton] at h1
     have e1 : j = 0 := by omega
     subst e1
     cases hx
     omega
 | i + 1, o, rows, h => by
   rw [Srch.upto, Option.bind_eq_some_iff] at h
   obtain ⟨⟨o1, rows1⟩, h1, h2⟩ := h
   have h3 := Srch.ages hg h0 h1
   dsimp only at h2
   cases hx : o1[i]? with
   | none =>
     rw [hx] at h2; cases h2
     have := List.getElem?_eq_none_iff.1 hx
     exact ⟨h3.mono, fun j x hx => by have := h3.lt j x hx; omega, fun h => by omega, h3.to⟩
   | some x =>
     rw [hx] at h2
     obtain ⟨⟨o2, r⟩, h5, h6⟩ := Option.map_eq_some_iff.1 h2
     cases h6
     dsimp only
     have hil := lt_of_get hx
     have hrl := h3.len (by omega)
     obtain ⟨h7, h8, h9⟩ := Srch.row_ages hg h5
     have old : ∀ {k : Nat} {y : α}, k < o1.length → o2[k]? = some y → o1[k]? = some y := fun {k y} hk hy => by
      obtain ⟨z, hz⟩ := get_some hk
      have := preG_get h7 hz
      rw [this] at hy; cases hy; exact hz
     have lt : ∀ (j : Nat) (x : α), o2[j]? = some x → g x < ((i + 1 : Nat) : Int) := fun j y hy => by
      rcases Nat.lt_or_ge j o1.length with hj | hj
      · have := h3.lt j y (old hj hy); omega
      · have := h8 j y hj hy; omega
     refine ⟨fun j k y z hjk hy hz => ?_, lt, fun _ => by rw [List.length_append, hrl]; rfl, fun p r' c n hr hn => ?_⟩
     · rcases Nat.lt_or_ge k o1.length with hk | hk
       · exact h3.mono j k y z hjk (old (by omega) hy) (old hk hz)
       · have e := h8 k z hk hz
         have := lt j y hy
         omega
     · rw [List.getElem?_append] at hr
       split at hr
       · obtain ⟨y, hy, hle⟩ := h3.to p r' c n hr hn
         exact ⟨y, preG_get h7 hy, hle⟩
       · have hp := lt_of_get hr
         rw [List.length_singleton] at hp
         rename_i hpl
         have ep : p = i := by omega
         subst ep
         rw [hrl, Nat.sub_self] at hr
         cases hr
         obtain ⟨y, hy⟩ := get_some (h9 c n hn)
         exact ⟨y, hy, by have := lt n y hy; omega⟩
end
abbrev PrS2 := (Nat × Nat) × (Int × Int)
structure PQ (A B : Aut) (o : List PrS2) (rows : List (List Nat)) : Prop where
 mA : IsMin A
 mB : IsMin B
 sy : A.syms = B.syms
 hu : prodQ A B = some (o, rows)
section
variable {A B : Aut} {o : List PrS2} {rows : List (List Nat)}
theorem PQ.ok (h : PQ A B o rows) : (prodW A B).Ok (PairOk A B) ((0, 0), (-1, -1)) o rows ∧ rows.length = o.length ∧ o.length ≤ 2000 := by
 obtain ⟨h1, _, h3⟩ := prod_ok h.mA.det h.mB.det h.sy h.hu
 have hcap : o.length ≤ 2000 := h1.cap
 exact ⟨h1, h3 hcap, hcap⟩
theorem PQ.back (h : PQ A B o rows) : Back (o.map (·.2)) := prod_back h.hu h.ok.1.zero
theorem PQ.aged (h : PQ A B o rows) : Srch.Aged (fun x : PrS2 => x.2.1) (prodW A B).cap o rows := by
 have hu : (prodW A B).upto ((0, 0), (-1, -1)) (prodW A B).cap = some (o, rows) := h.hu
 exact Srch.ages (g := fun x : PrS2 => x.2.1) (fun _ _ _ => rfl) rfl hu
def wlen (o : List PrS2) (j : Nat) : Nat := (wayP (o.map (·.2)) j).length
theorem PQ.zero (h : PQ A B o rows) : wayP (o.map (·.2)) 0 = [] := wayP_end (x := (-1, -1)) (by rw [List.getElem?_map, h.ok.1.zero]; rfl) (by decide)
theorem PQ.on (h : PQ A B o rows) {j : Nat} (hj : 0 < j) (hjl : j < o.length) : ∃ (i s : Nat) (x y : PrS2), i < j ∧ o[j]? = some x ∧ o[i]? = some y ∧ s < A.syms.toNat ∧ x = (prodW A B).step i y s ∧ x.2.1 = (i : Int) ∧ wayP (o.map (·.2)) j = wayP (o.map (·.2)) i ++ [(s : Int)] := by
 obtain ⟨x, hx⟩ := get_some hjl
 obtain ⟨i, y, s, h1, h2, h3, h4⟩ := Srch.born h.hu j x hj hx
 have e : x.2 = (((i : Nat) : Int), ((s : Nat) : Int)) := by rw [h4]; rfl
 refine ⟨i, s, x, y, h1, hx, h2, h3, h4, by rw [e], ?_⟩
 have hw := wayP_on h.back (i := j) (x := (((i : Nat) : Int), ((s : Nat) : Int))) (by rw [List.getElem?_map, hx, ← e]; rfl) (by dsimp only; omega)
 dsimp only at hw
 rw [Int.toNat_natCast] at hw
 exact hw
theorem PQ.mono (h : PQ A B o rows) : ∀ (k : Nat), k < o.length → ∀ j, j ≤ k → wlen o j ≤ wlen o k := fun k => by
 induction k using Nat.strongRecOn with
 | ind k ih =>
   intro hk j hjk
   rcases Nat.eq_zero_or_pos j with rfl | hj
   · unfold wlen; rw [h.zero]; exact Nat.zero_le _
   · obtain ⟨i, s, x, y, h1, h2, h3, _, _, h6, h7⟩ := h.on hj (by omega)
     obtain ⟨i', s', x', y', h1', h2', h3', _, _, h6', h7'⟩ := h.on (show 0 < k by omega) hk
     have hle : x.2.1 ≤ x'.2.1 := h.aged.mono j k x x' hjk h2 h2'
     have := ih i' h1' (by omega) i (by omega)
     unfold wlen at this ⊢
     rw [h7, h7', List.length_append, List.length_append]
     exact Nat.add_le_add_right this _
theorem PQ.step (h : PQ A B o rows) {p c n : Nat} {r : List Nat} (hr : rows[p]? = some r) (hn : r[c]? = some n) : wlen o n ≤ wlen o p + 1 := by
 obtain ⟨x, hx, hle⟩ := h.aged.to p r c n hr hn
 have hle : x.2.1 ≤ (p : Int) := hle
 rcases Nat.eq_zero_or_pos n with rfl | hn0
 · unfold wlen; rw [h.zero]; exact Nat.zero_le _
 · obtain ⟨i, s, x', y, h1, h2, h3, _, _, h6, h7⟩ := h.on hn0 (lt_of_get hx)
   rw [hx] at h2; cases h2
   have hpl : p < o.length := by rw [← h.ok.2.1]; exact lt_of_get hr
   have := h.mono p hpl i (by omega)
   unfold wlen at this ⊢
   rw [h7, List.length_append, List.length_singleton]
   omega
theorem PQ.row (h : PQ A B o rows) {op : Int} {p c : Nat} (hp : p < o.length) (hc : c < A.syms.toNat) : ∃ (r : List Nat) (n : Nat), rows[p]? = some r ∧ r[c]? = some n ∧ toT (prodT A B op (o, rows)) p c = n ∧ n < o.length := by
 obtain ⟨r, hr⟩ := get_some (show p < rows.length by rw [h.ok.2.1]; exact hp)
 have hl : r.length = A.syms.toNat := h.ok.1.len r (List.mem_of_getElem? hr)
 obtain ⟨n, hn⟩ := get_some (show c < r.length by omega)
 obtain ⟨x, hx⟩ := get_some hp
 exact ⟨r, n, hr, hn, toT_at (t := prodT A B op (o, rows)) hr hn, (h.ok.1.to p x r c n hx hr hn).1⟩
theorem runT_snoc (t : Tab) (x : Nat) (w : List Nat) (c : Nat) : runT t x (w ++ [c]) = toT t (runT t x w) c := by unfold runT; rw [List.foldl_append]; rfl
theorem snoc_ind {α : Type} {P : List α → Prop} (h0 : P []) (h1 : ∀ l x, P l → P (l ++ [x])) (l : List α) : P l := by
 have : ∀ m : List α, P m.reverse := fun m => by
  induction m with
  | nil => exact h0
  | cons x m ih => rw [List.reverse_cons]; exact h1 _ _ ih
 have h := this l.reverse
 rw [List.reverse_reverse] at h; exact h
theorem PQ.run (h : PQ A B o rows) {op : Int} (w : List Nat) : WordN A.syms.toNat w → runT (prodT A B op (o, rows)) 0 w < o.length ∧ wlen o (runT (prodT A B op (o, rows)) 0 w) ≤ w.length := by
 refine snoc_ind (P := fun w => WordN A.syms.toNat w → runT (prodT A B op (o, rows)) 0 w < o.length ∧ wlen o (runT (prodT A B op (o, rows)) 0 w) ≤ w.length) ?_ ?_ w
 · intro _
   refine ⟨h.ok.1.pos, ?_⟩
   show wlen o 0 ≤ 0
   unfold wlen; rw [h.zero]; exact Nat.le_refl _
 · intro w c ih hw
   obtain ⟨h1, h2⟩ := ih fun c hc => hw c (List.mem_append_left _ hc)
   obtain ⟨r, n, hr, hn, e, hno⟩ := h.row (op := op) h1 (hw c (List.mem_append_right _ (List.mem_singleton.2 rfl)))
   rw [runT_snoc, e]
   have := h.step hr hn
   rw [List.length_append, List.length_singleton]
   exact ⟨hno, by omega⟩
theorem PQ.fin (h : PQ A B o rows) {op : Int} {w : List Nat} (hw : WordN A.syms.toNat w) {x : PrS2} (hx : o[runT (prodT A B op (o, rows)) 0 w]? = some x) : prodF A B op x = decB op (accA A (wI w)) (accA B (wI w)) := by
 have := prod_lang h.mA h.mB h.sy (op := op) h.hu hw
 rw [← this]
 show _ = ((o.map (prodF A B op))[runT (prodT A B op (o, rows)) 0 w]?).getD false
 rw [List.getElem?_map, hx]; rfl
end
theorem rowMv_asc (i : Nat) (r : List Nat) : AscM (rowMv i r) := by
 unfold AscM
 rw [List.pairwise_iff_getElem]
 intro j k hj hk hjk
 unfold rowMv at hj hk ⊢
 rw [List.length_map, List.length_zipIdx] at hj hk
 rw [mvLt_iff, List.getElem_map, List.getElem_map, List.getElem_zipIdx, List.getElem_zipIdx]
 dsimp only
 omega
theorem mvFrom_asc : ∀ (rows : List (List Nat)) (k : Nat), AscM (mvFrom k rows)
 | [], _ => .nil
 | r :: rows, k => by
   rw [mvFrom_cons]
   refine List.pairwise_append.2 ⟨rowMv_asc k r, mvFrom_asc rows (k + 1), fun x hx y hy => ?_⟩
   have h1 := rowMv_src x hx
   have h2 := mvFrom_src y hy
   rw [mvLt_iff]
   omega
theorem IsMin.valid {A : Aut} (h : IsMin A) : autOk A = true := by
 have hok := h.aok
 obtain ⟨t, o, rows, hT, hu, rfl, hm⟩ := h
 have h1 := hok.n0
 have h2 := hok.n1
 have h3 := hok.s0
 have h4 := hok.s1
 have h5 := hok.ml
 unfold autOk
 simp only [Bool.and_eq_true, decide_eq_true_eq]
 refine ⟨⟨⟨⟨⟨⟨⟨⟨h1, h2⟩, h3⟩, h4⟩, h5⟩, st_ok hok.st (List.pairwise_singleton ..)⟩, st_ok hok.fi (listedL_srt _ _)⟩, ?_⟩, asc_chain (mvFrom_asc rows 0)⟩
 rw [List.all_eq_true]
 intro m hm'
 have := hok.mv m hm'
 unfold mvOk
 simp only [Bool.and_eq_true, decide_eq_true_eq]
 omega
theorem fit_ok2 {a b : Aut} (h1 : autOk a = true) (h2 : autOk b = true) (h : a.syms = b.syms) : fitX a b = 0 := by unfold fitX; rw [if_neg (by rw [h1, h2]; simp), if_neg (fun e => e h)]
section
variable {A B : Aut} {o : List PrS2} {rows : List (List Nat)}
end
end Go.Proofs.YtgigclnaicbiaaaGreatDoor
