/-
  Walks: automata: the subset automaton.
  Walks: automata: the classes of a table's states.
  Walks: automata: the minimal automaton of a table.
  Walks: automata: the minimal automaton of an automaton.
  Plain laws: what minimal automata are like; complements. No program in sight.
  Walks: automata: Minimal and Complement.
  The engine: quotients; a struct and a value are handed back beside what is owned. No program in sight.
  Walks: the reference's automata: lists of numbers as texts.
  Walks: the reference's automata: the subset automaton. Its final states are handed over.
  Walks: the reference's automata: the classes of a table's states.
  Walks: the reference's automata: the automaton of a table.
  Walks: the reference's automata: the least automaton of a table.
  Plain laws: searches that go alike; the least automaton of a table whose final states are turned. No program in sight.
  Walks: the reference's automata: Minimal and Complement.
  Walks: automata: moves are sorted, each is kept once.
  Plain laws: automata that operations make. No program in sight.
  The engine: four operations that come up together. No program in sight.
  Walks: automata: what an operation made is minimized; Star.
  Walks: automata: Star.
  Plain laws: minimal automata are deterministic and complete; their products. No program in sight.
  The engine: maps keyed by pairs of numbers. No program in sight.
  The engine: three values are handed back. No program in sight.
  Walks: automata: products.
  Plain laws: how what a search has met was met; ways back; turning round. No program in sight.
  The engine: a row of numbers is turned round by the library. No program in sight.
  Walks: automata: the first word of a product.
-/
import Derived.Test.YtgigclnaicbiaaaDoorPk03
import Derived.Test.YtgigclnaicbiaaaDoorMShelfF
import Derived.Test.YtgigclnaicbiaaaDoorPk02
import Derived.Test.YtgigclnaicbiaaaDoorMShelfG
namespace Go.Proofs.YtgigclnaicbiaaaDoor
open Go.RowKit Go.Cb Go.En
set_option linter.all false
set_option maxRecDepth 100000
theorem tAgg63_LfB : AggT Tryd.prog 63 3 = true := by kernel_rfl
theorem tFl63_1_LfB : FldT Tryd.prog 63 1 1 = true := by kernel_rfl
theorem tFl63_2_LfB : FldT Tryd.prog 63 2 2 = true := by kernel_rfl
theorem tMp87_LfB : MpT Tryd.prog 87 9 3 .string (.int .i64 0) := ⟨Tryd.underlying87, Tryd.underlying9, .inl rfl, by show ZeroT _ _ _; unfold ZeroT; kernel_rfl⟩
theorem tNa36_LfB : NoAgg Tryd.prog 36 = true := by kernel_rfl
theorem tSt63_LfB : stInfo Tryd.prog 63 = some ((.agg #[(.int .i64 0), (.slice none 0 0), (.slice none 0 0)]), ([0, 1, 2] : List Nat).map fun o => (o, 1)) := by kernel_rfl
theorem tSz36_LfB : (Tryd.prog.info? 36).map (·.size) = some 1 := by kernel_rfl
theorem tSz61_LfB : (Tryd.prog.info? 61).map (·.size) = some 1 := by kernel_rfl
theorem tZr63_LfB : ZeroT Tryd.prog 63 (.agg #[(.int .i64 0), (.slice none 0 0), (.slice none 0 0)]) := by unfold ZeroT; kernel_rfl
def pNats (r : List Nat) : PV := pInts (toI r)
def rowAt (r : List Nat) (j : Nat) : Int := ((r[j]?).getD 0 : Nat)
theorem rowAt_nil (m : Nat) : vec m (fun j => pInt (rowAt [] j)) = List.replicate m (PV.val (.int .i64 0)) := by rw [vec_const]; rfl
theorem rowAt_set {m : Nat} {r : List Nat} (n : Nat) (h : r.length < m) : (vec m fun j => pInt (rowAt r j)).set (r.length * 1) (pInt (n : Nat)) = vec m fun j => pInt (rowAt (r ++ [n]) j) := by
 rw [Nat.mul_one, vec_set]
 refine vec_congr fun i hi => ?_
 unfold rowAt
 by_cases e : i = r.length
 · subst e; rw [if_pos rfl]; simp
 · rw [if_neg e, List.getElem?_append]
   split
   · rfl
   · rw [List.getElem?_eq_none (by omega), List.getElem?_eq_none (by simp; omega)]
theorem rowAt_full (r : List Nat) : (vec r.length fun j => pInt (rowAt r j)) = (toI r).map pInt := by
 symm
 refine vec_ext (by simp [toI]) fun i x hx => ?_
 unfold toI at hx
 rw [List.map_map, List.getElem?_map, Option.map_eq_some_iff] at hx
 obtain ⟨y, hy, rfl⟩ := hx
 unfold rowAt; rw [hy]; rfl
theorem share_row (e m : Nat) (r : List Nat) (h : r.length = m) : share (.own e 1 m (vec m fun j => pInt (rowAt r j))) = pNats r := by
 subst h
 rw [rowAt_full, share_ints _ _ _ (by simp [toI])]; rfl
theorem snoc_nats (e : Nat) (L : List (List Nat)) (x : List Nat) : PV.own e 1 (L.length + 1) (L.map pNats ++ [pNats x]) = .own e 1 (L ++ [x]).length ((L ++ [x]).map pNats) := by simp
theorem snoc_bools (e : Nat) (L : List Bool) (x : Bool) : PV.own e 1 (L.length + 1) (L.map pBool ++ [pBool x]) = .own e 1 (L ++ [x]).length ((L ++ [x]).map pBool) := by simp
theorem share_natss (e n : Nat) (l : List (List Nat)) (hn : n = l.length) : share (.own e 1 n (l.map pNats)) = .sl l.length (l.map pNats) := by
 subst hn
 rw [share, shares_eq, List.map_map]
 congr 1
theorem share_boolss (e n : Nat) (l : List Bool) (hn : n = l.length) : share (.own e 1 n (l.map pBool)) = .sl l.length (l.map pBool) := by
 subst hn
 rw [share, shares_eq, List.map_map]; rfl
def pTab (t : Tab) : PV := .agg [pInt (t.m : Nat), .sl t.rows.length (t.rows.map pNats), .sl t.fin.length (t.fin.map pBool)]
def RSub (a : Aut) (p : PV) : Prop := (∃ t, subT a = some t ∧ p = .tup [pTab t, pBool true]) ∨ (subT a = none ∧ ∃ u1 u2 u3 : Value, u1.oneCell' = true ∧ u2.oneCell' = true ∧ u3.oneCell' = true ∧ p = .tup [.agg [.val u1, .val u2, .val u3], pBool false])
section
variable {α : Type}
def numAt (f : α → ByteArray) (o : List α) (x : α) : Nat := if posK f o (f x) < o.length then posK f o (f x) else 0
theorem num_look (f : α → ByteArray) (o : List α) (x : α) : (mget (skv (numE f 0 o)) (.string (f x))).getD (.int .i64 0) = .int .i64 (numAt f o x : Nat) ∧ (mget (skv (numE f 0 o)) (.string (f x))).isSome = decide (posK f o (f x) < o.length) := by
 rw [mget_skv, numE_get]
 unfold numAt
 by_cases h : posK f o (f x) < o.length
 · rw [if_pos h, if_pos h, decide_eq_true h, Nat.zero_add]; exact ⟨rfl, rfl⟩
 · rw [if_neg h, if_neg h, decide_eq_false h]; exact ⟨rfl, rfl⟩
end
section
variable {α : Type} {P : Program} {sL hP : List (Nat × Ent)} {o : Oper}
theorem q_num2 {t ks e : Nat} {kd : TypeDesc} {z : Value} {x y : Operand} {m : Value} {f : α → ByteArray} {L : List α} {a : α} {p q : PV} (l : Nat) (hT : MpT P t ks e kd z) (hz : z = .int .i64 0) (hkd : kd = .string) (ho : o.op = .lookup t x y true := by exact rfl) (hx : ev sL x = some (m, p) := by exact rfl) (hl : lk hP l = some (m, .omap (skv (numE f 0 L))) := by exact rfl) (hy : ev sL y = some (.string (f a), q) := by exact rfl) :
 YE P (⟨sL, hP⟩ : St) o (· = .tuple [.int .i64 (numAt f L a : Nat), .bool (decide (posK f L (f a) < L.length))].toArray) (.tup [.val (.int .i64 (numAt f L a : Nat)), .val (.bool (decide (posK f L (f a) < L.length)))]) := by
 subst hz hkd
 have h := q_looko2 (sL := sL) (hP := hP) (o := o) l hT ho hx hl hy (kok_skv _ _)
 rw [(num_look f L a).1, (num_look f L a).2] at h
 exact h
end
theorem key_id {o : List (List Int)} {x : List Int} (h : ∀ l ∈ o, ∀ s ∈ l, 0 ≤ s) (hx : ∀ s ∈ x, 0 ≤ s) : posK keyB o (keyB x) = posK id o x := posK_inj fun l hl => keyB_inj (h l hl) hx
theorem num_put0 (x : List Int) : mput [] (.string (keyB x)) (.int .i64 0) = skv (numE keyB 0 [x]) := rfl
theorem num_putN {α : Type} {f : α → ByteArray} {o : List α} {x : α} (h : ¬ posK f o (f x) < o.length) : mput (skv (numE f 0 o)) (.string (f x)) (.int .i64 (o.length : Nat)) = skv (numE f 0 (o ++ [x])) := by
 have := numE_put f x o 0 h
 rw [Nat.zero_add] at this
 rw [mput_skv, this]
theorem SetOk.nn {a : Aut} {l : List Int} (h : SetOk a l) : ∀ s ∈ l, 0 ≤ s := fun s hs => (h.1 s hs).1
theorem SetOk.bd {a : Aut} (ha : AOk a) {l : List Int} (h : SetOk a l) : ∀ s ∈ l, 0 ≤ s ∧ s ≤ 1000000 := fun s hs => by have := h.1 s hs; have := ha.n1; omega
set_option maxHeartbeats 4000000 in
theorem aSubsets_e (a : Aut) (h : AOk a) : AF Tryd.prog 34 [pAut a] (RSub a) := by
 have hn1 := h.n1
 have hs0 := h.s0
 have hs1 := h.s1
 have hsN : ((a.syms.toNat : Nat) : Int) = a.syms := by omega
 have hst := set_start h
 refine AF.of_body 96 Tryd.func34 rfl Tryd.ntmps34 (Nat.le_of_ble_eq_true rfl) ?_
 intro w0 M0 vs hl hv
 obtain ⟨v0, rfl⟩ := len1 hl
 clear hl hv
 refine nav ?_
 (refine aC_region ?_ <;> refine s_boxa 1 5 fun h1 => ?_ <;> refine s_alloc [(.int .i64 0), (.slice none 0 0), (.slice none 0 0)] 3 2 tZr63_LfB fun h2 => ?_ <;> refine xL 3 q_assign ?_ <;> refine aL_end (nav ?_) <;> try dsimp only)
 (refine aC_region ?_ <;> (refine yL 14 (q_ldao 1 tAgg25_LdS) fun v14 hv14 => ?_; cases hv14) <;> (refine cS 15 (cA Tryd.call22 (aGraphOf_e a h)) fun v15 hv15 => ?_; cases hv15) <;> refine xL 4 q_assign ?_ <;> refine aL_end (nav ?_) <;> try dsimp only)
 (refine aC_region ?_ <;> refine xL 16 (q_fldo 1 tFl25_1_LdI) ?_ <;> (refine yL 17 (q_ldo 1 tNa3_LbB) fun v17 hv17 => ?_; cases hv17) <;> refine xL 18 (q_build tSt63_LfB) ?_ <;> refine s_alloc [(.int .i64 0), (.slice none 0 0), (.slice none 0 0)] 3 5 tZr63_LfB fun h5 => ?_ <;> refine s_sta 5 tAgg63_LfB ?_ <;> refine aL_end (nav ?_) <;> try dsimp only)
 refine aC_ent (nilCells (l := 5) [pInt a.syms, .own 22 1 0 [], .own 4 1 0 []] rfl rfl (fun i p p' h1 h2 => by
  match i with
  | 0 => cases h1; cases h2; exact .inl rfl
  | 1 => cases h1; cases h2; exact .inr ⟨rfl, _, _, rfl⟩
  | 2 => cases h1; cases h2; exact .inr ⟨rfl, _, _, rfl⟩
  | i + 3 => simp at h2)) fun _ => ?_
 refine aC_ent (focusO (l := 5) (l' := 301) (j := 1) rfl rfl rfl rfl) fun i => ?_
 obtain ⟨v301, ho301⟩ := i
 refine aC_ent (focusO (l := 5) (l' := 302) (j := 2) rfl rfl rfl rfl) fun i => ?_
 obtain ⟨v302, ho302⟩ := i
 dsimp only [List.set]
 (refine aC_region ?_ <;> refine xL 19 q_move ?_ <;> refine xL 20 (q_fldo 1 tFl25_2_LdI) ?_ <;> (refine yL 21 (q_ldo 1 tNa22_LdI) fun v21 hv21 => ?_; cases hv21) <;> (refine cO 22 (cA Tryd.call25 (aClosure_e a a.start hn1 h.mi h.st)) fun v22 ho22 => ?_; refine aL_ent (En.freeze (l := 22) (t := 22) rfl rfl) fun _ => ?_; rw [share_ints _ _ _ rfl]) <;> refine s_lit1 (kk := 1) 23 tEl36_LdS fun h23 ho23 => ?_ <;> refine xL 6 q_assign ?_ <;> refine aL_end (nav ?_) <;> try dsimp only)
 refine aC_ent (relabel (l := 23) 303 rfl rfl) fun _ => ?_
 obtain ⟨x0, hx0⟩ : ∃ x0, x0 = closL a a.start := ⟨_, rfl⟩
 rw [← hx0] at hst ⊢
 have hst2 := hst.len h
 (refine aC_region ?_ <;> refine s_mkmap 24 fun h24 ho24 => ?_ <;> refine xL 25 q_move ?_ <;> refine xL 26 (q_idxoN (i := 0) 303 tSl36_LdS) ?_ <;> (refine yL 27 (q_ldo 303 tNa22_LdI) fun v27 hv27 => ?_; cases hv27) <;> (refine cS 28 (cA Tryd.call49 (aKey_e x0 (by omega) (hst.bd h))) fun v28 hv28 => ?_; cases hv28) <;> (refine s_mins 24 tMp87_LfB ?_; rw [num_put0]) <;> refine xL 29 q_move ?_ <;> refine xL 7 q_assign ?_ <;> refine aL_end (nav ?_) <;> try dsimp only)
 refine aC_ent (relabel (l := 24) 304 rfl rfl) fun _ => ?_
 (refine aC_region ?_ <;> refine xL 8 q_assign ?_ <;> refine aL_end (nav ?_) <;> try dsimp only)
 refine aC_loop (ι := { q : Nat × Value × Value × Value × List (List Int) × List (List Nat) // (subW a).upto x0 q.1 = some (q.2.2.2.2.1, q.2.2.2.2.2) ∧ q.1 ≤ q.2.2.2.2.1.length ∧ q.2.1.oneCell' = true ∧ q.2.2.1.oneCell' = true ∧ q.2.2.2.1.oneCell' = true }) (fun k => ⟨[(1, _, _), (2, _, _), (3, _, _), (4, _, _), (5, _, _), (7, _, _), (6, k.1.2.2.2.1, .val k.1.2.2.2.1), (8, .int .i64 k.1.1, pInt k.1.1)], [(1, _, _), (2, _, _), (304, h24, .omap (skv (numE keyB 0 k.1.2.2.2.2.1))), (5, h5, .own 63 3 1 [pInt a.syms, .val k.1.2.1, .val k.1.2.2.1]), (301, k.1.2.1, .own 22 1 k.1.2.2.2.2.2.length (k.1.2.2.2.2.2.map pNats)), (302, k.1.2.2.1, .own 4 1 ((k.1.2.2.2.2.1.take k.1.1).map (accB a)).length (((k.1.2.2.2.2.1.take k.1.1).map (accB a)).map pBool)), (303, k.1.2.2.2.1, .own 22 1 k.1.2.2.2.2.1.length (k.1.2.2.2.2.1.map pInts))]⟩) (fun k => 2000 - k.1.1) ⟨(0, v301, v302, h23, [x0], []), rfl, Nat.zero_le _, ho301, ho302, ho23⟩ (fun a w H => H.weaken ⟨rfl, rfl, rfl, rfl, rfl, rfl, rfl, rfl, trivial⟩ ⟨rfl, rfl, rfl, rfl, rfl, rfl, rfl, trivial⟩) ?_
 rintro ⟨⟨i, r1, r2, r3, o, rows⟩, hU, hi, hr1, hr2, hr3⟩
 dsimp only
 dsimp only at hU hi hr1 hr2 hr3
 have hU' := hU
 rw [hx0] at hU'
 obtain ⟨hOk, hRl, _⟩ := sub_ok h hU'
 have hRl := hRl hi
 have hcap : o.length ≤ 2000 := hOk.cap
 have hOp := hOk.p
 have hone1 : En.one (PV.val r1) = true := hr1
 have hone2 : En.one (PV.val r2) = true := hr2
 have hfl : ((o.take i).map (accB a)).length ≤ 2000 := by rw [List.length_map, List.length_take]; omega
 refine nav ?_
 (refine aC_region ?_ <;> refine xL 30 q_move ?_ <;> refine xL 31 q_move ?_ <;> refine xL 32 (q_leno 303 tSl36_LdS) ?_ <;> refine xL 33 q_lss ?_ <;> refine aL_end (nav ?_) <;> try dsimp only)
 (first | refine cCd ?_ ?_ | refine cC ?_ ?_) <;> intro hb33
 · first
   | exact Bool.noConfusion hb33
   | (
    obtain ⟨x, hx⟩ := get_some (show i < o.length by omega)
    have hxs := hOp x (List.mem_of_getElem? hx)
    have hxl := hxs.len h
    refine nav ?_
    (refine aC_region ?_ <;> refine xL 36 (q_fldo 1 tFl25_1_LdI) ?_ <;> (refine yL 37 (q_ldo 1 tNa3_LbB) fun v37 hv37 => ?_; cases hv37) <;> (refine s_make (n := a.syms.toNat) 38 tEl22_LdI (fun h38 ho38 => ?_) (hx := by rw [hsN]; exact rfl) (hy := by rw [hsN]; exact rfl) (hb := by omega)) <;> refine xL 9 q_assign ?_ <;> refine aL_end (nav ?_) <;> try dsimp only)
    rw [← rowAt_nil]
    (refine aC_region ?_ <;> refine xL 39 q_move ?_ <;> refine xL 40 (q_leno 38 tSl22_LbB) ?_ <;> refine xL 41 q_move ?_ <;> refine aL_end (nav ?_) <;> try dsimp only)
    refine aC_loop (ι := { q : Nat × Value × List (List Int) × List Nat // (subW a).row i x o q.1 = some (q.2.2.1, q.2.2.2) ∧ q.1 ≤ a.syms.toNat ∧ q.2.1.oneCell' = true }) (fun k => ⟨[(1, _, _), (2, _, _), (3, _, _), (4, _, _), (5, _, _), (7, _, _), (8, _, _), (9, _, _), (40, _, _), (6, k.1.2.1, .val k.1.2.1), (41, .int .i64 k.1.1, pInt k.1.1)], [(1, _, _), (2, _, _), (5, _, _), (301, _, _), (302, _, _), (303, k.1.2.1, .own 22 1 k.1.2.2.1.length (k.1.2.2.1.map pInts)), (304, h24, .omap (skv (numE keyB 0 k.1.2.2.1))), (38, h38, .own 3 1 a.syms.toNat (vec a.syms.toNat fun j => pInt (rowAt k.1.2.2.2 j)))]⟩) (fun k => a.syms.toNat - k.1.1) ⟨(0, r3, o, []), rfl, Nat.zero_le _, hr3⟩ (fun a w H => H.weaken ⟨rfl, rfl, rfl, rfl, rfl, rfl, rfl, rfl, rfl, rfl, rfl, trivial⟩ ⟨rfl, rfl, rfl, rfl, rfl, rfl, rfl, rfl, trivial⟩) ?_
    rintro ⟨⟨s, r3', o', r⟩, hW, hs, hr3'⟩
    dsimp only
    dsimp only at hW hs hr3'
    obtain ⟨hMt, hpr, hrl, _⟩ := hOk.toMet.row (fun s _ => set_next h s x) (show s ≤ (subW a).m from hs) hW
    have hcap' : o'.length ≤ 2000 := hMt.cap
    have hx' := preG_get hpr hx
    have hil := lt_of_get hx'
    refine nav ?_
    (refine aC_region ?_ <;> refine xL 42 q_lss ?_ <;> refine aL_end (nav ?_) <;> try dsimp only)
    (first | refine cCd ?_ ?_ | refine cC ?_ ?_) <;> intro hb42
    · first
      | exact Bool.noConfusion hb42
      | (
       have hset := set_next h (s : Nat) x
       obtain ⟨set, hse⟩ : ∃ set, set = nextL a (s : Nat) x := ⟨_, rfl⟩
       rw [← hse] at hset
       have hsl := hset.len h
       have hkid := key_id (fun l hl => (hMt.p l hl).nn) hset.nn
       have e1 := map_at (f := pInts) hx'
       have e2 := vec_len a.syms.toNat (fun j => pInt (rowAt r j))
       refine nav ?_
       (refine aC_region ?_ <;> refine xL 43 q_move ?_ <;> refine xL 10 q_assign ?_ <;> refine aL_end (nav ?_) <;> try dsimp only)
       (refine aC_region ?_ <;> refine xL 44 q_move ?_ <;> refine xL 45 q_move ?_ <;> refine xL 46 q_move ?_ <;> refine xL 47 (q_idxoN 303 tSl36_LdS) ?_ <;> (refine yL 48 (q_ldo 303 tNa22_LdI) fun v48 hv48 => ?_; cases hv48) <;> refine xL 49 q_move ?_ <;> (refine cO 50 (cA Tryd.call27 (aNext_e a x s hn1 h.ml h.mi hxs.1 hxl)) fun v50 ho50 => ?_; refine aL_ent (En.freeze (l := 50) (t := 50) rfl rfl) fun _ => ?_; rw [share_ints _ _ _ rfl, ← hse]) <;> refine xL 11 q_assign ?_ <;> refine aL_end (nav ?_) <;> try dsimp only)
       (refine aC_region ?_ <;> refine xL 52 q_move ?_ <;> refine xL 53 q_move ?_ <;> (refine cS 54 (cA Tryd.call49 (aKey_e set (by omega) (hset.bd h))) fun v54 hv54 => ?_; cases hv54) <;> refine xL 55 (q_num2 (f := keyB) (L := o') (a := set) 304 tMp87_LfB rfl rfl) ?_ <;> refine xL 51 q_move ?_ <;> refine xL 56 q_extract ?_ <;> refine xL 57 q_extract ?_ <;> refine xL 12 q_assign ?_ <;> refine xL 13 q_assign ?_ <;> refine aL_end (nav ?_) <;> try dsimp only)
       (refine aC_region ?_ <;> refine xL 58 q_move ?_ <;> refine xL 59 q_not ?_ <;> refine aL_end (nav ?_) <;> try dsimp only)
       (first | refine cCd ?_ ?_ | refine cC ?_ ?_) <;> intro hb59
       · first
         | exact Bool.noConfusion hb59
         | (
          have hnew : ¬ posK keyB o' (keyB set) < o'.length := by simpa using hb59
          have hnew2 : ¬ posK (subW a).key o' ((subW a).key ((subW a).step i x s)) < o'.length := by
           show ¬ posK id o' (nextL a (s : Nat) x) < o'.length
           rw [← hse, ← hkid]; exact hnew
          refine nav ?_
          (refine aC_region ?_ <;> refine xL 60 q_move ?_ <;> refine xL 61 (q_leno 303 tSl36_LdS) ?_ <;> refine xL 12 q_assign ?_ <;> refine aL_end (nav ?_) <;> try dsimp only)
          (refine aC_region ?_ <;> refine xL 62 q_move ?_ <;> refine xL 63 q_geq ?_ <;> refine aL_end (nav ?_) <;> try dsimp only)
          (first | refine cCd ?_ ?_ | refine cC ?_ ?_) <;> intro hb63
          · first
            | exact Bool.noConfusion hb63
            | (
             refine nav ?_
             (refine aC_region ?_ <;> (refine yL 64 (q_ldao (k := 3) (ps := [pInt a.syms, PV.val r1, PV.val r2]) 5 (by kernel_rfl)) fun v64 hv64 => ?_; cases hv64) <;> refine s_sta 2 tAgg63_LfB ?_ <;> refine xL 3 q_assign ?_ <;> refine aL_end (nav ?_) <;> try dsimp only)
             refine ret_cs (k := 3) 2 (by kernel_rfl) (Tryd.results34) rfl rfl rfl (Nat.le_of_ble_eq_true rfl) (by decide) rfl (.inr ⟨?_, _, _, _, rfl, hr1, hr2, rfl⟩)
             have hv := visit_no hnew2 (show (subW a).cap ≤ o'.length by show 2000 ≤ o'.length; omega)
             have h1 := Srch.row_fails (Srch.row_out hW hv) (show s + 1 ≤ (subW a).m by show s + 1 ≤ a.syms.toNat; omega)
             have h2 := Srch.all_none (Srch.upto_out hU hx h1) (show i + 1 ≤ (subW a).cap by show i + 1 ≤ 2000; omega)
             unfold subT
             rw [← hx0, h2]; rfl)
          · first
            | exact Bool.noConfusion hb63
            | (
             refine nav ?_
             (refine aC_region ?_ <;> refine xL 65 q_move ?_ <;> refine xL 66 q_move ?_ <;> (refine cS 67 (cA Tryd.call49 (aKey_e set (by omega) (hset.bd h))) fun v67 hv67 => ?_; cases hv67) <;> refine xL 68 q_move ?_ <;> (refine s_mput 304 tMp87_LfB ?_; rw [num_putN hnew]) <;> refine aL_end (nav ?_) <;> try dsimp only)
             (refine aC_region ?_ <;> refine xL 69 q_move ?_ <;> refine xL 70 q_move ?_ <;> refine s_lit1 (kk := 1) 71 tEl36_LdS fun h71 ho71 => ?_ <;> (refine s_app 303 71 72 tEl36_LdS fun h72 ho72 => ?_; refine aL_ent (relabel (l := 72) 303 rfl rfl) fun _ => ?_; refine aL_ent (recast (l := 303) rfl (snoc_w _ o' set)) fun _ => ?_) <;> refine xL 6 q_assign ?_ <;> refine aL_end (nav ?_) <;> try dsimp only)
             (refine aC_region ?_ <;> refine xL 73 q_move ?_ <;> refine xL 74 q_move ?_ <;> refine xL 75 q_move ?_ <;> refine xL 76 (q_idxoN 38 tSl22_LbB) ?_ <;> refine s_st 38 tNa3_LbB tSz3_LdJ ?_ <;> refine aL_end (nav ?_) <;> try dsimp only)
             (refine aC_region ?_ <;> refine xL 77 q_add ?_ <;> refine xL 41 q_move ?_ <;> refine aL_end (nav ?_) <;> try dsimp only)
             rw [show s * 1 = r.length * 1 by omega, rowAt_set _ (by omega)]
             first
              | (exact aN_again (
                  ⟨(s + 1, h72, o' ++ [set], r ++ [o'.length]), (by dsimp only; rw [hse]; exact Srch.row_snoc hW (visit_new hnew2 (show o'.length < 2000 by omega))), (by dsimp only; omega), ho72⟩
                  ) (by dsimp only; omega) ⟨rfl, rfl, rfl, rfl, rfl, rfl, rfl, rfl, rfl, rfl, rfl, trivial⟩ ⟨rfl, rfl, rfl, rfl, rfl, rfl, rfl, rfl, trivial⟩)
              | (exact aN_again (
                  ⟨(s + 1, r3', o', r ++ [numAt keyB o' set]), (by dsimp only; rw [hnum]; exact Srch.row_snoc hW (visit_old hold2)), (by dsimp only; omega), hr3'⟩
                  ) (by dsimp only; omega) ⟨rfl, rfl, rfl, rfl, rfl, rfl, rfl, rfl, rfl, rfl, rfl, trivial⟩ ⟨rfl, rfl, rfl, rfl, rfl, rfl, rfl, rfl, trivial⟩)))
       · first
         | exact Bool.noConfusion hb59
         | (
          have hold : posK keyB o' (keyB set) < o'.length := by simpa using hb59
          have hold2 : posK (subW a).key o' ((subW a).key ((subW a).step i x s)) < o'.length := by
           show posK id o' (nextL a (s : Nat) x) < o'.length
           rw [← hse, ← hkid]; exact hold
          have hnum : numAt keyB o' set = posK (subW a).key o' ((subW a).key ((subW a).step i x s)) := by
           show numAt keyB o' set = posK id o' (nextL a (s : Nat) x)
           unfold numAt
           rw [if_pos hold, hkid, hse]
          refine nav ?_
          (refine aC_region ?_ <;> refine xL 73 q_move ?_ <;> refine xL 74 q_move ?_ <;> refine xL 75 q_move ?_ <;> refine xL 76 (q_idxoN 38 tSl22_LbB) ?_ <;> refine s_st 38 tNa3_LbB tSz3_LdJ ?_ <;> refine aL_end (nav ?_) <;> try dsimp only)
          (refine aC_region ?_ <;> refine xL 77 q_add ?_ <;> refine xL 41 q_move ?_ <;> refine aL_end (nav ?_) <;> try dsimp only)
          rw [show s * 1 = r.length * 1 by omega, rowAt_set _ (by omega)]
          first
           | (exact aN_again (
               ⟨(s + 1, h72, o' ++ [set], r ++ [o'.length]), (by dsimp only; rw [hse]; exact Srch.row_snoc hW (visit_new hnew2 (show o'.length < 2000 by omega))), (by dsimp only; omega), ho72⟩
               ) (by dsimp only; omega) ⟨rfl, rfl, rfl, rfl, rfl, rfl, rfl, rfl, rfl, rfl, rfl, trivial⟩ ⟨rfl, rfl, rfl, rfl, rfl, rfl, rfl, rfl, trivial⟩)
           | (exact aN_again (
               ⟨(s + 1, r3', o', r ++ [numAt keyB o' set]), (by dsimp only; rw [hnum]; exact Srch.row_snoc hW (visit_old hold2)), (by dsimp only; omega), hr3'⟩
               ) (by dsimp only; omega) ⟨rfl, rfl, rfl, rfl, rfl, rfl, rfl, rfl, rfl, rfl, rfl, trivial⟩ ⟨rfl, rfl, rfl, rfl, rfl, rfl, rfl, rfl, trivial⟩)))
    · first
      | exact Bool.noConfusion hb42
      | (
       have hsm : s = a.syms.toNat := by omega
       subst hsm
       have hU2 := Srch.upto_snoc hU hx hW
       have e1 := map_at (f := pInts) hx'
       have htk : o'.take (i + 1) = (o.take i) ++ [x] := by
        rw [take_snoc hx']
        obtain ⟨e, rfl⟩ := hpr
        rw [List.take_append_of_le_length hi]
       refine nav ?_
       refine aC_ent (En.freeze (l := 38) (t := 9) rfl rfl) fun _ => ?_
       rw [share_row _ _ _ hrl]
       (refine aC_draw (fun i => ([16, 17, 18] : List Nat).elem i) [5, 303] (by kernel_rfl) ?_ <;> refine xDT 0 78 rfl (q_fldo 5 tFl63_1_LfB) ?_ <;> (refine yDT 1 79 rfl (q_ldo 5 tNa36_LfB) fun v79 hv79 => ?_; cases hv79) <;> refine xDT 2 80 rfl q_move ?_ <;> refine xDT 5 83 rfl (q_fldo 5 tFl63_2_LfB) ?_ <;> (refine yDT 6 84 rfl (q_ldo 5 tNa61_LdJ) fun v84 hv84 => ?_; cases hv84) <;> refine xDT 7 85 rfl q_move ?_ <;> refine xDT 8 86 rfl q_move ?_ <;> refine xDT 9 87 rfl q_move ?_ <;> refine xDT 10 88 rfl (q_idxoN 303 tSl36_LdS) ?_ <;> (refine yDT 11 89 rfl (q_ldo 303 tNa22_LdI) fun v89 hv89 => ?_; cases hv89) <;> (refine aD_one 3 (by kernel_rfl) ?_) <;> (refine aW_run rfl fun w9 M9 N9 DQ back => ?_) <;> refine s_lit1 (kk := 1) 81 tEl36_LdS fun h81 ho81 => ?_ <;> refine aL_end (back _ (nrm ?_)) <;> (refine aD_one 4 (by kernel_rfl) ?_) <;> (refine aW_run rfl fun w9 M9 N9 DQ back => ?_) <;> refine s_app 301 81 82 tEl36_LdS fun h82 ho82 => ?_ <;> refine aL_end (back _ (nrm ?_)) <;> refine xDT 15 93 rfl (q_fldo 5 tFl63_1_LfB) ?_ <;> (refine aD_one 12 (by kernel_rfl) ?_) <;> (refine aW_call (d := 90) rfl (cA Tryd.call26 (aAccepts_e a x hxs.1)) fun v90 hv90 => ?_; cases hv90) <;> (refine aD_one 13 (by kernel_rfl) ?_) <;> (refine aW_run rfl fun w9 M9 N9 DQ back => ?_) <;> refine s_lit1 (kk := 1) 91 tEl61_LdR fun h91 ho91 => ?_ <;> refine aL_end (back _ (nrm ?_)) <;> (refine aD_one 14 (by kernel_rfl) ?_) <;> (refine aW_run rfl fun w9 M9 N9 DQ back => ?_) <;> refine s_app 302 91 92 tEl61_LdR fun h92 ho92 => ?_ <;> refine aL_end (back _ (nrm ?_)) <;> (refine aD_one 16 (by kernel_rfl) ?_) <;> (refine aW_thenZ rfl rfl fun DQ back => ?_) <;> refine s_st 5 tNa36_LfB tSz36_LfB ?_ <;> refine aL_end (back _ ?_) <;> (refine aDZ_one 17 (by kernel_rfl) rfl rfl fun DQ back => ?_) <;> refine xL 94 (q_fldo 5 tFl63_2_LfB) ?_ <;> refine aL_end (back _ ?_) <;> (refine aDZ_one 18 (by kernel_rfl) rfl rfl fun DQ back => ?_) <;> refine s_st 5 tNa61_LdJ tSz61_LfB ?_ <;> refine aL_end (back _ ?_) <;> refine aDZ_end (by kernel_rfl) (nav ?_) <;> try dsimp only)
       refine aC_ent (relabel (l := 82) 301 rfl rfl) fun _ => ?_
       refine aC_ent (relabel (l := 92) 302 rfl rfl) fun _ => ?_
       refine aC_ent (recast (l := 301) rfl (snoc_nats _ rows r)) fun _ => ?_
       refine aC_ent (recast (l := 302) rfl (snoc_bools _ ((o.take i).map (accB a)) (accB a x))) fun _ => ?_
       rw [show ((o.take i).map (accB a)) ++ [accB a x] = (o'.take (i + 1)).map (accB a) by rw [htk, List.map_append]; rfl]
       (refine aC_region ?_ <;> refine xL 34 q_move ?_ <;> refine xL 35 q_add ?_ <;> refine xL 8 q_assign ?_ <;> refine aL_end (nav ?_) <;> try dsimp only)
       refine aN_again (
        ⟨(i + 1, h82, h92, r3', o', rows ++ [r]), hU2, (by dsimp only; omega), ho82, ho92, hr3'⟩
        ) (by dsimp only; omega) ⟨rfl, rfl, rfl, rfl, rfl, rfl, rfl, rfl, trivial⟩ ⟨rfl, rfl, rfl, rfl, rfl, rfl, rfl, trivial⟩))
 · first
   | exact Bool.noConfusion hb33
   | (
    have hio : i = o.length := by omega
    subst hio
    refine nav ?_
    refine aC_ent (freezeCell (l := 5) (l' := 301) (j := 1) rfl rfl rfl rfl) fun _ => ?_
    refine aC_ent (freezeCell (l := 5) (l' := 302) (j := 2) rfl rfl rfl rfl) fun _ => ?_
    rw [share_natss _ _ _ rfl, share_boolss _ _ _ rfl]
    (refine aC_region ?_ <;> (refine yL 95 (q_ldao 5 tAgg63_LfB) fun v95 hv95 => ?_; cases hv95) <;> refine s_sta 2 tAgg63_LfB ?_ <;> refine xL 3 q_assign ?_ <;> refine aL_end (nav ?_) <;> try dsimp only)
    refine ret_cs (k := 3) 2 (by kernel_rfl) (Tryd.results34) rfl rfl rfl (Nat.le_of_ble_eq_true rfl) (by decide) rfl (.inl ⟨⟨a.syms.toNat, rows, o.map (accB a)⟩, ?_, ?_⟩)
    · unfold subT
      rw [← hx0, Srch.all_some hU (Nat.le_refl _) (show o.length ≤ (subW a).cap from hcap)]; rfl
    · unfold pTab
      dsimp only
      rw [List.take_length, hsN]; rfl)
def keyN (l : List Nat) : ByteArray := keyB (toI l)
theorem toI_nn (l : List Nat) : ∀ x ∈ toI l, 0 ≤ x := fun x hx => by
 unfold toI at hx
 obtain ⟨y, _, rfl⟩ := List.mem_map.1 hx
 omega
theorem keyN_id (o : List (List Nat)) (x : List Nat) : posK keyN o (keyN x) = posK id o x := posK_inj fun l _ => by
 unfold keyN
 rw [keyB_inj (toI_nn l) (toI_nn x), toI_inj]; rfl
theorem skv_numE_len {α : Type} (f : α → ByteArray) (o : List α) : (skv (numE f 0 o)).length = o.length := by unfold skv; rw [List.length_map, numE_len]
theorem num_putL {α : Type} {f : α → ByteArray} {o : List α} {x : α} (h : ¬ posK f o (f x) < o.length) : mput (skv (numE f 0 o)) (.string (f x)) (.int .i64 ((skv (numE f 0 o)).length : Nat)) = skv (numE f 0 (o ++ [x])) := by
 rw [skv_numE_len, num_putN h]
def upTo (s : Nat) (f : Nat → Nat) (j : Nat) : Int := if j < s then (f j : Nat) else 0
theorem upTo_zero (n : Nat) (f : Nat → Nat) : List.replicate n (PV.val (.int .i64 0)) = vec n fun j => pInt (upTo 0 f j) := by
 rw [vec_const]
 refine vec_congr fun i _ => ?_
 unfold upTo; rw [if_neg (by omega)]
theorem upTo_set {n s : Nat} {f : Nat → Nat} {x : Int} (hx : x = (f s : Nat)) : (vec n fun j => pInt (upTo s f j)).set (s * 1) (pInt x) = vec n fun j => pInt (upTo (s + 1) f j) := by
 rw [Nat.mul_one, vec_set]
 refine vec_congr fun i hi => ?_
 unfold upTo
 by_cases e : i = s
 · subst e; rw [if_pos rfl, if_pos (by omega), hx]
 · rw [if_neg e]
   by_cases e2 : i < s
   · rw [if_pos e2, if_pos (by omega)]
   · rw [if_neg e2, if_neg (by omega)]
theorem upTo_skip {n s : Nat} {f : Nat → Nat} (hx : f s = 0) : (vec n fun j => pInt (upTo s f j)) = vec n fun j => pInt (upTo (s + 1) f j) := by
 refine vec_congr fun i hi => ?_
 unfold upTo
 by_cases e : i = s
 · subst e; rw [if_neg (by omega), if_pos (by omega), hx]; rfl
 · by_cases e2 : i < s
   · rw [if_pos e2, if_pos (by omega)]
   · rw [if_neg e2, if_neg (by omega)]
theorem upTo_full (n : Nat) (f : Nat → Nat) : (vec n fun j => pInt (upTo n f j)) = vec n fun j => pInt (f j : Nat) := by
 refine vec_congr fun i hi => ?_
 unfold upTo; rw [if_pos hi]
theorem toI_len (l : List Nat) : (toI l).length = l.length := by simp [toI]
theorem toI_snoc (l : List Nat) (x : Nat) : toI (l ++ [x]) = toI l ++ [(x : Int)] := by simp [toI]
theorem own_nats (e : Nat) (L : List Nat) (x : Nat) : PV.own e 1 (L.length + 1) ((toI L).map pInt ++ [pInt (x : Nat)]) = .own e 1 (L ++ [x]).length ((toI (L ++ [x])).map pInt) := by simp [toI_snoc]
def keyP (c : Nat → Nat) (s : Nat) (r : List Nat) (u : Nat) : List Nat := c s :: (r.take u).map c
theorem keyP_snoc {c : Nat → Nat} {s : Nat} {r : List Nat} {u x : Nat} (h : r[u]? = some x) : keyP c s r u ++ [c x] = keyP c s r (u + 1) := by
 unfold keyP; rw [take_snoc h, List.map_append]; rfl
theorem keyP_full {rows : List (List Nat)} {c : Nat → Nat} {s : Nat} {r : List Nat} {u : Nat} (h : rows[s]? = some r) (hu : r.length ≤ u) : keyP c s r u = keyC rows c s := by
 unfold keyP keyC; rw [h, List.take_of_length_le hu]; rfl
theorem keyP_len (c : Nat → Nat) (s : Nat) (r : List Nat) (u : Nat) (h : u ≤ r.length) : (keyP c s r u).length = u + 1 := by unfold keyP; rw [List.length_cons, List.length_map, List.length_take]; omega
theorem keyC_bd {t : Tab} (ht : TOk t) {c : Nat → Nat} (hc : ∀ s, s < t.rows.length → c s ≤ t.rows.length) {s : Nat} (hs : s < t.rows.length) : ∀ x ∈ toI (keyC t.rows c s), 0 ≤ x ∧ x ≤ 2000 := fun x hx => by
 unfold toI at hx
 obtain ⟨y, hy, rfl⟩ := List.mem_map.1 hx
 have hn := ht.n1
 have key : ∀ z, z < t.rows.length → c z ≤ 2000 := fun z hz => by have := hc z hz; omega
 unfold keyC at hy
 rcases List.mem_cons.1 hy with rfl | hy
 · have := key s hs; omega
 · obtain ⟨z, hz, rfl⟩ := List.mem_map.1 hy
   obtain ⟨r, hr⟩ := get_some hs
   rw [hr] at hz
   have := key z (ht.to r (List.mem_of_getElem? hr) z hz)
   omega
theorem nextC_at {rows : List (List Nat)} {c : Nat → Nat} {s : Nat} (hs : s < rows.length) : nextC rows c s = posK id (fstK (keyC rows c) (s + 1)) (keyC rows c s) := (fstK_pos (k := keyC rows c) hs).1
theorem nextC_old {rows : List (List Nat)} {c : Nat → Nat} {s : Nat} (hs : s < rows.length) (h : posK id (fstK (keyC rows c) s) (keyC rows c s) < (fstK (keyC rows c) s).length) : nextC rows c s = posK id (fstK (keyC rows c) s) (keyC rows c s) := by rw [nextC_at hs, fstK_old h]
theorem nextC_new {rows : List (List Nat)} {c : Nat → Nat} {s : Nat} (hs : s < rows.length) (h : ¬ posK id (fstK (keyC rows c) s) (keyC rows c s) < (fstK (keyC rows c) s).length) : nextC rows c s = (fstK (keyC rows c) s).length := by
 rw [nextC_at hs, fstK_new h]; exact posK_new h
theorem clsIt_stop {rows : List (List Nat)} {f : Nat} {c : Nat → Nat} {k : Nat} (h : cntC rows c = k) : clsIt rows (f + 1) c k = nextC rows c := by rw [clsIt, if_pos h]
theorem clsIt_more {rows : List (List Nat)} {f : Nat} {c : Nat → Nat} {k : Nat} (h : ¬ cntC rows c = k) : clsIt rows (f + 1) c k = clsIt rows f (nextC rows c) (cntC rows c) := by rw [clsIt, if_neg h]
set_option maxHeartbeats 4000000 in
theorem aClasses_e (t : Tab) (ht : TOk t) : AF Tryd.prog 50 [pTab t] (· = .own 3 1 t.rows.length (vec t.rows.length fun s => pInt (clsT t s : Nat))) := by
 have hn1 := ht.n1
 have hfl := ht.fl
 have hm1 := ht.m1
 refine AF.of_body 92 Tryd.func50 rfl Tryd.ntmps50 (Nat.le_of_ble_eq_true rfl) ?_
 intro w0 M0 vs hl hv
 obtain ⟨v0, rfl⟩ := len1 hl
 clear hl hv
 refine nav ?_
 (refine aC_region ?_ <;> refine s_boxa 1 3 fun h1 => ?_ <;> refine xL 2 q_assign ?_ <;> refine aL_end (nav ?_) <;> try dsimp only)
 (refine aC_region ?_ <;> refine xL 16 (q_fldo 1 tFl63_1_LfB) ?_ <;> (refine yL 17 (q_ldo 1 tNa36_LfB) fun v17 hv17 => ?_; cases hv17) <;> refine xL 18 (q_len tSl36_LdS) ?_ <;> refine s_make 19 tEl22_LdI fun h19 ho19 => ?_ <;> refine xL 3 q_assign ?_ <;> refine aL_end (nav ?_) <;> try dsimp only)
 refine aC_ent (relabel (l := 19) 303 rfl rfl) fun _ => ?_
 rw [upTo_zero _ (finC t.fin)]
 (refine aC_region ?_ <;> refine xL 20 (q_fldo 1 tFl63_2_LfB) ?_ <;> (refine yL 21 (q_ldo 1 tNa61_LdJ) fun v21 hv21 => ?_; cases hv21) <;> refine xL 22 (q_len tSl61_LdJ) ?_ <;> refine xL 23 q_move ?_ <;> refine aL_end (nav ?_) <;> try dsimp only)
 refine aC_loop (ι := { s : Nat // s ≤ t.fin.length }) (fun k => ⟨[(1, _, _), (3, _, _), (21, _, _), (22, _, _), (23, .int .i64 k.1, pInt k.1)], [(1, _, _), (303, h19, .own 3 1 t.rows.length (vec t.rows.length fun j => pInt (upTo k.1 (finC t.fin) j)))]⟩) (fun k => t.fin.length - k.1) ⟨0, Nat.zero_le _⟩ (fun a w H => H.weaken ⟨rfl, rfl, rfl, rfl, rfl, trivial⟩ ⟨rfl, rfl, trivial⟩) ?_
 rintro ⟨s, hs⟩
 dsimp only
 refine nav ?_
 (refine aC_region ?_ <;> refine xL 24 q_lss ?_ <;> refine aL_end (nav ?_) <;> try dsimp only)
 (first | refine cCd ?_ ?_ | refine cC ?_ ?_) <;> intro hb24
 · first
   | exact Bool.noConfusion hb24
   | (
    obtain ⟨b, hb⟩ := get_some (show s < t.fin.length by omega)
    have e1 := map_at (f := pBool) hb
    have e2 := vec_len t.rows.length (fun j => pInt (upTo s (finC t.fin) j))
    refine nav ?_
    (refine aC_region ?_ <;> refine xL 25 q_move ?_ <;> refine xL 26 (q_idxN tSl61_LdJ) ?_ <;> (refine yL 27 (q_ld tNa4_LdJ) fun v27 hv27 => ?_; cases hv27) <;> refine xL 4 q_assign ?_ <;> refine xL 5 q_assign ?_ <;> refine aL_end (nav ?_) <;> try dsimp only)
    (refine aC_region ?_ <;> refine xL 28 q_move ?_ <;> refine aL_end (nav ?_) <;> try dsimp only)
    (first | refine cCd ?_ ?_ | refine cC ?_ ?_) <;> intro hb28
    · first
      | exact Bool.noConfusion hb28
      | (
       refine nav ?_
       (refine aC_region ?_ <;> refine xL 29 q_move ?_ <;> refine xL 30 q_move ?_ <;> refine xL 31 (q_idxoN 303 tSl22_LbB) ?_ <;> refine s_st 303 tNa3_LbB tSz3_LdJ ?_ <;> refine aL_end (nav ?_) <;> try dsimp only)
       (refine aC_region ?_ <;> refine xL 32 q_add ?_ <;> refine xL 23 q_move ?_ <;> refine aL_end (nav ?_) <;> try dsimp only)
       try rw [upTo_set (x := 1) (by unfold finC; rw [hb]; show (1 : Int) = ((if b = true then 1 else 0 : Nat) : Int); rw [if_pos hb28]; rfl)]
       try rw [upTo_skip (by unfold finC; rw [hb]; show (if b = true then 1 else 0) = 0; rw [if_neg (by simpa using hb28)])]
       refine aN_again (
        ⟨s + 1, by omega⟩
        ) (by dsimp only; omega) ⟨rfl, rfl, rfl, rfl, rfl, trivial⟩ ⟨rfl, rfl, trivial⟩)
    · first
      | exact Bool.noConfusion hb28
      | (
       refine nav ?_
       (refine aC_region ?_ <;> refine xL 32 q_add ?_ <;> refine xL 23 q_move ?_ <;> refine aL_end (nav ?_) <;> try dsimp only)
       try rw [upTo_set (x := 1) (by unfold finC; rw [hb]; show (1 : Int) = ((if b = true then 1 else 0 : Nat) : Int); rw [if_pos hb28]; rfl)]
       try rw [upTo_skip (by unfold finC; rw [hb]; show (if b = true then 1 else 0) = 0; rw [if_neg (by simpa using hb28)])]
       refine aN_again (
        ⟨s + 1, by omega⟩
        ) (by dsimp only; omega) ⟨rfl, rfl, rfl, rfl, rfl, trivial⟩ ⟨rfl, rfl, trivial⟩))
 · first
   | exact Bool.noConfusion hb24
   | (
    have hsn : s = t.rows.length := by omega
    subst hsn
    rw [upTo_full]
    refine nav ?_
    (refine aC_region ?_ <;> refine xL 6 q_assign ?_ <;> refine aL_end (nav ?_) <;> try dsimp only)
    refine aC_loop (ι := { q : Value × (Nat → Nat) × Nat × Nat // COk t.rows.length q.2.1 q.2.2.1 ∧ clsIt t.rows q.2.2.2 q.2.1 q.2.2.1 = clsT t ∧ t.rows.length + 2 ≤ q.2.2.2 + q.2.2.1 ∧ q.1.oneCell' = true }) (fun k => ⟨[(1, _, _), (3, k.1.1, .val k.1.1), (6, .int .i64 k.1.2.2.1, pInt k.1.2.2.1)], [(1, _, _), (303, k.1.1, .own 3 1 t.rows.length (vec t.rows.length fun j => pInt (k.1.2.1 j : Nat)))]⟩) (fun k => t.rows.length + 2 - k.1.2.2.1) ⟨(h19, finC t.fin, 0, t.rows.length + 2), COk.start _ _, rfl, by dsimp only; omega, ho19⟩ (fun a w H => H.weaken ⟨rfl, rfl, rfl, trivial⟩ ⟨rfl, rfl, trivial⟩) ?_
    rintro ⟨⟨hv3, c, cnt, fuel⟩, hC, hit, hfu, hv3o⟩
    dsimp only
    dsimp only at hC hit hfu hv3o
    have hle := hC.le
    have hbd := hC.bd
    obtain ⟨f, rfl⟩ : ∃ f, fuel = f + 1 := ⟨fuel - 1, by omega⟩
    have hgr := hC.grow
    have hnx := hC.next
    refine nav ?_
    (refine aC_region ?_ <;> refine s_mkmap 33 fun h33 ho33 => ?_ <;> refine xL 7 q_assign ?_ <;> refine aL_end (nav ?_) <;> try dsimp only)
    (refine aC_region ?_ <;> refine xL 34 q_move ?_ <;> refine xL 35 (q_leno 303 tSl22_LbB) ?_ <;> refine s_make 36 tEl22_LdI fun h36 ho36 => ?_ <;> refine xL 8 q_assign ?_ <;> refine aL_end (nav ?_) <;> try dsimp only)
    refine aC_ent (relabel (l := 33) 304 rfl rfl) fun _ => ?_
    refine aC_ent (relabel (l := 36) 305 rfl rfl) fun _ => ?_
    rw [upTo_zero _ (nextC t.rows c)]
    refine aC_ent (recast (l := 304) (p' := .omap (skv (numE keyN 0 (fstK (keyC t.rows c) 0)))) rfl rfl) fun _ => ?_
    (refine aC_region ?_ <;> refine xL 37 (q_fldo 1 tFl63_1_LfB) ?_ <;> (refine yL 38 (q_ldo 1 tNa36_LfB) fun v38 hv38 => ?_; cases hv38) <;> refine xL 39 (q_len tSl36_LdS) ?_ <;> refine xL 40 q_move ?_ <;> refine aL_end (nav ?_) <;> try dsimp only)
    refine aC_loop (ι := { s : Nat // s ≤ t.rows.length }) (fun k => ⟨[(1, _, _), (3, _, _), (6, _, _), (7, _, _), (8, _, _), (38, _, _), (39, _, _), (40, .int .i64 k.1, pInt k.1)], [(1, _, _), (303, _, _), (304, h33, .omap (skv (numE keyN 0 (fstK (keyC t.rows c) k.1)))), (305, h36, .own 3 1 t.rows.length (vec t.rows.length fun j => pInt (upTo k.1 (nextC t.rows c) j)))]⟩) (fun k => t.rows.length - k.1) ⟨0, Nat.zero_le _⟩ (fun a w H => H.weaken ⟨rfl, rfl, rfl, rfl, rfl, rfl, rfl, rfl, trivial⟩ ⟨rfl, rfl, rfl, rfl, trivial⟩) ?_
    rintro ⟨s, hs⟩
    dsimp only
    refine nav ?_
    (refine aC_region ?_ <;> refine xL 41 q_lss ?_ <;> refine aL_end (nav ?_) <;> try dsimp only)
    (first | refine cCd ?_ ?_ | refine cC ?_ ?_) <;> intro hb41
    · first
      | exact Bool.noConfusion hb41
      | (
       have hlt : s < t.rows.length := by omega
       obtain ⟨r, hr⟩ := get_some hlt
       have e1 := map_at (f := pNats) hr
       have hrl := ht.rl r (List.mem_of_getElem? hr)
       have hrt := ht.to r (List.mem_of_getElem? hr)
       have htl := toI_len r
       have e2 := vec_at1 (fun j => pInt (c j : Nat)) hlt
       have e3 := vec_len t.rows.length (fun j => pInt (upTo s (nextC t.rows c) j))
       have hkl := fstK_len (keyC t.rows c) s
       refine nav ?_
       (refine aC_region ?_ <;> refine xL 42 q_move ?_ <;> refine xL 43 (q_idxN tSl36_LdS) ?_ <;> (refine yL 44 (q_ld tNa22_LdI) fun v44 hv44 => ?_; cases hv44) <;> refine xL 9 q_assign ?_ <;> refine xL 10 q_assign ?_ <;> refine aL_end (nav ?_) <;> try dsimp only)
       (refine aC_region ?_ <;> refine xL 45 q_move ?_ <;> refine xL 46 q_move ?_ <;> refine xL 47 (q_idxoN 303 tSl22_LbB) ?_ <;> (refine yL 48 (q_ldo 303 tNa3_LbB) fun v48 hv48 => ?_; cases hv48) <;> refine s_lit1 (kk := 1) 49 tEl22_LdI fun h49 ho49 => ?_ <;> refine xL 11 q_assign ?_ <;> refine aL_end (nav ?_) <;> try dsimp only)
       refine aC_ent (relabel (l := 49) 306 rfl rfl) fun _ => ?_
       refine aC_ent (recast (l := 306) (p' := .own 3 1 (keyP c s r 0).length ((toI (keyP c s r 0)).map pInt)) rfl rfl) fun _ => ?_
       refine aC_slen 10 rfl fun hlen10 => ?_
       (refine aC_region ?_ <;> refine xL 50 q_move ?_ <;> refine xL 51 (q_len tSl22_LbB) ?_ <;> refine xL 52 q_move ?_ <;> refine aL_end (nav ?_) <;> try dsimp only)
       refine aC_loop (ι := { q : Nat × Value // q.1 ≤ r.length ∧ q.2.oneCell' = true }) (fun k => ⟨[(1, _, _), (3, _, _), (6, _, _), (7, _, _), (8, _, _), (9, _, _), (38, _, _), (39, _, _), (40, _, _), (50, _, _), (51, _, _), (11, k.1.2, .val k.1.2), (52, .int .i64 k.1.1, pInt k.1.1)], [(1, _, _), (303, _, _), (304, _, _), (305, _, _), (306, k.1.2, .own 3 1 (keyP c s r k.1.1).length ((toI (keyP c s r k.1.1)).map pInt))]⟩) (fun k => r.length - k.1.1) ⟨(0, h49), Nat.zero_le _, ho49⟩ (fun a w H => H.weaken ⟨rfl, rfl, rfl, rfl, rfl, rfl, rfl, rfl, rfl, rfl, rfl, rfl, rfl, trivial⟩ ⟨rfl, rfl, rfl, rfl, rfl, trivial⟩) ?_
       rintro ⟨⟨u, hv⟩, hu, hvo⟩
       dsimp only
       dsimp only at hu hvo
       have hkpl := keyP_len c s r u hu
       refine nav ?_
       (refine aC_region ?_ <;> refine xL 53 q_lss ?_ <;> refine aL_end (nav ?_) <;> try dsimp only)
       (first | refine cCd ?_ ?_ | refine cC ?_ ?_) <;> intro hb53
       · first
         | exact Bool.noConfusion hb53
         | (
          obtain ⟨x, hx⟩ := get_some (show u < r.length by omega)
          have hxn := hrt x (List.mem_of_getElem? hx)
          have e4 : ((toI r).map pInt)[u * 1]? = some (pInt (x : Nat)) := by rw [Nat.mul_one, List.getElem?_map]; unfold toI; rw [List.getElem?_map, hx]; rfl
          have e5 := vec_at1 (fun j => pInt (c j : Nat)) hxn
          refine nav ?_
          (refine aC_region ?_ <;> refine xL 54 (q_idxN tSl22_LbB) ?_ <;> (refine yL 55 (q_ld tNa3_LbB) fun v55 hv55 => ?_; cases hv55) <;> refine xL 13 q_assign ?_ <;> refine aL_end (nav ?_) <;> try dsimp only)
          (refine aC_region ?_ <;> refine xL 56 q_move ?_ <;> refine xL 57 q_move ?_ <;> refine xL 58 q_move ?_ <;> refine xL 59 (q_idxoN 303 tSl22_LbB) ?_ <;> (refine yL 60 (q_ldo 303 tNa3_LbB) fun v60 hv60 => ?_; cases hv60) <;> refine s_lit1 (kk := 1) 61 tEl22_LdI fun h61 ho61 => ?_ <;> (refine s_app 306 61 62 tEl22_LdI fun h62 ho62 => ?_; refine aL_ent (relabel (l := 62) 306 rfl rfl) fun _ => ?_; refine aL_ent (recast (l := 306) rfl ((own_nats _ (keyP c s r u) (c x)).trans (by rw [keyP_snoc hx]))) fun _ => ?_) <;> refine xL 11 q_assign ?_ <;> refine aL_end (nav ?_) <;> try dsimp only)
          (refine aC_region ?_ <;> refine xL 63 q_add ?_ <;> refine xL 52 q_move ?_ <;> refine aL_end (nav ?_) <;> try dsimp only)
          refine aN_again (
           ⟨(u + 1, h62), lt_of_get hx, ho62⟩
           ) (by dsimp only; omega) ⟨rfl, rfl, rfl, rfl, rfl, rfl, rfl, rfl, rfl, rfl, rfl, rfl, rfl, trivial⟩ ⟨rfl, rfl, rfl, rfl, rfl, trivial⟩)
       · first
         | exact Bool.noConfusion hb53
         | (
          have hK := keyP_full (c := c) hr (show r.length ≤ u by omega)
          rw [hK]
          have hkb := keyC_bd ht hbd hlt
          have hkl2 : (keyC t.rows c s).length ≤ 1000 := by rw [← hK, hkpl]; omega
          have hid := keyN_id (fstK (keyC t.rows c) s) (keyC t.rows c s)
          refine nav ?_
          refine aC_ent (En.freeze (l := 306) (t := 11) rfl rfl) fun _ => ?_
          rw [share_ints _ _ _ (by rw [toI_len])]
          (refine aC_region ?_ <;> refine xL 65 q_move ?_ <;> refine xL 66 q_move ?_ <;> (refine cS 67 (cA Tryd.call49 (aKey_e (toI (keyC t.rows c s)) (by rw [toI_len]; omega) (fun x hx => by have := hkb x hx; omega))) fun v67 hv67 => ?_; cases hv67) <;> refine xL 68 (q_num2 (f := keyN) (L := fstK (keyC t.rows c) s) (a := keyC t.rows c s) 304 tMp87_LfB rfl rfl) ?_ <;> refine xL 64 q_move ?_ <;> refine xL 69 q_extract ?_ <;> refine xL 70 q_extract ?_ <;> refine xL 14 q_assign ?_ <;> refine xL 15 q_assign ?_ <;> refine aL_end (nav ?_) <;> try dsimp only)
          (refine aC_region ?_ <;> refine xL 71 q_move ?_ <;> refine xL 72 q_not ?_ <;> refine aL_end (nav ?_) <;> try dsimp only)
          (first | refine cCd ?_ ?_ | refine cC ?_ ?_) <;> intro hb72
          · first
            | exact Bool.noConfusion hb72
            | (
             have hnew : ¬ posK keyN (fstK (keyC t.rows c) s) (keyN (keyC t.rows c s)) < (fstK (keyC t.rows c) s).length := by simpa using hb72
             have hnew2 := hnew
             rw [hid] at hnew2
             have hnn := nextC_new hlt hnew2
             have hff := fstK_new hnew2
             refine nav ?_
             (refine aC_region ?_ <;> refine xL 73 q_move ?_ <;> refine xL 74 (q_mleno 304 Tryd.underlying87) ?_ <;> refine xL 14 q_assign ?_ <;> refine aL_end (nav ?_) <;> try dsimp only)
             (refine aC_region ?_ <;> refine xL 75 q_move ?_ <;> refine xL 76 q_move ?_ <;> (refine cS 77 (cA Tryd.call49 (aKey_e (toI (keyC t.rows c s)) (by rw [toI_len]; omega) (fun x hx => by have := hkb x hx; omega))) fun v77 hv77 => ?_; cases hv77) <;> refine xL 78 q_move ?_ <;> (refine s_mput 304 tMp87_LfB ?_; rw [show mput (skv (numE keyN 0 (fstK (keyC t.rows c) s))) (.string (keyB (toI (keyC t.rows c s)))) (.int .i64 ((skv (numE keyN 0 (fstK (keyC t.rows c) s))).length : Nat)) = skv (numE keyN 0 (fstK (keyC t.rows c) (s + 1))) by rw [hff]; exact num_putL hnew]) <;> refine aL_end (nav ?_) <;> try dsimp only)
             (refine aC_region ?_ <;> refine xL 79 q_move ?_ <;> refine xL 80 q_move ?_ <;> refine xL 81 q_move ?_ <;> refine xL 82 (q_idxoN 305 tSl22_LbB) ?_ <;> refine s_st 305 tNa3_LbB tSz3_LdJ ?_ <;> refine aL_end (nav ?_) <;> try dsimp only)
             (refine aC_region ?_ <;> refine xL 83 q_add ?_ <;> refine xL 40 q_move ?_ <;> refine aL_end (nav ?_) <;> try dsimp only)
             try rw [upTo_set (by rw [skv_numE_len, hnn])]
             try rw [upTo_set hnum, ← hfo]
             refine aN_again (
              ⟨s + 1, by omega⟩
              ) (by dsimp only; omega) ⟨rfl, rfl, rfl, rfl, rfl, rfl, rfl, rfl, trivial⟩ ⟨rfl, rfl, rfl, rfl, trivial⟩)
          · first
            | exact Bool.noConfusion hb72
            | (
             have hold : posK keyN (fstK (keyC t.rows c) s) (keyN (keyC t.rows c s)) < (fstK (keyC t.rows c) s).length := by simpa using hb72
             have hold2 := hold
             rw [hid] at hold2
             have hno := nextC_old hlt hold2
             have hfo := fstK_old hold2
             have hnum : (numAt keyN (fstK (keyC t.rows c) s) (keyC t.rows c s) : Int) = (nextC t.rows c s : Nat) := by unfold numAt; rw [if_pos hold, hid, hno]
             refine nav ?_
             (refine aC_region ?_ <;> refine xL 79 q_move ?_ <;> refine xL 80 q_move ?_ <;> refine xL 81 q_move ?_ <;> refine xL 82 (q_idxoN 305 tSl22_LbB) ?_ <;> refine s_st 305 tNa3_LbB tSz3_LdJ ?_ <;> refine aL_end (nav ?_) <;> try dsimp only)
             (refine aC_region ?_ <;> refine xL 83 q_add ?_ <;> refine xL 40 q_move ?_ <;> refine aL_end (nav ?_) <;> try dsimp only)
             try rw [upTo_set (by rw [skv_numE_len, hnn])]
             try rw [upTo_set hnum, ← hfo]
             refine aN_again (
              ⟨s + 1, by omega⟩
              ) (by dsimp only; omega) ⟨rfl, rfl, rfl, rfl, rfl, rfl, rfl, rfl, trivial⟩ ⟨rfl, rfl, rfl, rfl, trivial⟩)))
    · first
      | exact Bool.noConfusion hb41
      | (
       have hsn : s = t.rows.length := by omega
       subst hsn
       rw [upTo_full]
       refine nav ?_
       refine aC_ent (relabel (l := 303) 302 rfl rfl) fun _ => ?_
       refine aC_ent (relabel (l := 305) 303 rfl rfl) fun _ => ?_
       (refine aC_region ?_ <;> refine xL 84 q_move ?_ <;> refine xL 3 q_assign ?_ <;> refine aL_end (nav ?_) <;> try dsimp only)
       (refine aC_region ?_ <;> refine xL 85 q_move ?_ <;> refine xL 86 (q_mleno 304 Tryd.underlying87) ?_ <;> refine xL 87 q_move ?_ <;> refine xL 88 q_eql ?_ <;> refine aL_end (nav ?_) <;> try dsimp only)
       (first | refine cCd ?_ ?_ | refine cC ?_ ?_) <;> intro hb88
       · first
         | exact Bool.noConfusion hb88
         | (
          have hcc : cntC t.rows c = cnt := by rw [skv_numE_len] at hb88; unfold cntC; omega
          refine nav ?_
          (refine aC_region ?_ <;> refine xL 89 q_move ?_ <;> refine xL 2 q_assign ?_ <;> refine aL_end (nav ?_) <;> try dsimp only)
          refine ret_own 303 (Tryd.results50) rfl rfl ?_
          rw [← hit, clsIt_stop hcc])
       · first
         | exact Bool.noConfusion hb88
         | (
          have hcc : ¬ cntC t.rows c = cnt := by rw [skv_numE_len] at hb88; unfold cntC; omega
          refine nav ?_
          (refine aC_region ?_ <;> refine xL 90 q_move ?_ <;> refine xL 91 (q_mleno 304 Tryd.underlying87) ?_ <;> refine xL 6 q_assign ?_ <;> refine aL_end (nav ?_) <;> try dsimp only)
          rw [skv_numE_len]
          refine aN_again (
           ⟨(h36, nextC t.rows c, cntC t.rows c, f), hnx, by dsimp only; rw [← hit, clsIt_more hcc], by dsimp only; omega, ho36⟩
           ) (by have := hnx.le; dsimp only; omega) ⟨rfl, rfl, rfl, trivial⟩ ⟨rfl, rfl, trivial⟩)))
theorem tFl63_0_LfD : FldT Tryd.prog 63 0 0 = true := by kernel_rfl
theorem tMp90_LfD : MpT Tryd.prog 90 3 3 (.int .i64) (.int .i64 0) := ⟨Tryd.underlying90, Tryd.underlying3, .inr ⟨_, rfl⟩, by show ZeroT _ _ _; unfold ZeroT; kernel_rfl⟩
theorem tSt25_LfD : stInfo Tryd.prog 25 = some ((.agg #[(.int .i64 0), (.int .i64 0), (.slice none 0 0), (.slice none 0 0), (.slice none 0 0)]), ([0, 1, 2, 3, 4] : List Nat).map fun o => (o, 1)) := by kernel_rfl
theorem tSt40_LfD : stInfo Tryd.prog 40 = some ((.agg #[(.int .i64 0), (.int .i64 0), (.int .i64 0)]), ([0, 1, 2] : List Nat).map fun o => (o, 1)) := by kernel_rfl
theorem tZr25_LfD : ZeroT Tryd.prog 25 (.agg #[(.int .i64 0), (.int .i64 0), (.slice none 0 0), (.slice none 0 0), (.slice none 0 0)]) := by unfold ZeroT; kernel_rfl
section
variable {α : Type}
def numAtI (f : α → Int) (o : List α) (x : α) : Nat := if posK f o (f x) < o.length then posK f o (f x) else 0
theorem num_lookI (f : α → Int) (o : List α) (x : α) : (mget (ikv (numE f 0 o)) (.int .i64 (f x))).getD (.int .i64 0) = .int .i64 (numAtI f o x : Nat) ∧ (mget (ikv (numE f 0 o)) (.int .i64 (f x))).isSome = decide (posK f o (f x) < o.length) := by
 rw [mget_ikv, numE_get]
 unfold numAtI
 by_cases h : posK f o (f x) < o.length
 · rw [if_pos h, if_pos h, decide_eq_true h, Nat.zero_add]; exact ⟨rfl, rfl⟩
 · rw [if_neg h, if_neg h, decide_eq_false h]; exact ⟨rfl, rfl⟩
theorem num_putI {f : α → Int} {o : List α} {x : α} (h : ¬ posK f o (f x) < o.length) : mput (ikv (numE f 0 o)) (.int .i64 (f x)) (.int .i64 (o.length : Nat)) = ikv (numE f 0 (o ++ [x])) := by
 have := numE_put f x o 0 h
 rw [Nat.zero_add] at this
 rw [mput_ikv, this]
end
section
variable {α : Type} {P : Program} {sL hP : List (Nat × Ent)} {o : Oper}
theorem q_num2I {t ks e : Nat} {kd : TypeDesc} {z : Value} {x y : Operand} {m : Value} {f : α → Int} {L : List α} {a : α} {p q : PV} (l : Nat) (hT : MpT P t ks e kd z) (hz : z = .int .i64 0) (hkd : kd = .int .i64) (ho : o.op = .lookup t x y true := by exact rfl) (hx : ev sL x = some (m, p) := by exact rfl) (hl : lk hP l = some (m, .omap (ikv (numE f 0 L))) := by exact rfl) (hy : ev sL y = some (.int .i64 (f a), q) := by exact rfl) :
 YE P (⟨sL, hP⟩ : St) o (· = .tuple [.int .i64 (numAtI f L a : Nat), .bool (decide (posK f L (f a) < L.length))].toArray) (.tup [.val (.int .i64 (numAtI f L a : Nat)), .val (.bool (decide (posK f L (f a) < L.length)))]) := by
 subst hz hkd
 have h := q_looko2 (sL := sL) (hP := hP) (o := o) l hT ho hx hl hy (kok_ikv _ _)
 rw [(num_lookI f L a).1, (num_lookI f L a).2] at h
 exact h
end
def clsI (t : Tab) (x : Nat) : Int := (clsT t x : Nat)
theorem clsI_id (t : Tab) (o : List Nat) (x : Nat) : posK (clsI t) o (clsI t x) = posK (clsT t) o (clsT t x) := posK_inj fun y _ => by unfold clsI; omega
theorem listedL_pre {t : Tab} {o o' : List Nat} (h : o <+: o') : ∀ k, k ≤ o.length → listedL k (finAt t o) = listedL k (finAt t o')
 | 0, _ => rfl
 | k + 1, hk => by
   rw [listedL_snoc, listedL_snoc, listedL_pre h k (by omega)]
   obtain ⟨x, hx⟩ := get_some (show k < o.length by omega)
   unfold finAt
   rw [hx, preG_get h hx]
theorem snoc_mv (e : Nat) (L : List Mv) (x : Mv) : PV.own e 3 (L.length + 1) (L.flatMap cMv ++ cMv x) = .own e 3 (L ++ [x]).length ((L ++ [x]).flatMap cMv) := by simp
theorem share_mvl (e n : Nat) (l : List Mv) (hn : n = l.length) : share (.own e 3 n (l.flatMap cMv)) = pMvs l := by
 subst hn
 rw [share, shares_eq, List.map_flatMap]; rfl
theorem own_ints (e : Nat) (L : List Int) (x : Int) : PV.own e 1 (L.length + 1) (L.map pInt ++ [pInt x]) = .own e 1 (L ++ [x]).length ((L ++ [x]).map pInt) := by simp
theorem mv_room {rows : List (List Nat)} {r : List Nat} {n m : Nat} (h : ∀ x ∈ rows, x.length = m) (hm : m ≤ 40) (hn : rows.length ≤ 2000) (hr : r.length ≤ m) : (movesT rows ++ rowMv n r).length ≤ 80040 := by
 rw [List.length_append, movesT_len rows h, rowMv_len]
 have : rows.length * m ≤ 2000 * 40 := Nat.mul_le_mul hn hm
 omega
set_option maxHeartbeats 4000000 in
theorem aMinimal_e (t : Tab) (ht : TOk t) : AF Tryd.prog 35 [pTab t] (· = resW (lim (leastT t))) := by
 have hn1 := ht.n1
 have hfl := ht.fl
 have hm1 := ht.m1
 have hpos := ht.pos
 refine AF.of_body 101 Tryd.func35 rfl Tryd.ntmps35 (Nat.le_of_ble_eq_true rfl) ?_
 intro w0 M0 vs hl hv
 obtain ⟨v0, rfl⟩ := len1 hl
 clear hl hv
 refine nav ?_
 (refine aC_region ?_ <;> refine s_boxa 1 3 fun h1 => ?_ <;> refine s_alloc [(.int .i64 0), (.int .i64 0), (.slice none 0 0), (.slice none 0 0), (.slice none 0 0)] 5 2 tZr25_LfD fun h2 => ?_ <;> refine xL 3 q_assign ?_ <;> refine aL_end (nav ?_) <;> try dsimp only)
 (refine aC_region ?_ <;> (refine yL 13 (q_ldao 1 tAgg63_LfB) fun v13 hv13 => ?_; cases hv13) <;> (refine cO 14 (cA Tryd.call50 (aClasses_e t ht)) fun v14 ho14 => ?_; refine aL_ent (En.freeze (l := 14) (t := 14) rfl rfl) fun _ => ?_; rw [show share (.own 3 1 t.rows.length (vec t.rows.length fun s => pInt (clsT t s : Nat))) = .sl t.rows.length (vec t.rows.length fun s => pInt (clsT t s : Nat)) by rw [share, shares_eq, vec_map]; rfl]) <;> refine xL 4 q_assign ?_ <;> refine aL_end (nav ?_) <;> try dsimp only)
 have e1 := vec_at1 (fun s => pInt (clsT t s : Nat)) hpos
 (refine aC_region ?_ <;> refine s_mkmap 15 fun h15 ho15 => ?_ <;> refine xL 16 q_move ?_ <;> refine xL 17 (q_idxN (i := 0) tSl22_LbB) ?_ <;> (refine yL 18 (q_ld tNa3_LbB) fun v18 hv18 => ?_; cases hv18) <;> (refine s_mins 15 tMp90_LfD ?_; rw [show mput [] (.int .i64 ((clsT t 0 : Nat) : Int)) (.int .i64 0) = ikv (numE (clsI t) 0 [0]) from rfl]) <;> refine xL 19 q_move ?_ <;> refine xL 5 q_assign ?_ <;> refine aL_end (nav ?_) <;> try dsimp only)
 (refine aC_region ?_ <;> refine s_lit1 (kk := 1) 20 tEl22_LdI fun h20 ho20 => ?_ <;> refine xL 6 q_assign ?_ <;> refine aL_end (nav ?_) <;> try dsimp only)
 refine aC_ent (relabel (l := 15) 304 rfl rfl) fun _ => ?_
 refine aC_ent (relabel (l := 20) 303 rfl rfl) fun _ => ?_
 refine aC_ent (recast (l := 303) (p' := .own 3 1 ([0] : List Nat).length ((toI [0]).map pInt)) rfl rfl) fun _ => ?_
 (refine aC_region ?_ <;> refine xL 21 (q_fldo 1 tFl63_0_LfD) ?_ <;> (refine yL 22 (q_ldo 1 tNa3_LbB) fun v22 hv22 => ?_; cases hv22) <;> (refine s_lit1 (kk := 1) 23 tEl22_LdI fun h23 ho23 => ?_; refine aL_ent (En.freeze (l := 23) (t := 23) rfl rfl) fun _ => ?_; rw [show share (PV.own 3 1 1 [PV.val (.int .i64 0)]) = pInts [0] from rfl]) <;> refine xL 24 (q_build tSt25_LfD) ?_ <;> refine s_alloc [(.int .i64 0), (.int .i64 0), (.slice none 0 0), (.slice none 0 0), (.slice none 0 0)] 5 7 tZr25_LfD fun h7 => ?_ <;> refine s_sta 7 tAgg25_LdS ?_ <;> refine aL_end (nav ?_) <;> try dsimp only)
 refine aC_ent (nilCells (l := 7) [pInt 0, pInt (t.m : Nat), pInts [0], .own 3 1 0 [], .own 40 3 0 []] rfl rfl (fun i p p' h1 h2 => by
  match i with
  | 0 => cases h1; cases h2; exact .inl rfl
  | 1 => cases h1; cases h2; exact .inl rfl
  | 2 => cases h1; cases h2; exact .inl rfl
  | 3 => cases h1; cases h2; exact .inr ⟨rfl, _, _, rfl⟩
  | 4 => cases h1; cases h2; exact .inr ⟨rfl, _, _, rfl⟩
  | i + 5 => simp at h2)) fun _ => ?_
 refine aC_ent (focusO (l := 7) (l' := 301) (j := 3) rfl rfl rfl rfl) fun i => ?_
 obtain ⟨v301, ho301⟩ := i
 refine aC_ent (focusO (l := 7) (l' := 302) (j := 4) rfl rfl rfl rfl) fun i => ?_
 obtain ⟨v302, ho302⟩ := i
 dsimp only [List.set]
 (refine aC_region ?_ <;> refine xL 8 q_assign ?_ <;> refine aL_end (nav ?_) <;> try dsimp only)
 refine aC_loop (ι := { q : Nat × Value × Value × Value × List Nat × List (List Nat) // (minW t).upto 0 q.1 = some (q.2.2.2.2.1, q.2.2.2.2.2) ∧ q.1 ≤ q.2.2.2.2.1.length ∧ q.2.1.oneCell' = true ∧ q.2.2.1.oneCell' = true ∧ q.2.2.2.1.oneCell' = true }) (fun k => ⟨[(1, _, _), (2, _, _), (3, _, _), (4, _, _), (5, _, _), (7, _, _), (6, k.1.2.2.2.1, .val k.1.2.2.2.1), (8, .int .i64 k.1.1, pInt k.1.1)], [(1, _, _), (2, _, _), (7, h7, .own 25 5 1 [pInt 0, pInt (t.m : Nat), pInts [0], .val k.1.2.1, .val k.1.2.2.1]), (301, k.1.2.1, .own 3 1 (listedL k.1.1 (finAt t k.1.2.2.2.2.1)).length ((listedL k.1.1 (finAt t k.1.2.2.2.2.1)).map pInt)), (302, k.1.2.2.1, .own 40 3 (movesT k.1.2.2.2.2.2).length ((movesT k.1.2.2.2.2.2).flatMap cMv)), (303, k.1.2.2.2.1, .own 3 1 k.1.2.2.2.2.1.length ((toI k.1.2.2.2.2.1).map pInt)), (304, h15, .omap (ikv (numE (clsI t) 0 k.1.2.2.2.2.1)))]⟩) (fun k => 2000 - k.1.1) ⟨(0, v301, v302, h20, [0], []), rfl, Nat.zero_le _, ho301, ho302, ho20⟩ (fun a w H => H.weaken ⟨rfl, rfl, rfl, rfl, rfl, rfl, rfl, rfl, trivial⟩ ⟨rfl, rfl, rfl, rfl, rfl, rfl, rfl, trivial⟩) ?_
 rintro ⟨⟨i, hF, hM, hO, o, rows⟩, hU, hi, hFo, hMo, hOo⟩
 dsimp only
 dsimp only at hU hi hFo hMo hOo
 obtain ⟨hOk, hRl, _⟩ := min_ok ht hU
 have hRl := hRl hi
 have hcap : o.length ≤ t.rows.length := hOk.cap
 have hrw := hOk.len
 have htl := toI_len o
 have hll := listedL_len i (finAt t o)
 refine nav ?_
 (refine aC_region ?_ <;> refine xL 25 q_move ?_ <;> refine xL 26 q_move ?_ <;> refine xL 27 (q_leno 303 tSl22_LbB) ?_ <;> refine xL 28 q_lss ?_ <;> refine aL_end (nav ?_) <;> try dsimp only)
 (first | refine cCd ?_ ?_ | refine cC ?_ ?_) <;> intro hb28
 · first
   | exact Bool.noConfusion hb28
   | (
    obtain ⟨x, hx⟩ := get_some (show i < o.length by omega)
    have hxn : x < t.rows.length := hOk.p x (List.mem_of_getElem? hx)
    have e1 : ((toI o).map pInt)[i * 1]? = some (pInt (x : Nat)) := by rw [Nat.mul_one, List.getElem?_map]; unfold toI; rw [List.getElem?_map, hx]; rfl
    obtain ⟨b, hb⟩ := get_some (show x < t.fin.length by omega)
    have e2 := map_at (f := pBool) hb
    obtain ⟨row, hrow⟩ := get_some hxn
    have e3 := map_at (f := pNats) hrow
    have hrl := ht.rl row (List.mem_of_getElem? hrow)
    have hrt := ht.to row (List.mem_of_getElem? hrow)
    have hrtl := toI_len row
    have hfa : finAt t o i = b := by unfold finAt; rw [hx]; show (t.fin[x]?).getD false = b; rw [hb]; rfl
    have hL1 := listedL_snoc i (finAt t o)
    rw [hfa] at hL1
    refine nav ?_
    (refine aC_draw (fun i => ([] : List Nat).elem i) [1, 303] (by kernel_rfl) ?_ <;> refine xD 0 31 rfl (q_fldo 1 tFl63_2_LfB) ?_ <;> (refine yD 1 32 rfl (q_ldo 1 tNa61_LdJ) fun v32 hv32 => ?_; cases hv32) <;> refine xD 2 33 rfl q_move ?_ <;> refine xE 3 34 rfl q_move ?_ <;> refine xE 4 35 rfl (q_idxoN 303 tSl22_LbB) ?_ <;> (refine yE 5 36 rfl (q_ldo 303 tNa3_LbB) fun v36 hv36 => ?_; cases hv36) <;> refine xE 6 37 rfl (q_idxN tSl61_LdJ) ?_ <;> (refine yE 7 38 rfl (q_ld tNa4_LdJ) fun v38 hv38 => ?_; cases hv38) <;> refine aD_end (by kernel_rfl) (nav ?_) <;> try dsimp only)
    (first | refine cCd ?_ ?_ | refine cC ?_ ?_) <;> intro hb38
    · first
      | exact Bool.noConfusion hb38
      | (
       rw [if_pos hb38] at hL1
       refine nav ?_
       (refine aC_region ?_ <;> refine xL 39 (q_fldo 7 tFl25_3_LdI) ?_ <;> (refine yL 40 (q_ldo 7 tNa22_LdI) fun v40 hv40 => ?_; cases hv40) <;> refine xL 41 q_move ?_ <;> refine s_lit1 (kk := 1) 42 tEl22_LdI fun h42 ho42 => ?_ <;> (refine s_app 301 42 43 tEl22_LdI fun h43 ho43 => ?_; refine aL_ent (relabel (l := 43) 301 rfl rfl) fun _ => ?_; refine aL_ent (recast (l := 301) rfl (own_ints _ (listedL i (finAt t o)) i)) fun _ => ?_) <;> refine xL 44 (q_fldo 7 tFl25_3_LdI) ?_ <;> refine s_st 7 tNa22_LdI tSz22_LdK ?_ <;> refine aL_end (nav ?_) <;> try dsimp only)
       (refine aC_draw (fun i => ([] : List Nat).elem i) [1, 303] (by kernel_rfl) ?_ <;> refine xD 0 45 rfl (q_fldo 1 tFl63_1_LfB) ?_ <;> (refine yD 1 46 rfl (q_ldo 1 tNa36_LfB) fun v46 hv46 => ?_; cases hv46) <;> refine xD 2 47 rfl q_move ?_ <;> refine xD 3 48 rfl q_move ?_ <;> refine xD 4 49 rfl (q_idxoN 303 tSl22_LbB) ?_ <;> (refine yD 5 50 rfl (q_ldo 303 tNa3_LbB) fun v50 hv50 => ?_; cases hv50) <;> refine xD 6 51 rfl (q_idxN tSl36_LdS) ?_ <;> (refine yD 7 52 rfl (q_ld tNa22_LdI) fun v52 hv52 => ?_; cases hv52) <;> refine xD 8 53 rfl (q_len tSl22_LbB) ?_ <;> refine xE 9 54 rfl q_move ?_ <;> refine aD_end (by kernel_rfl) (nav ?_) <;> try dsimp only)
       rw [← hL1]
       rw [show movesT rows = movesT rows ++ rowMv i ([] : List Nat) from (List.append_nil _).symm]
       refine aC_loop (ι := { q : Nat × Value × Value × List Nat × List Nat // (minW t).row i x o q.1 = some (q.2.2.2.1, q.2.2.2.2) ∧ q.1 ≤ t.m ∧ q.2.1.oneCell' = true ∧ q.2.2.1.oneCell' = true }) (fun k => ⟨[(1, _, _), (2, _, _), (3, _, _), (4, _, _), (5, _, _), (7, _, _), (8, _, _), (52, _, _), (53, _, _), (6, k.1.2.2.1, .val k.1.2.2.1), (54, .int .i64 k.1.1, pInt k.1.1)], [(1, _, _), (2, _, _), (301, _, _), (7, h7, .own 25 5 1 [pInt 0, pInt (t.m : Nat), pInts [0], _, .val k.1.2.1]), (302, k.1.2.1, .own 40 3 (movesT rows ++ rowMv i k.1.2.2.2.2).length ((movesT rows ++ rowMv i k.1.2.2.2.2).flatMap cMv)), (303, k.1.2.2.1, .own 3 1 k.1.2.2.2.1.length ((toI k.1.2.2.2.1).map pInt)), (304, h15, .omap (ikv (numE (clsI t) 0 k.1.2.2.2.1)))]⟩) (fun k => t.m - k.1.1) ⟨(0, hM, hO, o, []), rfl, Nat.zero_le _, hMo, hOo⟩ (fun a w H => H.weaken ⟨rfl, rfl, rfl, rfl, rfl, rfl, rfl, rfl, rfl, rfl, rfl, trivial⟩ ⟨rfl, rfl, rfl, rfl, rfl, rfl, rfl, trivial⟩) ?_
       rintro ⟨⟨s, hM', hO', o', r⟩, hW, hs, hM'o, hO'o⟩
       dsimp only
       dsimp only at hW hs hM'o hO'o
       obtain ⟨hMt, hpr, hrl2, _⟩ := hOk.toMet.row (fun s _ => toT_lt ht) (show s ≤ (minW t).m from hs) hW
       have hcap' : o'.length ≤ t.rows.length := hMt.cap
       have htl' := toI_len o'
       have hmr := mv_room (n := i) hrw hm1 (by omega) (show r.length ≤ t.m by omega)
       refine nav ?_
       (refine aC_region ?_ <;> refine xL 55 q_lss ?_ <;> refine aL_end (nav ?_) <;> try dsimp only)
       (first | refine cCd ?_ ?_ | refine cC ?_ ?_) <;> intro hb55
       · first
         | exact Bool.noConfusion hb55
         | (
          obtain ⟨y, hy⟩ := get_some (show s < row.length by omega)
          have hyn := hrt y (List.mem_of_getElem? hy)
          have e4 : ((toI row).map pInt)[s * 1]? = some (pInt (y : Nat)) := by rw [Nat.mul_one, List.getElem?_map]; unfold toI; rw [List.getElem?_map, hy]; rfl
          have e5 := vec_at1 (fun s => pInt (clsT t s : Nat)) hyn
          have hto : (minW t).step i x s = y := toT_at hrow hy
          have hid := clsI_id t o' y
          refine nav ?_
          (refine aC_region ?_ <;> refine xL 56 q_move ?_ <;> refine xL 57 (q_idxN tSl22_LbB) ?_ <;> (refine yL 58 (q_ld tNa3_LbB) fun v58 hv58 => ?_; cases hv58) <;> refine xL 9 q_assign ?_ <;> refine xL 10 q_assign ?_ <;> refine aL_end (nav ?_) <;> try dsimp only)
          (refine aC_region ?_ <;> refine xL 60 q_move ?_ <;> refine xL 61 q_move ?_ <;> refine xL 62 q_move ?_ <;> refine xL 63 (q_idxN tSl22_LbB) ?_ <;> (refine yL 64 (q_ld tNa3_LbB) fun v64 hv64 => ?_; cases hv64) <;> refine xL 65 (q_num2I (f := clsI t) (L := o') (a := y) 304 tMp90_LfD rfl rfl) ?_ <;> refine xL 59 q_move ?_ <;> refine xL 66 q_extract ?_ <;> refine xL 67 q_extract ?_ <;> refine xL 11 q_assign ?_ <;> refine xL 12 q_assign ?_ <;> refine aL_end (nav ?_) <;> try dsimp only)
          (refine aC_region ?_ <;> refine xL 68 q_move ?_ <;> refine xL 69 q_not ?_ <;> refine aL_end (nav ?_) <;> try dsimp only)
          (first | refine cCd ?_ ?_ | refine cC ?_ ?_) <;> intro hb69
          · first
            | exact Bool.noConfusion hb69
            | (
             have hnew : ¬ posK (clsI t) o' (clsI t y) < o'.length := by simpa using hb69
             have hnew2 : ¬ posK (minW t).key o' ((minW t).key ((minW t).step i x s)) < o'.length := by
              rw [hto]
              show ¬ posK (clsT t) o' (clsT t y) < o'.length
              rw [← hid]; exact hnew
             have hroom := min_visit ht hMt (show (minW t).step i x s < t.rows.length by rw [hto]; exact hyn) hnew2
             refine nav ?_
             (refine aC_region ?_ <;> refine xL 70 q_move ?_ <;> refine xL 71 (q_leno 303 tSl22_LbB) ?_ <;> refine xL 11 q_assign ?_ <;> refine aL_end (nav ?_) <;> try dsimp only)
             (refine aC_region ?_ <;> refine xL 72 q_move ?_ <;> refine xL 73 q_move ?_ <;> refine xL 74 q_move ?_ <;> refine xL 75 (q_idxN tSl22_LbB) ?_ <;> (refine yL 76 (q_ld tNa3_LbB) fun v76 hv76 => ?_; cases hv76) <;> refine xL 77 q_move ?_ <;> (refine s_mput 304 tMp90_LfD ?_; rw [show mput (ikv (numE (clsI t) 0 o')) (.int .i64 ((clsT t y : Nat) : Int)) (.int .i64 ((o'.length : Nat) : Int)) = ikv (numE (clsI t) 0 (o' ++ [y])) from num_putI hnew]) <;> refine aL_end (nav ?_) <;> try dsimp only)
             (refine aC_region ?_ <;> refine xL 78 q_move ?_ <;> refine xL 79 q_move ?_ <;> refine s_lit1 (kk := 1) 80 tEl22_LdI fun h80 ho80 => ?_ <;> (refine s_app 303 80 81 tEl22_LdI fun h81 ho81 => ?_; refine aL_ent (relabel (l := 81) 303 rfl rfl) fun _ => ?_; refine aL_ent (recast (l := 303) rfl (own_nats _ o' y)) fun _ => ?_) <;> refine xL 6 q_assign ?_ <;> refine aL_end (nav ?_) <;> try dsimp only)
             (refine aC_region ?_ <;> refine xL 82 (q_fldo 7 tFl25_4_LdI) ?_ <;> (refine yL 83 (q_ldo 7 tNa23_LdI) fun v83 hv83 => ?_; cases hv83) <;> refine xL 84 q_move ?_ <;> refine xL 85 q_move ?_ <;> refine xL 86 q_move ?_ <;> refine xL 87 (q_build tSt40_LfD) ?_ <;> refine s_lit1a 88 tEl23_LdR fun h88 ho88 => ?_ <;> (refine s_app 302 88 89 tEl23_LdR fun h89 ho89 => ?_; refine aL_ent (relabel (l := 89) 302 rfl rfl) fun _ => ?_; first | refine aL_ent (recast (l := 302) rfl (snoc_mv _ (movesT rows ++ rowMv i r) ⟨(i : Nat), (o'.length : Nat), (s : Nat)⟩)) fun _ => ?_ | refine aL_ent (recast (l := 302) rfl (snoc_mv _ (movesT rows ++ rowMv i r) ⟨(i : Nat), (numAtI (clsI t) o' y : Nat), (s : Nat)⟩)) fun _ => ?_) <;> refine xL 90 (q_fldo 7 tFl25_4_LdI) ?_ <;> refine s_st 7 tNa23_LdI tSz23_LdR ?_ <;> refine aL_end (nav ?_) <;> try dsimp only)
             (refine aC_region ?_ <;> refine xL 91 q_add ?_ <;> refine xL 54 q_move ?_ <;> refine aL_end (nav ?_) <;> try dsimp only)
             try rw [show (movesT rows ++ rowMv i r) ++ [(⟨(i : Nat), (o'.length : Nat), (s : Nat)⟩ : Mv)] = movesT rows ++ rowMv i (r ++ [o'.length]) by rw [rowMv_snoc, hrl2, List.append_assoc]]
             try rw [show (movesT rows ++ rowMv i r) ++ [(⟨(i : Nat), (numAtI (clsI t) o' y : Nat), (s : Nat)⟩ : Mv)] = movesT rows ++ rowMv i (r ++ [numAtI (clsI t) o' y]) by rw [rowMv_snoc, hrl2, List.append_assoc]]
             first
              | (exact aN_again (
                  ⟨(s + 1, h89, h81, o' ++ [y], r ++ [o'.length]), (by dsimp only; exact (by have h9 := Srch.row_snoc hW (visit_new hnew2 hroom); rwa [hto] at h9)), (by dsimp only; omega), ho89, ho81⟩
                  ) (by dsimp only; omega) ⟨rfl, rfl, rfl, rfl, rfl, rfl, rfl, rfl, rfl, rfl, rfl, trivial⟩ ⟨rfl, rfl, rfl, rfl, rfl, rfl, rfl, trivial⟩)
              | (exact aN_again (
                  ⟨(s + 1, h89, hO', o', r ++ [numAtI (clsI t) o' y]), (by dsimp only; rw [hnum]; exact Srch.row_snoc hW (visit_old hold2)), (by dsimp only; omega), ho89, hO'o⟩
                  ) (by dsimp only; omega) ⟨rfl, rfl, rfl, rfl, rfl, rfl, rfl, rfl, rfl, rfl, rfl, trivial⟩ ⟨rfl, rfl, rfl, rfl, rfl, rfl, rfl, trivial⟩))
          · first
            | exact Bool.noConfusion hb69
            | (
             have hold : posK (clsI t) o' (clsI t y) < o'.length := by simpa using hb69
             have hold2 : posK (minW t).key o' ((minW t).key ((minW t).step i x s)) < o'.length := by
              rw [hto]
              show posK (clsT t) o' (clsT t y) < o'.length
              rw [← hid]; exact hold
             have hnum : numAtI (clsI t) o' y = posK (minW t).key o' ((minW t).key ((minW t).step i x s)) := by
              rw [hto]
              show numAtI (clsI t) o' y = posK (clsT t) o' (clsT t y)
              unfold numAtI
              rw [if_pos hold, hid]
             refine nav ?_
             (refine aC_region ?_ <;> refine xL 82 (q_fldo 7 tFl25_4_LdI) ?_ <;> (refine yL 83 (q_ldo 7 tNa23_LdI) fun v83 hv83 => ?_; cases hv83) <;> refine xL 84 q_move ?_ <;> refine xL 85 q_move ?_ <;> refine xL 86 q_move ?_ <;> refine xL 87 (q_build tSt40_LfD) ?_ <;> refine s_lit1a 88 tEl23_LdR fun h88 ho88 => ?_ <;> (refine s_app 302 88 89 tEl23_LdR fun h89 ho89 => ?_; refine aL_ent (relabel (l := 89) 302 rfl rfl) fun _ => ?_; first | refine aL_ent (recast (l := 302) rfl (snoc_mv _ (movesT rows ++ rowMv i r) ⟨(i : Nat), (o'.length : Nat), (s : Nat)⟩)) fun _ => ?_ | refine aL_ent (recast (l := 302) rfl (snoc_mv _ (movesT rows ++ rowMv i r) ⟨(i : Nat), (numAtI (clsI t) o' y : Nat), (s : Nat)⟩)) fun _ => ?_) <;> refine xL 90 (q_fldo 7 tFl25_4_LdI) ?_ <;> refine s_st 7 tNa23_LdI tSz23_LdR ?_ <;> refine aL_end (nav ?_) <;> try dsimp only)
             (refine aC_region ?_ <;> refine xL 91 q_add ?_ <;> refine xL 54 q_move ?_ <;> refine aL_end (nav ?_) <;> try dsimp only)
             try rw [show (movesT rows ++ rowMv i r) ++ [(⟨(i : Nat), (o'.length : Nat), (s : Nat)⟩ : Mv)] = movesT rows ++ rowMv i (r ++ [o'.length]) by rw [rowMv_snoc, hrl2, List.append_assoc]]
             try rw [show (movesT rows ++ rowMv i r) ++ [(⟨(i : Nat), (numAtI (clsI t) o' y : Nat), (s : Nat)⟩ : Mv)] = movesT rows ++ rowMv i (r ++ [numAtI (clsI t) o' y]) by rw [rowMv_snoc, hrl2, List.append_assoc]]
             first
              | (exact aN_again (
                  ⟨(s + 1, h89, h81, o' ++ [y], r ++ [o'.length]), (by dsimp only; exact (by have h9 := Srch.row_snoc hW (visit_new hnew2 hroom); rwa [hto] at h9)), (by dsimp only; omega), ho89, ho81⟩
                  ) (by dsimp only; omega) ⟨rfl, rfl, rfl, rfl, rfl, rfl, rfl, rfl, rfl, rfl, rfl, trivial⟩ ⟨rfl, rfl, rfl, rfl, rfl, rfl, rfl, trivial⟩)
              | (exact aN_again (
                  ⟨(s + 1, h89, hO', o', r ++ [numAtI (clsI t) o' y]), (by dsimp only; rw [hnum]; exact Srch.row_snoc hW (visit_old hold2)), (by dsimp only; omega), ho89, hO'o⟩
                  ) (by dsimp only; omega) ⟨rfl, rfl, rfl, rfl, rfl, rfl, rfl, rfl, rfl, rfl, rfl, trivial⟩ ⟨rfl, rfl, rfl, rfl, rfl, rfl, rfl, trivial⟩)))
       · first
         | exact Bool.noConfusion hb55
         | (
          have hsm : s = t.m := by omega
          subst hsm
          have hU2 := Srch.upto_snoc hU hx hW
          rw [show movesT rows ++ rowMv i r = movesT (rows ++ [r]) by rw [movesT_snoc, hRl]]
          rw [listedL_pre hpr (i + 1) (by omega)]
          refine nav ?_
          (refine aC_region ?_ <;> refine xL 29 q_move ?_ <;> refine xL 30 q_add ?_ <;> refine xL 8 q_assign ?_ <;> refine aL_end (nav ?_) <;> try dsimp only)
          first
           | (exact aN_again (
               ⟨(i + 1, h43, hM', hO', o', rows ++ [r]), hU2, (by dsimp only; have := hpr.length_le; omega), ho43, hM'o, hO'o⟩
               ) (by dsimp only; omega) ⟨rfl, rfl, rfl, rfl, rfl, rfl, rfl, rfl, trivial⟩ ⟨rfl, rfl, rfl, rfl, rfl, rfl, rfl, trivial⟩)
           | (exact aN_again (
               ⟨(i + 1, hF, hM', hO', o', rows ++ [r]), hU2, (by dsimp only; have := hpr.length_le; omega), hFo, hM'o, hO'o⟩
               ) (by dsimp only; omega) ⟨rfl, rfl, rfl, rfl, rfl, rfl, rfl, rfl, trivial⟩ ⟨rfl, rfl, rfl, rfl, rfl, rfl, rfl, trivial⟩)))
    · first
      | exact Bool.noConfusion hb38
      | (
       rw [if_neg (by simpa using hb38), List.append_nil] at hL1
       refine nav ?_
       (refine aC_draw (fun i => ([] : List Nat).elem i) [1, 303] (by kernel_rfl) ?_ <;> refine xD 0 45 rfl (q_fldo 1 tFl63_1_LfB) ?_ <;> (refine yD 1 46 rfl (q_ldo 1 tNa36_LfB) fun v46 hv46 => ?_; cases hv46) <;> refine xD 2 47 rfl q_move ?_ <;> refine xD 3 48 rfl q_move ?_ <;> refine xD 4 49 rfl (q_idxoN 303 tSl22_LbB) ?_ <;> (refine yD 5 50 rfl (q_ldo 303 tNa3_LbB) fun v50 hv50 => ?_; cases hv50) <;> refine xD 6 51 rfl (q_idxN tSl36_LdS) ?_ <;> (refine yD 7 52 rfl (q_ld tNa22_LdI) fun v52 hv52 => ?_; cases hv52) <;> refine xD 8 53 rfl (q_len tSl22_LbB) ?_ <;> refine xE 9 54 rfl q_move ?_ <;> refine aD_end (by kernel_rfl) (nav ?_) <;> try dsimp only)
       rw [← hL1]
       rw [show movesT rows = movesT rows ++ rowMv i ([] : List Nat) from (List.append_nil _).symm]
       refine aC_loop (ι := { q : Nat × Value × Value × List Nat × List Nat // (minW t).row i x o q.1 = some (q.2.2.2.1, q.2.2.2.2) ∧ q.1 ≤ t.m ∧ q.2.1.oneCell' = true ∧ q.2.2.1.oneCell' = true }) (fun k => ⟨[(1, _, _), (2, _, _), (3, _, _), (4, _, _), (5, _, _), (7, _, _), (8, _, _), (52, _, _), (53, _, _), (6, k.1.2.2.1, .val k.1.2.2.1), (54, .int .i64 k.1.1, pInt k.1.1)], [(1, _, _), (2, _, _), (301, _, _), (7, h7, .own 25 5 1 [pInt 0, pInt (t.m : Nat), pInts [0], _, .val k.1.2.1]), (302, k.1.2.1, .own 40 3 (movesT rows ++ rowMv i k.1.2.2.2.2).length ((movesT rows ++ rowMv i k.1.2.2.2.2).flatMap cMv)), (303, k.1.2.2.1, .own 3 1 k.1.2.2.2.1.length ((toI k.1.2.2.2.1).map pInt)), (304, h15, .omap (ikv (numE (clsI t) 0 k.1.2.2.2.1)))]⟩) (fun k => t.m - k.1.1) ⟨(0, hM, hO, o, []), rfl, Nat.zero_le _, hMo, hOo⟩ (fun a w H => H.weaken ⟨rfl, rfl, rfl, rfl, rfl, rfl, rfl, rfl, rfl, rfl, rfl, trivial⟩ ⟨rfl, rfl, rfl, rfl, rfl, rfl, rfl, trivial⟩) ?_
       rintro ⟨⟨s, hM', hO', o', r⟩, hW, hs, hM'o, hO'o⟩
       dsimp only
       dsimp only at hW hs hM'o hO'o
       obtain ⟨hMt, hpr, hrl2, _⟩ := hOk.toMet.row (fun s _ => toT_lt ht) (show s ≤ (minW t).m from hs) hW
       have hcap' : o'.length ≤ t.rows.length := hMt.cap
       have htl' := toI_len o'
       have hmr := mv_room (n := i) hrw hm1 (by omega) (show r.length ≤ t.m by omega)
       refine nav ?_
       (refine aC_region ?_ <;> refine xL 55 q_lss ?_ <;> refine aL_end (nav ?_) <;> try dsimp only)
       (first | refine cCd ?_ ?_ | refine cC ?_ ?_) <;> intro hb55
       · first
         | exact Bool.noConfusion hb55
         | (
          obtain ⟨y, hy⟩ := get_some (show s < row.length by omega)
          have hyn := hrt y (List.mem_of_getElem? hy)
          have e4 : ((toI row).map pInt)[s * 1]? = some (pInt (y : Nat)) := by rw [Nat.mul_one, List.getElem?_map]; unfold toI; rw [List.getElem?_map, hy]; rfl
          have e5 := vec_at1 (fun s => pInt (clsT t s : Nat)) hyn
          have hto : (minW t).step i x s = y := toT_at hrow hy
          have hid := clsI_id t o' y
          refine nav ?_
          (refine aC_region ?_ <;> refine xL 56 q_move ?_ <;> refine xL 57 (q_idxN tSl22_LbB) ?_ <;> (refine yL 58 (q_ld tNa3_LbB) fun v58 hv58 => ?_; cases hv58) <;> refine xL 9 q_assign ?_ <;> refine xL 10 q_assign ?_ <;> refine aL_end (nav ?_) <;> try dsimp only)
          (refine aC_region ?_ <;> refine xL 60 q_move ?_ <;> refine xL 61 q_move ?_ <;> refine xL 62 q_move ?_ <;> refine xL 63 (q_idxN tSl22_LbB) ?_ <;> (refine yL 64 (q_ld tNa3_LbB) fun v64 hv64 => ?_; cases hv64) <;> refine xL 65 (q_num2I (f := clsI t) (L := o') (a := y) 304 tMp90_LfD rfl rfl) ?_ <;> refine xL 59 q_move ?_ <;> refine xL 66 q_extract ?_ <;> refine xL 67 q_extract ?_ <;> refine xL 11 q_assign ?_ <;> refine xL 12 q_assign ?_ <;> refine aL_end (nav ?_) <;> try dsimp only)
          (refine aC_region ?_ <;> refine xL 68 q_move ?_ <;> refine xL 69 q_not ?_ <;> refine aL_end (nav ?_) <;> try dsimp only)
          (first | refine cCd ?_ ?_ | refine cC ?_ ?_) <;> intro hb69
          · first
            | exact Bool.noConfusion hb69
            | (
             have hnew : ¬ posK (clsI t) o' (clsI t y) < o'.length := by simpa using hb69
             have hnew2 : ¬ posK (minW t).key o' ((minW t).key ((minW t).step i x s)) < o'.length := by
              rw [hto]
              show ¬ posK (clsT t) o' (clsT t y) < o'.length
              rw [← hid]; exact hnew
             have hroom := min_visit ht hMt (show (minW t).step i x s < t.rows.length by rw [hto]; exact hyn) hnew2
             refine nav ?_
             (refine aC_region ?_ <;> refine xL 70 q_move ?_ <;> refine xL 71 (q_leno 303 tSl22_LbB) ?_ <;> refine xL 11 q_assign ?_ <;> refine aL_end (nav ?_) <;> try dsimp only)
             (refine aC_region ?_ <;> refine xL 72 q_move ?_ <;> refine xL 73 q_move ?_ <;> refine xL 74 q_move ?_ <;> refine xL 75 (q_idxN tSl22_LbB) ?_ <;> (refine yL 76 (q_ld tNa3_LbB) fun v76 hv76 => ?_; cases hv76) <;> refine xL 77 q_move ?_ <;> (refine s_mput 304 tMp90_LfD ?_; rw [show mput (ikv (numE (clsI t) 0 o')) (.int .i64 ((clsT t y : Nat) : Int)) (.int .i64 ((o'.length : Nat) : Int)) = ikv (numE (clsI t) 0 (o' ++ [y])) from num_putI hnew]) <;> refine aL_end (nav ?_) <;> try dsimp only)
             (refine aC_region ?_ <;> refine xL 78 q_move ?_ <;> refine xL 79 q_move ?_ <;> refine s_lit1 (kk := 1) 80 tEl22_LdI fun h80 ho80 => ?_ <;> (refine s_app 303 80 81 tEl22_LdI fun h81 ho81 => ?_; refine aL_ent (relabel (l := 81) 303 rfl rfl) fun _ => ?_; refine aL_ent (recast (l := 303) rfl (own_nats _ o' y)) fun _ => ?_) <;> refine xL 6 q_assign ?_ <;> refine aL_end (nav ?_) <;> try dsimp only)
             (refine aC_region ?_ <;> refine xL 82 (q_fldo 7 tFl25_4_LdI) ?_ <;> (refine yL 83 (q_ldo 7 tNa23_LdI) fun v83 hv83 => ?_; cases hv83) <;> refine xL 84 q_move ?_ <;> refine xL 85 q_move ?_ <;> refine xL 86 q_move ?_ <;> refine xL 87 (q_build tSt40_LfD) ?_ <;> refine s_lit1a 88 tEl23_LdR fun h88 ho88 => ?_ <;> (refine s_app 302 88 89 tEl23_LdR fun h89 ho89 => ?_; refine aL_ent (relabel (l := 89) 302 rfl rfl) fun _ => ?_; first | refine aL_ent (recast (l := 302) rfl (snoc_mv _ (movesT rows ++ rowMv i r) ⟨(i : Nat), (o'.length : Nat), (s : Nat)⟩)) fun _ => ?_ | refine aL_ent (recast (l := 302) rfl (snoc_mv _ (movesT rows ++ rowMv i r) ⟨(i : Nat), (numAtI (clsI t) o' y : Nat), (s : Nat)⟩)) fun _ => ?_) <;> refine xL 90 (q_fldo 7 tFl25_4_LdI) ?_ <;> refine s_st 7 tNa23_LdI tSz23_LdR ?_ <;> refine aL_end (nav ?_) <;> try dsimp only)
             (refine aC_region ?_ <;> refine xL 91 q_add ?_ <;> refine xL 54 q_move ?_ <;> refine aL_end (nav ?_) <;> try dsimp only)
             try rw [show (movesT rows ++ rowMv i r) ++ [(⟨(i : Nat), (o'.length : Nat), (s : Nat)⟩ : Mv)] = movesT rows ++ rowMv i (r ++ [o'.length]) by rw [rowMv_snoc, hrl2, List.append_assoc]]
             try rw [show (movesT rows ++ rowMv i r) ++ [(⟨(i : Nat), (numAtI (clsI t) o' y : Nat), (s : Nat)⟩ : Mv)] = movesT rows ++ rowMv i (r ++ [numAtI (clsI t) o' y]) by rw [rowMv_snoc, hrl2, List.append_assoc]]
             first
              | (exact aN_again (
                  ⟨(s + 1, h89, h81, o' ++ [y], r ++ [o'.length]), (by dsimp only; exact (by have h9 := Srch.row_snoc hW (visit_new hnew2 hroom); rwa [hto] at h9)), (by dsimp only; omega), ho89, ho81⟩
                  ) (by dsimp only; omega) ⟨rfl, rfl, rfl, rfl, rfl, rfl, rfl, rfl, rfl, rfl, rfl, trivial⟩ ⟨rfl, rfl, rfl, rfl, rfl, rfl, rfl, trivial⟩)
              | (exact aN_again (
                  ⟨(s + 1, h89, hO', o', r ++ [numAtI (clsI t) o' y]), (by dsimp only; rw [hnum]; exact Srch.row_snoc hW (visit_old hold2)), (by dsimp only; omega), ho89, hO'o⟩
                  ) (by dsimp only; omega) ⟨rfl, rfl, rfl, rfl, rfl, rfl, rfl, rfl, rfl, rfl, rfl, trivial⟩ ⟨rfl, rfl, rfl, rfl, rfl, rfl, rfl, trivial⟩))
          · first
            | exact Bool.noConfusion hb69
            | (
             have hold : posK (clsI t) o' (clsI t y) < o'.length := by simpa using hb69
             have hold2 : posK (minW t).key o' ((minW t).key ((minW t).step i x s)) < o'.length := by
              rw [hto]
              show posK (clsT t) o' (clsT t y) < o'.length
              rw [← hid]; exact hold
             have hnum : numAtI (clsI t) o' y = posK (minW t).key o' ((minW t).key ((minW t).step i x s)) := by
              rw [hto]
              show numAtI (clsI t) o' y = posK (clsT t) o' (clsT t y)
              unfold numAtI
              rw [if_pos hold, hid]
             refine nav ?_
             (refine aC_region ?_ <;> refine xL 82 (q_fldo 7 tFl25_4_LdI) ?_ <;> (refine yL 83 (q_ldo 7 tNa23_LdI) fun v83 hv83 => ?_; cases hv83) <;> refine xL 84 q_move ?_ <;> refine xL 85 q_move ?_ <;> refine xL 86 q_move ?_ <;> refine xL 87 (q_build tSt40_LfD) ?_ <;> refine s_lit1a 88 tEl23_LdR fun h88 ho88 => ?_ <;> (refine s_app 302 88 89 tEl23_LdR fun h89 ho89 => ?_; refine aL_ent (relabel (l := 89) 302 rfl rfl) fun _ => ?_; first | refine aL_ent (recast (l := 302) rfl (snoc_mv _ (movesT rows ++ rowMv i r) ⟨(i : Nat), (o'.length : Nat), (s : Nat)⟩)) fun _ => ?_ | refine aL_ent (recast (l := 302) rfl (snoc_mv _ (movesT rows ++ rowMv i r) ⟨(i : Nat), (numAtI (clsI t) o' y : Nat), (s : Nat)⟩)) fun _ => ?_) <;> refine xL 90 (q_fldo 7 tFl25_4_LdI) ?_ <;> refine s_st 7 tNa23_LdI tSz23_LdR ?_ <;> refine aL_end (nav ?_) <;> try dsimp only)
             (refine aC_region ?_ <;> refine xL 91 q_add ?_ <;> refine xL 54 q_move ?_ <;> refine aL_end (nav ?_) <;> try dsimp only)
             try rw [show (movesT rows ++ rowMv i r) ++ [(⟨(i : Nat), (o'.length : Nat), (s : Nat)⟩ : Mv)] = movesT rows ++ rowMv i (r ++ [o'.length]) by rw [rowMv_snoc, hrl2, List.append_assoc]]
             try rw [show (movesT rows ++ rowMv i r) ++ [(⟨(i : Nat), (numAtI (clsI t) o' y : Nat), (s : Nat)⟩ : Mv)] = movesT rows ++ rowMv i (r ++ [numAtI (clsI t) o' y]) by rw [rowMv_snoc, hrl2, List.append_assoc]]
             first
              | (exact aN_again (
                  ⟨(s + 1, h89, h81, o' ++ [y], r ++ [o'.length]), (by dsimp only; exact (by have h9 := Srch.row_snoc hW (visit_new hnew2 hroom); rwa [hto] at h9)), (by dsimp only; omega), ho89, ho81⟩
                  ) (by dsimp only; omega) ⟨rfl, rfl, rfl, rfl, rfl, rfl, rfl, rfl, rfl, rfl, rfl, trivial⟩ ⟨rfl, rfl, rfl, rfl, rfl, rfl, rfl, trivial⟩)
              | (exact aN_again (
                  ⟨(s + 1, h89, hO', o', r ++ [numAtI (clsI t) o' y]), (by dsimp only; rw [hnum]; exact Srch.row_snoc hW (visit_old hold2)), (by dsimp only; omega), ho89, hO'o⟩
                  ) (by dsimp only; omega) ⟨rfl, rfl, rfl, rfl, rfl, rfl, rfl, rfl, rfl, rfl, rfl, trivial⟩ ⟨rfl, rfl, rfl, rfl, rfl, rfl, rfl, trivial⟩)))
       · first
         | exact Bool.noConfusion hb55
         | (
          have hsm : s = t.m := by omega
          subst hsm
          have hU2 := Srch.upto_snoc hU hx hW
          rw [show movesT rows ++ rowMv i r = movesT (rows ++ [r]) by rw [movesT_snoc, hRl]]
          rw [listedL_pre hpr (i + 1) (by omega)]
          refine nav ?_
          (refine aC_region ?_ <;> refine xL 29 q_move ?_ <;> refine xL 30 q_add ?_ <;> refine xL 8 q_assign ?_ <;> refine aL_end (nav ?_) <;> try dsimp only)
          first
           | (exact aN_again (
               ⟨(i + 1, h43, hM', hO', o', rows ++ [r]), hU2, (by dsimp only; have := hpr.length_le; omega), ho43, hM'o, hO'o⟩
               ) (by dsimp only; omega) ⟨rfl, rfl, rfl, rfl, rfl, rfl, rfl, rfl, trivial⟩ ⟨rfl, rfl, rfl, rfl, rfl, rfl, rfl, trivial⟩)
           | (exact aN_again (
               ⟨(i + 1, hF, hM', hO', o', rows ++ [r]), hU2, (by dsimp only; have := hpr.length_le; omega), hFo, hM'o, hO'o⟩
               ) (by dsimp only; omega) ⟨rfl, rfl, rfl, rfl, rfl, rfl, rfl, rfl, trivial⟩ ⟨rfl, rfl, rfl, rfl, rfl, rfl, rfl, trivial⟩))))
 · first
   | exact Bool.noConfusion hb28
   | (
    have hio : i = o.length := by omega
    subst hio
    have hA := Srch.all_some hU (Nat.le_refl _) (show o.length ≤ (minW t).cap from hcap)
    refine nav ?_
    (refine aC_region ?_ <;> refine xL 92 q_move ?_ <;> refine xL 93 (q_leno 303 tSl22_LbB) ?_ <;> refine xL 94 (q_fldo 7 tFl25_0_LdI) ?_ <;> refine s_st 7 tNa3_LbB tSz3_LdJ ?_ <;> refine aL_end (nav ?_) <;> try dsimp only)
    (refine aC_region ?_ <;> refine xL 95 (q_fldo 7 tFl25_4_LdI) ?_ <;> (refine yL 96 (q_ldo 7 tNa23_LdI) fun v96 hv96 => ?_; cases hv96) <;> refine xL 97 (q_leno 302 tSl23_LdI) ?_ <;> refine xL 98 q_gtr ?_ <;> refine aL_end (nav ?_) <;> try dsimp only)
    (first | refine cCd ?_ ?_ | refine cC ?_ ?_) <;> intro hb98
    · first
      | exact Bool.noConfusion hb98
      | (
       refine nav ?_
       (refine aC_region ?_ <;> refine xL 99 (q_build tSt25_LfD) ?_ <;> refine s_sta 2 tAgg25_LdS ?_ <;> refine xL 3 q_assign ?_ <;> refine aL_end (nav ?_) <;> try dsimp only)
       refine ret_cs (k := 5) 2 (by kernel_rfl) (Tryd.results35) rfl rfl rfl (Nat.le_of_ble_eq_true rfl) (by decide) rfl ?_
       unfold leastT
       rw [hA, Option.bind_some, if_pos (by dsimp only; omega)]; rfl)
    · first
      | exact Bool.noConfusion hb98
      | (
       refine nav ?_
       refine aC_ent (freezeCell (l := 7) (l' := 301) (j := 3) rfl rfl rfl rfl) fun _ => ?_
       refine aC_ent (freezeCell (l := 7) (l' := 302) (j := 4) rfl rfl rfl rfl) fun _ => ?_
       rw [share_ints _ _ _ rfl, share_mvl _ _ _ rfl]
       (refine aC_region ?_ <;> (refine yL 100 (q_ldao 7 tAgg25_LdS) fun v100 hv100 => ?_; cases hv100) <;> refine s_sta 2 tAgg25_LdS ?_ <;> refine xL 3 q_assign ?_ <;> refine aL_end (nav ?_) <;> try dsimp only)
       refine ret_cs (k := 5) 2 (by kernel_rfl) (Tryd.results35) rfl rfl rfl (Nat.le_of_ble_eq_true rfl) (by decide) rfl ?_
       unfold leastT
       rw [hA, Option.bind_some, if_neg (by dsimp only; omega)]; rfl))
theorem redL_big {a : Aut} (h : 2000 < a.n ∨ 20000 < a.moves.length) : redL a = .error 13 := by unfold redL; rw [if_pos h]
theorem redL_in {a : Aut} (h : ¬ (2000 < a.n ∨ 20000 < a.moves.length)) : redL a = redX a := by unfold redL; rw [if_neg h]
theorem lim_cases (x : Option Aut) : (∃ A, x = some A ∧ resW (lim x) = .tup [pAut A, pInt 0]) ∨ (x = none ∧ resW (lim x) = .tup [rawZ, pInt 13]) := by
 cases x with
 | none => exact .inr ⟨rfl, rfl⟩
 | some A => exact .inl ⟨A, rfl, rfl⟩
theorem res_cases (x : Except Int Aut) : (∃ A, x = .ok A ∧ resW x = .tup [pAut A, pInt 0]) ∨ (∃ e, x = .error e ∧ resW x = .tup [rawZ, pInt e]) := by
 cases x with
 | error e => exact .inr ⟨e, rfl, rfl⟩
 | ok A => exact .inl ⟨A, rfl, rfl⟩
theorem redX_some {a : Aut} {t : Tab} (h : subT a = some t) : redX a = lim (leastT t) := by unfold redX; rw [h]
theorem redX_none {a : Aut} (h : subT a = none) : redX a = .error 13 := by unfold redX; rw [h]
theorem aReduced_big (a : Aut) (hl : a.moves.length ≤ 1000000) (hb : 2000 < a.n ∨ 20000 < a.moves.length) : AF Tryd.prog 19 [pAut a] (· = .tup [rawZ, pInt 13]) := by
 refine AF.of_body 28 Tryd.func19 rfl Tryd.ntmps19 (Nat.le_of_ble_eq_true rfl) ?_
 intro w0 M0 vs hl hv
 obtain ⟨v0, rfl⟩ := len1 hl
 clear hl hv
 refine nav ?_
 (refine aC_region ?_ <;> refine s_boxa 1 5 fun h1 => ?_ <;> refine s_alloc [(.int .i64 0), (.int .i64 0), (.slice none 0 0), (.slice none 0 0), (.slice none 0 0)] 5 2 tZr25_LfD fun h2 => ?_ <;> refine xL 3 q_assign ?_ <;> refine aL_end (nav ?_) <;> try dsimp only)
 (refine aC_region ?_ <;> refine xL 6 (q_fldo 1 tFl25_0_LdI) ?_ <;> (refine yL 7 (q_ldo 1 tNa3_LbB) fun v7 hv7 => ?_; cases hv7) <;> refine xL 8 q_gtr ?_ <;> refine xL 9 q_move ?_ <;> (refine bLd 9 (fun hb9 => ?_) (fun hb9 => ?_) <;> (first | refine kL 10 ?_ | refine xL 10 (q_fldo 1 tFl25_4_LdI) ?_)) <;> (first | refine kL 11 ?_ | (refine yL 11 (q_ldo 1 tNa23_LdI) fun v11 hv11 => ?_; cases hv11)) <;> (first | refine kL 12 ?_ | refine xL 12 (q_len tSl23_LdI) ?_) <;> (first | refine kL 13 ?_ | refine xL 13 q_gtr ?_) <;> refine xL 14 q_pick ?_ <;> refine aL_end (nav ?_) <;> try dsimp only) <;> (
  (first | refine cCd ?_ ?_ | refine cC ?_ ?_) <;> intro hb14
  · refine nav ?_
    (refine aC_region ?_ <;> refine xL 15 (q_build tSt25_LfD) ?_ <;> refine s_sta 2 tAgg25_LdS ?_ <;> refine xL 3 q_assign ?_ <;> refine aL_end (nav ?_) <;> try dsimp only)
    exact ret_cs (k := 5) 2 (by kernel_rfl) (Tryd.results19) rfl rfl rfl (Nat.le_of_ble_eq_true rfl) (by decide) rfl rfl
  · exfalso
    first
     | omega
     | (simp at hb14; done)
     | (simp at hb14; omega))
theorem aReduced_none (a : Aut) (h : AOk a) (hs : subT a = none) : AF Tryd.prog 19 [pAut a] (· = .tup [rawZ, pInt 13]) := by
 have hn1 := h.n1
 have hml := h.ml
 have hS : AF Tryd.prog 34 [pAut a] (fun p => ∃ i : { i : Value × Value × Value // i.1.oneCell' = true ∧ i.2.1.oneCell' = true ∧ i.2.2.oneCell' = true }, p = .tup [.agg [.val i.1.1, .val i.1.2.1, .val i.1.2.2], pBool false]) := (aSubsets_e a h).mono fun p hp => by
  rcases hp with ⟨t, h1, _⟩ | ⟨_, u1, u2, u3, o1, o2, o3, h2⟩
  · rw [hs] at h1; cases h1
  · exact ⟨⟨(u1, u2, u3), o1, o2, o3⟩, h2⟩
 refine AF.of_body 28 Tryd.func19 rfl Tryd.ntmps19 (Nat.le_of_ble_eq_true rfl) ?_
 intro w0 M0 vs hl hv
 obtain ⟨v0, rfl⟩ := len1 hl
 clear hl hv
 refine nav ?_
 (refine aC_region ?_ <;> refine s_boxa 1 5 fun h1 => ?_ <;> refine s_alloc [(.int .i64 0), (.int .i64 0), (.slice none 0 0), (.slice none 0 0), (.slice none 0 0)] 5 2 tZr25_LfD fun h2 => ?_ <;> refine xL 3 q_assign ?_ <;> refine aL_end (nav ?_) <;> try dsimp only)
 (refine aC_region ?_ <;> refine xL 6 (q_fldo 1 tFl25_0_LdI) ?_ <;> (refine yL 7 (q_ldo 1 tNa3_LbB) fun v7 hv7 => ?_; cases hv7) <;> refine xL 8 q_gtr ?_ <;> refine xL 9 q_move ?_ <;> (refine bLd 9 (fun hb9 => ?_) (fun hb9 => ?_) <;> (first | refine kL 10 ?_ | refine xL 10 (q_fldo 1 tFl25_4_LdI) ?_)) <;> (first | refine kL 11 ?_ | (refine yL 11 (q_ldo 1 tNa23_LdI) fun v11 hv11 => ?_; cases hv11)) <;> (first | refine kL 12 ?_ | refine xL 12 (q_len tSl23_LdI) ?_) <;> (first | refine kL 13 ?_ | refine xL 13 q_gtr ?_) <;> refine xL 14 q_pick ?_ <;> refine aL_end (nav ?_) <;> try dsimp only) <;> (
  (first | refine cCd ?_ ?_ | refine cC ?_ ?_) <;> intro hb14
  · exfalso
    first
     | omega
     | (simp at hb14; done)
     | (simp at hb14; omega)
  · refine nav ?_
    (refine aC_region ?_ <;> (refine yL 17 (q_ldao 1 tAgg25_LdS) fun v17 hv17 => ?_; cases hv17) <;> (refine cPx 18 (cA Tryd.call34 hS) (fun i va18 vb18 hva18 hvb18 => ?_) (fun _ => rfl); cases hvb18; obtain ⟨⟨u1, u2, u3⟩, o1, o2, o3⟩ := i; dsimp only at o1 o2 o3 hva18 ⊢; have q1 : En.one (PV.val u1) = true := o1; have q2 : En.one (PV.val u2) = true := o2; have q3 : En.one (PV.val u3) = true := o3) <;> refine xL 16 q_move ?_ <;> refine xL 19 q_extract ?_ <;> refine xL 20 q_extract ?_ <;> refine s_alloc [(.int .i64 0), (.slice none 0 0), (.slice none 0 0)] 3 4 tZr63_LfB fun h4 => ?_ <;> refine s_sta 4 tAgg63_LfB ?_ <;> refine xL 5 q_assign ?_ <;> refine aL_end (nav ?_) <;> try dsimp only)
    (refine aC_region ?_ <;> refine xL 21 q_move ?_ <;> refine xL 22 q_not ?_ <;> refine aL_end (nav ?_) <;> try dsimp only)
    refine cCt ?_
    refine nav ?_
    (refine aC_region ?_ <;> refine xL 23 (q_build tSt25_LfD) ?_ <;> refine s_sta 2 tAgg25_LdS ?_ <;> refine xL 3 q_assign ?_ <;> refine aL_end (nav ?_) <;> try dsimp only)
    exact ret_cs (k := 5) 2 (by kernel_rfl) (Tryd.results19) rfl rfl rfl (Nat.le_of_ble_eq_true rfl) (by decide) rfl rfl)
theorem aReduced_ok (a : Aut) (h : AOk a) {t : Tab} (hs : subT a = some t) {A : Aut} (hm : AF Tryd.prog 35 [pTab t] (· = .tup [pAut A, pInt 0])) : AF Tryd.prog 19 [pAut a] (· = .tup [pAut A, pInt 0]) := by
 have hn1 := h.n1
 have hml := h.ml
 have hS : AF Tryd.prog 34 [pAut a] (· = .tup [pTab t, pBool true]) := (aSubsets_e a h).mono fun p hp => by
  rcases hp with ⟨t', h1, h2⟩ | ⟨h1, _⟩
  · rw [hs] at h1; cases h1; exact h2
  · rw [hs] at h1; cases h1
 refine AF.of_body 28 Tryd.func19 rfl Tryd.ntmps19 (Nat.le_of_ble_eq_true rfl) ?_
 intro w0 M0 vs hl hv
 obtain ⟨v0, rfl⟩ := len1 hl
 clear hl hv
 refine nav ?_
 (refine aC_region ?_ <;> refine s_boxa 1 5 fun h1 => ?_ <;> refine s_alloc [(.int .i64 0), (.int .i64 0), (.slice none 0 0), (.slice none 0 0), (.slice none 0 0)] 5 2 tZr25_LfD fun h2 => ?_ <;> refine xL 3 q_assign ?_ <;> refine aL_end (nav ?_) <;> try dsimp only)
 (refine aC_region ?_ <;> refine xL 6 (q_fldo 1 tFl25_0_LdI) ?_ <;> (refine yL 7 (q_ldo 1 tNa3_LbB) fun v7 hv7 => ?_; cases hv7) <;> refine xL 8 q_gtr ?_ <;> refine xL 9 q_move ?_ <;> (refine bLd 9 (fun hb9 => ?_) (fun hb9 => ?_) <;> (first | refine kL 10 ?_ | refine xL 10 (q_fldo 1 tFl25_4_LdI) ?_)) <;> (first | refine kL 11 ?_ | (refine yL 11 (q_ldo 1 tNa23_LdI) fun v11 hv11 => ?_; cases hv11)) <;> (first | refine kL 12 ?_ | refine xL 12 (q_len tSl23_LdI) ?_) <;> (first | refine kL 13 ?_ | refine xL 13 q_gtr ?_) <;> refine xL 14 q_pick ?_ <;> refine aL_end (nav ?_) <;> try dsimp only) <;> (
  (first | refine cCd ?_ ?_ | refine cC ?_ ?_) <;> intro hb14
  · exfalso
    first
     | omega
     | (simp at hb14; done)
     | (simp at hb14; omega)
  · refine nav ?_
    (refine aC_region ?_ <;> (refine yL 17 (q_ldao 1 tAgg25_LdS) fun v17 hv17 => ?_; cases hv17) <;> (refine cP 18 (cA Tryd.call34 (hS)) fun va18 vb18 hva18 hvb18 => ?_; cases hvb18) <;> refine xL 16 q_move ?_ <;> refine xL 19 q_extract ?_ <;> refine xL 20 q_extract ?_ <;> refine s_alloc [(.int .i64 0), (.slice none 0 0), (.slice none 0 0)] 3 4 tZr63_LfB fun h4 => ?_ <;> refine s_sta 4 tAgg63_LfB ?_ <;> refine xL 5 q_assign ?_ <;> refine aL_end (nav ?_) <;> try dsimp only)
    (refine aC_region ?_ <;> refine xL 21 q_move ?_ <;> refine xL 22 q_not ?_ <;> refine aL_end (nav ?_) <;> try dsimp only)
    refine cCf ?_
    refine nav ?_
    (refine aC_region ?_ <;> (refine yL 24 (q_ldao 4 tAgg63_LfB) fun v24 hv24 => ?_; cases hv24) <;> (refine cP 25 (cA Tryd.call35 (hm)) fun va25 vb25 hva25 hvb25 => ?_; cases hvb25) <;> refine xL 26 q_extract ?_ <;> refine xL 27 q_extract ?_ <;> refine s_sta 2 tAgg25_LdS ?_ <;> refine xL 3 q_assign ?_ <;> refine aL_end (nav ?_) <;> try dsimp only)
    exact ret_cs (k := 5) 2 (by kernel_rfl) (Tryd.results19) rfl rfl rfl (Nat.le_of_ble_eq_true rfl) (by decide) rfl rfl)
theorem aReduced_lim (a : Aut) (h : AOk a) {t : Tab} (hs : subT a = some t) (hm : AF Tryd.prog 35 [pTab t] (· = .tup [rawZ, pInt 13])) : AF Tryd.prog 19 [pAut a] (· = .tup [rawZ, pInt 13]) := by
 have hn1 := h.n1
 have hml := h.ml
 have hS : AF Tryd.prog 34 [pAut a] (· = .tup [pTab t, pBool true]) := (aSubsets_e a h).mono fun p hp => by
  rcases hp with ⟨t', h1, h2⟩ | ⟨h1, _⟩
  · rw [hs] at h1; cases h1; exact h2
  · rw [hs] at h1; cases h1
 refine AF.of_body 28 Tryd.func19 rfl Tryd.ntmps19 (Nat.le_of_ble_eq_true rfl) ?_
 intro w0 M0 vs hl hv
 obtain ⟨v0, rfl⟩ := len1 hl
 clear hl hv
 refine nav ?_
 (refine aC_region ?_ <;> refine s_boxa 1 5 fun h1 => ?_ <;> refine s_alloc [(.int .i64 0), (.int .i64 0), (.slice none 0 0), (.slice none 0 0), (.slice none 0 0)] 5 2 tZr25_LfD fun h2 => ?_ <;> refine xL 3 q_assign ?_ <;> refine aL_end (nav ?_) <;> try dsimp only)
 (refine aC_region ?_ <;> refine xL 6 (q_fldo 1 tFl25_0_LdI) ?_ <;> (refine yL 7 (q_ldo 1 tNa3_LbB) fun v7 hv7 => ?_; cases hv7) <;> refine xL 8 q_gtr ?_ <;> refine xL 9 q_move ?_ <;> (refine bLd 9 (fun hb9 => ?_) (fun hb9 => ?_) <;> (first | refine kL 10 ?_ | refine xL 10 (q_fldo 1 tFl25_4_LdI) ?_)) <;> (first | refine kL 11 ?_ | (refine yL 11 (q_ldo 1 tNa23_LdI) fun v11 hv11 => ?_; cases hv11)) <;> (first | refine kL 12 ?_ | refine xL 12 (q_len tSl23_LdI) ?_) <;> (first | refine kL 13 ?_ | refine xL 13 q_gtr ?_) <;> refine xL 14 q_pick ?_ <;> refine aL_end (nav ?_) <;> try dsimp only) <;> (
  (first | refine cCd ?_ ?_ | refine cC ?_ ?_) <;> intro hb14
  · exfalso
    first
     | omega
     | (simp at hb14; done)
     | (simp at hb14; omega)
  · refine nav ?_
    (refine aC_region ?_ <;> (refine yL 17 (q_ldao 1 tAgg25_LdS) fun v17 hv17 => ?_; cases hv17) <;> (refine cP 18 (cA Tryd.call34 (hS)) fun va18 vb18 hva18 hvb18 => ?_; cases hvb18) <;> refine xL 16 q_move ?_ <;> refine xL 19 q_extract ?_ <;> refine xL 20 q_extract ?_ <;> refine s_alloc [(.int .i64 0), (.slice none 0 0), (.slice none 0 0)] 3 4 tZr63_LfB fun h4 => ?_ <;> refine s_sta 4 tAgg63_LfB ?_ <;> refine xL 5 q_assign ?_ <;> refine aL_end (nav ?_) <;> try dsimp only)
    (refine aC_region ?_ <;> refine xL 21 q_move ?_ <;> refine xL 22 q_not ?_ <;> refine aL_end (nav ?_) <;> try dsimp only)
    refine cCf ?_
    refine nav ?_
    (refine aC_region ?_ <;> (refine yL 24 (q_ldao 4 tAgg63_LfB) fun v24 hv24 => ?_; cases hv24) <;> (refine cP 25 (cA Tryd.call35 (hm)) fun va25 vb25 hva25 hvb25 => ?_; cases hvb25) <;> refine xL 26 q_extract ?_ <;> refine xL 27 q_extract ?_ <;> refine s_sta 2 tAgg25_LdS ?_ <;> refine xL 3 q_assign ?_ <;> refine aL_end (nav ?_) <;> try dsimp only)
    exact ret_cs (k := 5) 2 (by kernel_rfl) (Tryd.results19) rfl rfl rfl (Nat.le_of_ble_eq_true rfl) (by decide) rfl rfl)
theorem aReduced_x (a : Aut) (h : AOk a) : AF Tryd.prog 19 [pAut a] (· = resW (redX a)) := by
 rcases hs : subT a with _ | t
 · rw [redX_none hs]; exact aReduced_none a h hs
 · have hm := aMinimal_e t (sub_tok h hs)
   rw [redX_some hs]
   rcases lim_cases (leastT t) with ⟨A, _, h2⟩ | ⟨_, h2⟩
   · rw [h2] at hm ⊢; exact aReduced_ok a h hs hm
   · rw [h2] at hm ⊢; exact aReduced_lim a h hs hm
theorem aReduced_e (a : Aut) (hl : a.moves.length ≤ 1000000) (h : ¬ (2000 < a.n ∨ 20000 < a.moves.length) → AOk a) : AF Tryd.prog 19 [pAut a] (· = resW (redL a)) := by
 by_cases hb : 2000 < a.n ∨ 20000 < a.moves.length
 · rw [redL_big hb]; exact aReduced_big a hl hb
 · rw [redL_in hb]; exact aReduced_x a (h hb)
theorem leastT_some {t : Tab} {A : Aut} (h : leastT t = some A) : ∃ o rows, (minW t).all 0 = some (o, rows) ∧ A = autQ t (o, rows) ∧ (movesT rows).length ≤ 20000 := by
 unfold leastT at h
 obtain ⟨⟨o, rows⟩, h1, h2⟩ := Option.bind_eq_some_iff.1 h
 dsimp only at h2
 split at h2
 · cases h2
 · cases h2
   exact ⟨o, rows, h1, rfl, by omega⟩
structure Fin (t : Tab) (o : List Nat) (rows : List (List Nat)) : Prop where
 ok : (minW t).Ok (· < t.rows.length) 0 o rows
 len : rows.length = o.length
 n1 : o.length ≤ 2000
 pos : 0 < o.length
theorem fin_of {t : Tab} (h : TOk t) {o : List Nat} {rows : List (List Nat)} (hu : (minW t).all 0 = some (o, rows)) : Fin t o rows := by
 obtain ⟨h1, _, h3⟩ := min_ok h hu
 have hc : o.length ≤ t.rows.length := h1.cap
 have := h.n1
 exact ⟨h1, h3 hc, by omega, h1.pos⟩
theorem mem_rowMv {i : Nat} {r : List Nat} {m : Mv} (h : m ∈ rowMv i r) : ∃ n s : Nat, r[s]? = some n ∧ m = ⟨(i : Nat), (n : Nat), (s : Nat)⟩ := by
 unfold rowMv at h
 obtain ⟨p, hp, rfl⟩ := List.mem_map.1 h
 exact ⟨p.1, p.2, by have := List.mem_zipIdx_iff_getElem?.1 hp; exact this, rfl⟩
theorem mem_movesT {rows : List (List Nat)} {m : Mv} (h : m ∈ movesT rows) : ∃ (i s n : Nat) (r : List Nat), rows[i]? = some r ∧ r[s]? = some n ∧ m = ⟨(i : Nat), (n : Nat), (s : Nat)⟩ := by
 unfold movesT at h
 obtain ⟨p, hp, hm⟩ := List.mem_flatMap.1 h
 obtain ⟨n, s, h1, h2⟩ := mem_rowMv hm
 exact ⟨p.2, s, n, p.1, List.mem_zipIdx_iff_getElem?.1 hp, h1, h2⟩
theorem autQ_aok {t : Tab} (ht : TOk t) {o : List Nat} {rows : List (List Nat)} (h : Fin t o rows) (hm : (movesT rows).length ≤ 20000) : AOk (autQ t (o, rows)) := by
 have hp := h.pos
 have hn := h.n1
 have hm1 := ht.m1
 have hll := listedL_len o.length (finAt t o)
 refine ⟨by show (0 : Int) ≤ (o.length : Nat); omega, by show ((o.length : Nat) : Int) ≤ 2000; omega, by show (0 : Int) ≤ (t.m : Nat); omega, by show ((t.m : Nat) : Int) ≤ 40; omega, hm, fun s hs => ?_, fun s hs => ?_, by show [(0 : Int)].length ≤ 2000; simp, by show (listedL o.length (finAt t o)).length ≤ 2000; omega, fun m hmm => ?_⟩
 · rw [show s = 0 from List.mem_singleton.1 hs]
   exact ⟨Int.le_refl _, by show (0 : Int) < (o.length : Nat); omega⟩
 · obtain ⟨h1, h2, _⟩ := listedL_mem.1 hs
   exact ⟨h1, h2⟩
 · obtain ⟨i, s, n, r, h1, h2, rfl⟩ := mem_movesT hmm
   have h3 : i < rows.length := lt_of_get h1
   have h4 := lt_of_get h2
   have h5 : r.length = t.m := h.ok.len r (List.mem_of_getElem? h1)
   obtain ⟨x, hx⟩ := get_some (show i < o.length by rw [← h.len]; exact h3)
   have h6 := (h.ok.to i x r s n hx h1 h2).1
   have h7 := h.len
   refine ⟨by show (0 : Int) ≤ (i : Nat); omega, by show ((i : Nat) : Int) < (o.length : Nat); omega, by show (0 : Int) ≤ (n : Nat); omega, by show ((n : Nat) : Int) < (o.length : Nat); omega, by show (-1 : Int) ≤ (s : Nat); omega, by show ((s : Nat) : Int) < (t.m : Nat); omega⟩
theorem redX_ok {a A : Aut} (h : AOk a) (hr : redX a = .ok A) : ∃ t o rows, subT a = some t ∧ TOk t ∧ (minW t).all 0 = some (o, rows) ∧ Fin t o rows ∧ A = autQ t (o, rows) ∧ (movesT rows).length ≤ 20000 := by
 unfold redX at hr
 split at hr
 · rename_i t ht
   cases hl : leastT t with
   | none => rw [hl] at hr; cases hr
   | some B =>
     rw [hl] at hr; cases hr
     obtain ⟨o, rows, h1, h2, h3⟩ := leastT_some hl
     have hT := sub_tok h ht
     exact ⟨t, o, rows, ht, hT, h1, fin_of hT h1, h2, h3⟩
 · cases hr
theorem minX_ok {a A : Aut} (h : minX a = .ok A) : autOk a = true ∧ redX a = .ok A := by
 unfold minX at h
 split at h
 · rename_i h1; exact ⟨h1, h⟩
 · cases h
theorem rr_rawZ (e : Int) : Rr (.tup [rawZ, pInt e]) (.tup [pAut autZ, pInt e]) := Rr.tup2 (Rr.agg rfl fun i p p' h1 h2 => by
 match i with
 | 0 => cases h1; cases h2; exact Rr.rfl' _
 | 1 => cases h1; cases h2; exact Rr.rfl' _
 | 2 => cases h1; cases h2; exact Rr.nil
 | 3 => cases h1; cases h2; exact Rr.nil
 | 4 => cases h1; cases h2; exact Rr.nil
 | i + 5 => simp at h1)
theorem resW_A {P : Program} {f : Nat} {ps : List PV} {x : Except Int Aut} (h : AF P f ps (· = resW x)) : AF P f ps (· = resA x) := by
 cases x with
 | ok A => exact h
 | error e => exact h.reread rfl (rr_rawZ e)
theorem aMinimalW_bad (a : Aut) (hv : autOk a = false) : AF Tryd.prog 6 [pAut a] (· = .tup [rawZ, pInt 1]) := by
 refine AF.of_body 12 Tryd.func6 rfl Tryd.ntmps6 (Nat.le_of_ble_eq_true rfl) ?_
 intro w0 M0 vs hl hv
 obtain ⟨v0, rfl⟩ := len1 hl
 clear hl hv
 refine nav ?_
 (refine aC_region ?_ <;> refine s_boxa 1 5 fun h1 => ?_ <;> refine s_alloc [(.int .i64 0), (.int .i64 0), (.slice none 0 0), (.slice none 0 0), (.slice none 0 0)] 5 2 tZr25_LfD fun h2 => ?_ <;> refine xL 3 q_assign ?_ <;> refine aL_end (nav ?_) <;> try dsimp only)
 (refine aC_region ?_ <;> (refine yL 4 (q_ldao 1 tAgg25_LdS) fun v4 hv4 => ?_; cases hv4) <;> (refine cS 5 (cA Tryd.call18 (aValid_e a)) fun v5 hv5 => ?_; cases hv5) <;> refine xL 6 q_not ?_ <;> refine aL_end (nav ?_) <;> try dsimp only)
 (first | refine cCd ?_ ?_ | refine cC ?_ ?_) <;> intro hb6
 · refine nav ?_
   (refine aC_region ?_ <;> refine xL 7 (q_build tSt25_LfD) ?_ <;> refine s_sta 2 tAgg25_LdS ?_ <;> refine xL 3 q_assign ?_ <;> refine aL_end (nav ?_) <;> try dsimp only)
   exact ret_cs (k := 5) 2 (by kernel_rfl) (Tryd.results6) rfl rfl rfl (Nat.le_of_ble_eq_true rfl) (by decide) rfl rfl
 · rw [hv] at hb6; simp at hb6
theorem aMinimalW_ok (a : Aut) (hv : autOk a = true) {A : Aut} (hm : AF Tryd.prog 19 [pAut a] (· = .tup [pAut A, pInt 0])) : AF Tryd.prog 6 [pAut a] (· = .tup [pAut A, pInt 0]) := by
 refine AF.of_body 12 Tryd.func6 rfl Tryd.ntmps6 (Nat.le_of_ble_eq_true rfl) ?_
 intro w0 M0 vs hl hv
 obtain ⟨v0, rfl⟩ := len1 hl
 clear hl hv
 refine nav ?_
 (refine aC_region ?_ <;> refine s_boxa 1 5 fun h1 => ?_ <;> refine s_alloc [(.int .i64 0), (.int .i64 0), (.slice none 0 0), (.slice none 0 0), (.slice none 0 0)] 5 2 tZr25_LfD fun h2 => ?_ <;> refine xL 3 q_assign ?_ <;> refine aL_end (nav ?_) <;> try dsimp only)
 (refine aC_region ?_ <;> (refine yL 4 (q_ldao 1 tAgg25_LdS) fun v4 hv4 => ?_; cases hv4) <;> (refine cS 5 (cA Tryd.call18 (aValid_e a)) fun v5 hv5 => ?_; cases hv5) <;> refine xL 6 q_not ?_ <;> refine aL_end (nav ?_) <;> try dsimp only)
 (first | refine cCd ?_ ?_ | refine cC ?_ ?_) <;> intro hb6
 · rw [hv] at hb6; simp at hb6
 · refine nav ?_
   (refine aC_region ?_ <;> (refine yL 8 (q_ldao 1 tAgg25_LdS) fun v8 hv8 => ?_; cases hv8) <;> (refine cP 9 (cA Tryd.call19 (hm)) fun va9 vb9 hva9 hvb9 => ?_; cases hvb9) <;> refine xL 10 q_extract ?_ <;> refine xL 11 q_extract ?_ <;> refine s_sta 2 tAgg25_LdS ?_ <;> refine xL 3 q_assign ?_ <;> refine aL_end (nav ?_) <;> try dsimp only)
   exact ret_cs (k := 5) 2 (by kernel_rfl) (Tryd.results6) rfl rfl rfl (Nat.le_of_ble_eq_true rfl) (by decide) rfl rfl
theorem aMinimalW_err (a : Aut) (hv : autOk a = true) {e : Int} (hm : AF Tryd.prog 19 [pAut a] (· = .tup [rawZ, pInt e])) : AF Tryd.prog 6 [pAut a] (· = .tup [rawZ, pInt e]) := by
 refine AF.of_body 12 Tryd.func6 rfl Tryd.ntmps6 (Nat.le_of_ble_eq_true rfl) ?_
 intro w0 M0 vs hl hv
 obtain ⟨v0, rfl⟩ := len1 hl
 clear hl hv
 refine nav ?_
 (refine aC_region ?_ <;> refine s_boxa 1 5 fun h1 => ?_ <;> refine s_alloc [(.int .i64 0), (.int .i64 0), (.slice none 0 0), (.slice none 0 0), (.slice none 0 0)] 5 2 tZr25_LfD fun h2 => ?_ <;> refine xL 3 q_assign ?_ <;> refine aL_end (nav ?_) <;> try dsimp only)
 (refine aC_region ?_ <;> (refine yL 4 (q_ldao 1 tAgg25_LdS) fun v4 hv4 => ?_; cases hv4) <;> (refine cS 5 (cA Tryd.call18 (aValid_e a)) fun v5 hv5 => ?_; cases hv5) <;> refine xL 6 q_not ?_ <;> refine aL_end (nav ?_) <;> try dsimp only)
 (first | refine cCd ?_ ?_ | refine cC ?_ ?_) <;> intro hb6
 · rw [hv] at hb6; simp at hb6
 · refine nav ?_
   (refine aC_region ?_ <;> (refine yL 8 (q_ldao 1 tAgg25_LdS) fun v8 hv8 => ?_; cases hv8) <;> (refine cP 9 (cA Tryd.call19 (hm)) fun va9 vb9 hva9 hvb9 => ?_; cases hvb9) <;> refine xL 10 q_extract ?_ <;> refine xL 11 q_extract ?_ <;> refine s_sta 2 tAgg25_LdS ?_ <;> refine xL 3 q_assign ?_ <;> refine aL_end (nav ?_) <;> try dsimp only)
   exact ret_cs (k := 5) 2 (by kernel_rfl) (Tryd.results6) rfl rfl rfl (Nat.le_of_ble_eq_true rfl) (by decide) rfl rfl
theorem aMinimalW_e (a : Aut) : AF Tryd.prog 6 [pAut a] (· = resW (minX a)) := by
 unfold minX
 cases hv : autOk a with
 | false => rw [if_neg (by simp)]; exact aMinimalW_bad a hv
 | true =>
   rw [if_pos rfl]
   have hm := aReduced_x a (aok_of hv)
   rcases res_cases (redX a) with ⟨A, _, h2⟩ | ⟨e, _, h2⟩
   · rw [h2] at hm ⊢; exact aMinimalW_ok a hv hm
   · rw [h2] at hm ⊢; exact aMinimalW_err a hv hm
end Go.Proofs.YtgigclnaicbiaaaDoor
namespace Go.En
open Go.RowKit Go.Cb
set_option linter.all false
section
variable {P : Program} {st : St} {o : Oper} {x y : Operand} {q q' : PV} {t t' : TypeId}
end
section
variable {P : Program} {c : Ctx} {sL hP : List (Nat × Ent)}
theorem ret_hcs {fn : Func} {R : Value → PV → List (Nat × Ent) → Prop} {t ty s k e k' n : Nat} {h u : Value} {q p : PV} {cs : List PV} (l : Nat) (H' : List (Nat × Ent)) (hT : AggT P ty k = true) (hr : fn.results = #[.cell t ty, .tmp s]) (ht : lk sL t = some (padd (sbase h) 0, q)) (hl : lk hP l = some (h, .own e k' n cs)) (hs : lk sL s = some (u, p)) (hp : k ≤ cs.length) (hk : 0 < k) (hsh : (cs.take k).all isSh = true) (hsub : Sub H' hP) (hR : ∀ V : Value, R (.tuple [V, u].toArray) (.tup [.agg (cs.take k), p]) H') : aR c (bodyPost P fn (RetH c R)) (⟨sL, hP⟩ : St) := fun a w ⟨F, H⟩ => by
 obtain ⟨V, A, h0, h1, h2⟩ := cell_run H hT ht hl hp hk hsh
 obtain ⟨h3, h4⟩ := H.sl s _ _ hs
 have H2 : HoldsF c (⟨sL, H'⟩ : St) F a w := H.less (fun _ _ h => h) fun t x hx => hsub.lk hx
 have hM : ∀ b, b < w.heap.size → mof c H' F b → mof c hP F b := fun b _ hb => by
  rcases hb with hb | ⟨l, x, h1, h2⟩
  · exact .inl hb
  · exact .inr ⟨l, x, hsub.lk h1, h2⟩
 refine ⟨H.df, .tuple #[V, u], ?_, .tuple #[V, u], .tup [.agg (cs.take k), p], H', F, rfl, hR _, H2.toHeapF, .tup [V, u] _ rfl fun i v q' hv hq' => ?_⟩
 · simp only [results, hr]
   simp at h0
   simp [h0, h1, Array.getD_eq_getD_getElem?, h3]
 · match i with
   | 0 => simp at hv hq'; subst hv hq'; exact h2.anti hM
   | 1 => simp at hv hq'; subst hv hq'; exact h4.anti hM
   | i + 2 => simp at hv
end
end Go.En
namespace Go.Proofs.YtgigclnaicbiaaaDoor
open Go.RowKit Go.Cb Go.En
set_option linter.all false
set_option maxRecDepth 100000
section
variable {α : Type}
end
def Rel2 {α β : Type} (R : α → β → Prop) (o : List α) (o' : List β) : Prop := o.length = o'.length ∧ ∀ (i : Nat) (x : α) (y : β), o[i]? = some x → o'[i]? = some y → R x y
theorem Rel2.snoc {α β : Type} {R : α → β → Prop} {o : List α} {o' : List β} {x : α} {y : β} (h : Rel2 R o o') (hr : R x y) : Rel2 R (o ++ [x]) (o' ++ [y]) := by
 refine ⟨by rw [List.length_append, List.length_append, h.1]; rfl, fun i a b ha hb => ?_⟩
 rw [List.getElem?_append] at ha hb
 have hl := h.1
 split at ha
 · rename_i h1
   rw [if_pos (by omega)] at hb
   exact h.2 i a b ha hb
 · rename_i h1
   rw [if_neg (by omega)] at hb
   have h2 := lt_of_get ha
   simp only [List.length_singleton] at h2
   have h3 : i = o.length := by omega
   rw [h3, Nat.sub_self] at ha
   rw [show i - o'.length = 0 by omega] at hb
   simp only [List.getElem?_cons_zero, Option.some.injEq] at ha hb
   rw [← ha, ← hb]; exact hr
section
variable {α β κ κ' : Type} [DecidableEq κ] [DecidableEq κ']
theorem posK_sim {f : α → κ} {g : β → κ'} {k : κ} {k' : κ'} : ∀ {o : List α} {o' : List β}, o.length = o'.length → (∀ (i : Nat) (x : α) (y : β), o[i]? = some x → o'[i]? = some y → (f x = k ↔ g y = k')) → posK f o k = posK g o' k'
 | [], [], _, _ => rfl
 | [], _ :: _, h, _ => by simp at h
 | _ :: _, [], h, _ => by simp at h
 | x :: o, y :: o', h, hk => by
   have h0 := hk 0 x y rfl rfl
   have ih := posK_sim (f := f) (g := g) (k := k) (k' := k') (o := o) (o' := o') (by simpa using h) fun i a b ha hb => hk (i + 1) a b (by simpa using ha) (by simpa using hb)
   rw [posK, posK, ih]
   by_cases e : f x = k
   · rw [if_pos e, if_pos (h0.1 e)]
   · rw [if_neg e, if_neg fun e2 => e (h0.2 e2)]
variable {W : Srch α κ} {W' : Srch β κ'} {R : α → β → Prop}
theorem Srch.sim_row (hc : W.cap ≤ W'.cap) (hk : ∀ x x' y y', R x y → R x' y' → (W.key x = W.key x' ↔ W'.key y = W'.key y')) (hs : ∀ i x y s, R x y → s < W.m → R (W.step i x s) (W'.step i y s)) {i : Nat} {x : α} {y : β} (hxy : R x y) {o : List α} {o' : List β} (ho : Rel2 R o o') :
 ∀ {s : Nat} {p : List α} {r : List Nat}, s ≤ W.m → W.row i x o s = some (p, r) → ∃ p', W'.row i y o' s = some (p', r) ∧ Rel2 R p p'
 | 0, p, r, _, h => by
   rw [Srch.row] at h; cases h
   exact ⟨o', rfl, ho⟩
 | s + 1, p, r, hsm, h => by
   rw [Srch.row, Option.bind_eq_some_iff] at h
   obtain ⟨⟨p1, r1⟩, h1, h2⟩ := h
   obtain ⟨⟨p2, n⟩, h3, h4⟩ := Option.map_eq_some_iff.1 h2
   cases h4
   dsimp only at h3 ⊢
   obtain ⟨p1', h5, h6⟩ := Srch.sim_row hc hk hs hxy ho (by omega) h1
   have hst := hs i x y s hxy (by omega)
   have hpos : posK W.key p1 (W.key (W.step i x s)) = posK W'.key p1' (W'.key (W'.step i y s)) := posK_sim h6.1 fun j a b ha hb => hk a _ b _ (h6.2 j a b ha hb) hst
   by_cases hp : posK W.key p1 (W.key (W.step i x s)) < p1.length
   · rw [visit_old hp] at h3; cases h3
     have hp' : posK W'.key p1' (W'.key (W'.step i y s)) < p1'.length := by rw [← hpos, ← h6.1]; exact hp
     exact ⟨p1', by rw [Srch.row_snoc h5 (visit_old hp'), hpos], h6⟩
   · have hp' : ¬ posK W'.key p1' (W'.key (W'.step i y s)) < p1'.length := by rw [← hpos, ← h6.1]; exact hp
     by_cases hcap : p1.length < W.cap
     · rw [visit_new hp hcap] at h3; cases h3
       exact ⟨p1' ++ [W'.step i y s], by rw [Srch.row_snoc h5 (visit_new hp' (by have := h6.1; omega)), h6.1], h6.snoc hst⟩
     · rw [visit_no hp (by omega)] at h3; cases h3
theorem Srch.sim (hm : W.m = W'.m) (hc : W.cap ≤ W'.cap) (hk : ∀ x x' y y', R x y → R x' y' → (W.key x = W.key x' ↔ W'.key y = W'.key y')) (hs : ∀ i x y s, R x y → s < W.m → R (W.step i x s) (W'.step i y s)) {x0 : α} {y0 : β} (h0 : R x0 y0) :
 ∀ {i : Nat} {o : List α} {rows : List (List Nat)}, W.upto x0 i = some (o, rows) → ∃ o', W'.upto y0 i = some (o', rows) ∧ Rel2 R o o'
 | 0, o, rows, h => by
   rw [Srch.upto] at h; cases h
   refine ⟨[y0], rfl, rfl, fun i x y hx hy => ?_⟩
   match i with
   | 0 => simp at hx hy; subst hx hy; exact h0
   | i + 1 => simp at hx
 | i + 1, o, rows, h => by
   rw [Srch.upto, Option.bind_eq_some_iff] at h
   obtain ⟨⟨o1, rows1⟩, h1, h2⟩ := h
   obtain ⟨o1', h3, h4⟩ := Srch.sim hm hc hk hs h0 h1
   dsimp only at h2
   cases hx : o1[i]? with
   | none =>
     rw [hx] at h2; cases h2
     have h5 := List.getElem?_eq_none_iff.1 hx
     exact ⟨o1', Srch.upto_stop h3 (by dsimp only; have := h4.1; omega) 1, h4⟩
   | some x =>
     rw [hx] at h2
     obtain ⟨⟨o2, r⟩, h5, h6⟩ := Option.map_eq_some_iff.1 h2
     cases h6
     have hil := lt_of_get hx
     obtain ⟨y, hy⟩ := get_some (show i < o1'.length by have := h4.1; omega)
     obtain ⟨p', h7, h8⟩ := Srch.sim_row hc hk hs (h4.2 i x y hx hy) h4 (Nat.le_refl _) h5
     rw [hm] at h7
     exact ⟨p', Srch.upto_snoc h3 hy h7, h8⟩
end
section
variable {κ κ' : Type} [DecidableEq κ] [DecidableEq κ']
end
theorem finB_Q {t : Tab} {o : List Nat} {rows : List (List Nat)} {i : Nat} (hi : i < o.length) : finB (autQ t (o, rows)) (i : Nat) = finAt t o i := by
 rw [Bool.eq_iff_iff]
 have : finB (autQ t (o, rows)) (i : Nat) = true ↔ ((i : Nat) : Int) ∈ listedL o.length (finAt t o) := by
  show hasI (listedL o.length (finAt t o)) (i : Nat) = true ↔ _
  exact hasI_iff
 rw [this, listedL_mem, Int.toNat_natCast]
 constructor
 · exact fun h => h.2.2
 · exact fun h => ⟨by omega, by omega, h⟩
theorem listedL_congr2 {f g : Nat → Bool} : ∀ n : Nat, (∀ i, i < n → f i = g i) → listedL n f = listedL n g
 | 0, _ => rfl
 | n + 1, h => by rw [listedL_snoc, listedL_snoc, listedL_congr2 n fun i hi => h i (by omega), h n (by omega)]
theorem aL_sort0 {P : Program} {c : Ctx} {sL hP : List (Nat × Ent)} {ops : Array Oper} {Q : Exit → Act → World → Prop} {o : Oper} {rest : List Oper} {fs g k e d l : Nat} {cs : List PV} {h : Value} {q q' : PV} {x y : Operand} {ats : Array TypeId} (hS : ∀ (p : Option Addr) (cap : Nat) (fv : Value) (w : World), Calls P fs #[.slice p 0 cap, fv] w fun e w' => e = .returned (.tuple #[]) ∧ w' = w)
 (hw : wants ops sL o = some true) (hd : o.dst = some d) (hdn : d < c.nt) (ho : o.op = .call { callee := .value (.func fs), args := #[x, y], argTypes := ats }) (hc : ∀ args w, (callFunc fs args).run P w = .ok (.enter fs args) w) (hx : ev sL x = some (h, q)) (hy : ev sL y = some (.func (.func g) #[] #[], q')) (hl : lk hP l = some (h, .own e k 0 cs))
 (kk : aL P c ops Q rest ⟨put d (.tuple #[], .val (.tuple #[])) sL, hP⟩) : aL P c ops Q (o :: rest) (⟨sL, hP⟩ : St) :=
 aL_run hw fun a w F H => by
  have hxv := (H.rd.ev hx).1
  have hyv := (H.rd.ev hy).1
  obtain ⟨xs, Fs, hrow, _⟩ := (H.tr l _ _ hl).row
  obtain ⟨p, cap, rfl⟩ : ∃ p cap, h = .slice p 0 cap := by
   rcases row_form hrow with ⟨h1, _⟩ | ⟨g, cap, h1, _⟩
   · exact ⟨_, _, h1⟩
   · exact ⟨_, _, h1⟩
  unfold Oper.wp
  have hrun : (execOp a.eval o).run P w = .ok (.enter fs #[.slice p 0 cap, .func (.func g) #[] #[]]) w := by
   have hev : a.eval (.func fs) = .func (.func fs) #[] #[] := rfl
   simp [execOp, ho, resolve, Deferred.ofValue, hev, invoke, hxv, hyv, hc]
  rw [hrun, Oper.upon_enter]
  refine (hS p cap _ w).mono fun e' w' ⟨he', hw'⟩ => ?_
  subst he' hw'
  rw [hd]
  exact kk _ _ ⟨F, H.put hdn (.val _)⟩
theorem mvCmp_lt {a b : Mv} : mvCmp a b < 0 ↔ mvLt a b = true := by unfold mvLt; rw [decide_eq_true_eq]
theorem mvCmp_irr (a : Mv) : ¬ mvCmp a a < 0 := fun h => by have := mvCmp_lt.1 h; rw [mvLt_irr] at this; cases this
theorem mvCmp_tr (a b c : Mv) (h1 : mvCmp a b < 0) (h2 : mvCmp b c < 0) : mvCmp a c < 0 := mvCmp_lt.2 (mvLt_tr (mvCmp_lt.1 h1) (mvCmp_lt.1 h2))
theorem mvCmp_nt (a b c : Mv) (h1 : ¬ mvCmp a b < 0) (h2 : ¬ mvCmp b c < 0) : ¬ mvCmp a c < 0 := fun h => by
 rw [mvCmp_lt, mvLt_iff] at h1 h2 h
 omega
def Sorted (l : List Mv) : Prop := ∀ (i j : Nat) (a b : Mv), i < j → l[i]? = some a → l[j]? = some b → ¬ mvCmp b a < 0
theorem sorted_asc {l : List Mv} (h : Sorted l) (hn : l.Nodup) : AscM l := by
 unfold AscM
 rw [List.pairwise_iff_getElem]
 intro i j hi hj hij
 have h1 := h i j l[i] l[j] hij (List.getElem?_eq_getElem hi) (List.getElem?_eq_getElem hj)
 rw [mvCmp_lt] at h1
 cases h2 : mvLt l[i] l[j] with
 | true => rfl
 | false =>
   have h3 := mvLt_tri h2 (by simpa using h1)
   exact absurd (List.getElem_inj hn |>.1 h3) (by omega)
theorem asc_next {l : List Mv} (h : AscM l) {k : Nat} {x y : Mv} (hy : l[k]? = some y) (hx : l[k + 1]? = some x) : eqM x y = false := by
 have h1 := List.pairwise_iff_getElem.1 h k (k + 1) (lt_of_get hy) (lt_of_get hx) (by omega)
 rw [(List.getElem?_eq_some_iff.1 hy).2, (List.getElem?_eq_some_iff.1 hx).2] at h1
 cases h2 : eqM x y with
 | false => rfl
 | true => rw [eqM_iff.1 h2, mvLt_irr] at h1; cases h1
theorem uMvS : Tryd.prog.underlying 40 = some (.struct (Tryd.prog.fieldsOf 40)) := by kernel_rfl
theorem hMvS : Tryd.prog.stoodInHeld 40 = false := by kernel_rfl
theorem gMvS : Tryd.prog.eqGuardType Tryd.prog.depth 40 = false := by kernel_rfl
def vMv (m : Mv) : List Value := [Value.int .i64 m.src, .int .i64 m.dst, .int .i64 m.sym]
theorem eqMv_runG (x y : Mv) (w : World) : (Op.eqFields 9999 (vMv x).toArray (vMv y).toArray (Tryd.prog.fieldsOf 40).toList).run Tryd.prog w = .ok (eqM x y) w := by
 unfold vMv eqM
 simp only [Program.fieldsOf, Tryd.underlying40]
 simp [Op.eqFields, part, run_equalIn_int w 9998 3 .i64 .i64 x.src y.src Tryd.underlying3, run_equalIn_int w 9998 3 .i64 .i64 x.dst y.dst Tryd.underlying3, run_equalIn_int w 9998 3 .i64 .i64 x.sym y.sym Tryd.underlying3]
 by_cases h1 : x.src = y.src <;> by_cases h2 : x.dst = y.dst <;> by_cases h3 : x.sym = y.sym <;> simp [h1, h2, h3]
theorem cloneMv_e (l : List Mv) (hl : l.length ≤ 1000000) : AF Tryd.prog 29 [pMvs l] (· = .own 40 3 l.length (l.flatMap cMv)) := by
 refine AF.of_body 8 Tryd.func29 rfl Tryd.ntmps29 (Nat.le_of_ble_eq_true rfl) ?_
 intro w0 M0 vs hl hv
 obtain ⟨v0, rfl⟩ := len1 hl
 clear hl hv
 have f3 : (l.flatMap cMv).length = l.length * 3 := flat_len cMv_len l
 have f4 : (l.flatMap cMv).all En.one = true := cMv_one l
 refine nav ?_
 (refine aC_region ?_ <;> refine xL 2 q_assign ?_ <;> refine aL_end (nav ?_) <;> try dsimp only)
 (refine aC_region ?_ <;> refine xL 3 q_move ?_ <;> (refine yL 4 (q_eqnil tSl23_LdI) fun v4 hv4 => ?_; rcases hv4 with rfl | ⟨rfl, hn0⟩) <;> refine aL_end (nav ?_) <;> try dsimp only) <;> (
  (first | refine cCd ?_ ?_ | refine cC ?_ ?_) <;> intro hb4
  · first
    | exact Bool.noConfusion hb4
    | (
     refine nav ?_
     (refine aC_region ?_ <;> refine xL 2 q_assign ?_ <;> refine aL_end (nav ?_) <;> try dsimp only)
     have hl0 : l = [] := List.eq_nil_of_length_eq_zero hn0
     subst hl0
     refine aR_ent (nilOwn 200 40 3 rfl) fun _ => ?_
     exact ret_own 200 (Tryd.results29) rfl rfl rfl)
  · first
    | exact Bool.noConfusion hb4
    | (
     refine nav ?_
     (refine aC_region ?_ <;> refine s_lit0 5 tEl23_LdR fun h5 ho5 => ?_ <;> refine xL 6 q_move ?_ <;> refine s_apps 5 7 tEl23_LdR (fun h7 ho7 => ?_) f3 f4 <;> refine xL 2 q_assign ?_ <;> refine aL_end (nav ?_) <;> try dsimp only)
     refine ret_own 7 (Tryd.results29) rfl rfl ?_
     rw [Nat.zero_add, List.nil_append]))
theorem tAggMv : AggT Tryd.prog 40 3 = true := by kernel_rfl
theorem sortMv_c : SortC Tryd.prog 45 33 3 := fun enc hk h1 cf hO blk cap d w hcmp hH hblk hsz =>
 AnyQ.slices_SortFunc Tryd.sortMvL 3 (fun w => AggT.run tAggMv w) (fun w => AggT.size tAggMv w) enc hk h1 cf hO 33 #[] blk 0 cap d w (Tryd.call33) hcmp hH hblk hsz
theorem sortMv_none (p : Option Addr) (cap : Nat) (fv : Value) (w : World) : Calls Tryd.prog 45 #[.slice p 0 cap, fv] w fun e w' => e = .returned (.tuple #[]) ∧ w' = w := (AnyF.slices_SortFunc_none Tryd.sortMvL p cap fv w).mono fun e w' ⟨h1, h2⟩ => ⟨h1, h2⟩
theorem mv_exact2 (x y : Mv) (M : BS) (W : World) (u v : Value) (hu : Shr M W u (.agg (cMv x))) (hv : Shr M W v (.agg (cMv y))) : Calls Tryd.prog 33 #[u, v] W fun e w' => e = .returned (.int .i64 (mvCmp x y)) ∧ ∃ q os', w' = Go.Sort.grow (W.drewN q) os' := (aCmpMoves_g x y).exact2 hu hv
theorem compactMv_asc (l : List Mv) (hl : l.length ≤ 1000000) (ha : AscM l) (hv : Value) : AFh False Tryd.prog 46 [(0, hv, .val hv)] [(1000, hv, .own 40 3 l.length (l.flatMap cMv))] (fun v q h => v = hv ∧ q = .val hv ∧ h = [(1000, hv, .own 40 3 l.length (l.flatMap cMv))]) := by
 refine AFh.of_body 61 Tryd.func46 rfl Tryd.ntmps46 (Nat.le_of_ble_eq_true rfl) rfl ?_
 intro w0 M0 N0
 refine nav ?_
 (refine aC_region ?_ <;> refine xL 2 q_assign ?_ <;> refine aL_end (nav ?_) <;> try dsimp only)
 (refine aC_region ?_ <;> refine xL 6 q_move ?_ <;> refine xL 7 (q_leno 1000 tSl23_LdI) ?_ <;> refine xL 8 q_lss ?_ <;> refine aL_end (nav ?_) <;> try dsimp only)
 (first | refine cCd ?_ ?_ | refine cC ?_ ?_) <;> intro hb8
 · first
   | exact Bool.noConfusion hb8
   | (
    refine nav ?_
    (refine aC_region ?_ <;> refine xL 9 q_move ?_ <;> refine xL 2 q_assign ?_ <;> refine aL_end (nav ?_) <;> try dsimp only)
    exact ret_h [(1000, hv, PV.own 40 3 l.length (l.flatMap cMv))] (Tryd.results46) rfl ⟨rfl, trivial⟩ ⟨rfl, rfl, rfl⟩)
 · first
   | exact Bool.noConfusion hb8
   | (
    refine nav ?_
    (refine aC_region ?_ <;> refine xL 3 q_assign ?_ <;> refine aL_end (nav ?_) <;> try dsimp only)
    refine aC_loop (ι := { k : Nat // 1 ≤ k ∧ k ≤ l.length }) (fun k => ⟨[(0, _, _), (3, .int .i64 k.1, pInt k.1)], [(1000, _, _)]⟩) (fun k => l.length - k.1) ⟨1, Nat.le_refl _, by omega⟩ (fun a w H => H.weaken ⟨rfl, rfl, trivial⟩ ⟨rfl, trivial⟩) ?_
    rintro ⟨k1, hk1, hk⟩
    dsimp only
    obtain ⟨k, rfl⟩ : ∃ k, k1 = k + 1 := ⟨k1 - 1, by omega⟩
    refine nav ?_
    (refine aC_region ?_ <;> refine xL 10 q_move ?_ <;> refine xL 11 q_move ?_ <;> refine xL 12 (q_leno 1000 tSl23_LdI) ?_ <;> refine xL 13 q_lss ?_ <;> refine aL_end (nav ?_) <;> try dsimp only)
    (first | refine cCd ?_ ?_ | refine cC ?_ ?_) <;> intro hb13
    · first
      | exact Bool.noConfusion hb13
      | (
       obtain ⟨x, hx⟩ := get_some (show k + 1 < l.length by omega)
       obtain ⟨y, hy⟩ := get_some (show k < l.length by omega)
       have e1 := flat_drop cMv_len l (k + 1) x hx
       have e2 := flat_fit cMv_len hx
       have e3 : ((l.flatMap cMv).drop ((((k + 1 : Nat) : Int) - 1).toNat * 3)).take 3 = cMv y := by rw [show (((k + 1 : Nat) : Int) - 1).toNat * 3 = k * 3 by omega]; exact flat_drop cMv_len l k y hy
       have e4 := flat_fit cMv_len hy
       have hne := asc_next ha hy hx
       refine nav ?_
       (refine aC_draw (fun i => ([] : List Nat).elem i) [1000] (by kernel_rfl) ?_ <;> refine xD 0 16 rfl q_move ?_ <;> refine xD 1 17 rfl q_move ?_ <;> refine xD 2 18 rfl (q_idxoN 1000 tSl23_LdI) ?_ <;> (refine yD 3 19 rfl (q_ldao 1000 tAgg40_LdI) fun v19 hv19 => ?_; cases hv19) <;> refine xD 4 20 rfl q_move ?_ <;> refine xE 5 21 rfl q_move ?_ <;> refine xE 6 22 rfl q_sub ?_ <;> refine xE 7 23 rfl (q_idxo 1000 tSl23_LdI) ?_ <;> (refine yE 8 24 rfl (q_ldao 1000 tAgg40_LdI) fun v24 hv24 => ?_; cases hv24) <;> refine xE 9 25 rfl ((q_eqS (us := vMv x) (us' := vMv y) uMvS hMvS gMvS (eqMv_runG x y) rfl rfl)) ?_ <;> refine aD_end (by kernel_rfl) (nav ?_) <;> try dsimp only)
       (first | refine cCd ?_ ?_ | refine cC ?_ ?_) <;> intro hb25
       · rw [hne] at hb25; cases hb25
       · refine nav ?_
         (refine aC_region ?_ <;> refine xL 14 q_move ?_ <;> refine xL 15 q_add ?_ <;> refine xL 3 q_assign ?_ <;> refine aL_end (nav ?_) <;> try dsimp only)
         refine aN_again (
          ⟨k + 1 + 1, by omega, by omega⟩
          ) (by dsimp only; omega) ⟨rfl, rfl, trivial⟩ ⟨rfl, trivial⟩)
    · first
      | exact Bool.noConfusion hb13
      | (
       refine nav ?_
       (refine aC_region ?_ <;> refine xL 60 q_move ?_ <;> refine xL 2 q_assign ?_ <;> refine aL_end (nav ?_) <;> try dsimp only)
       exact ret_h [(1000, hv, PV.own 40 3 l.length (l.flatMap cMv))] (Tryd.results46) rfl ⟨rfl, trivial⟩ ⟨rfl, rfl, rfl⟩))
structure PreA (a : Aut) : Prop where
 n0 : 0 ≤ a.n
 s0 : 0 ≤ a.syms
 s1 : a.syms ≤ 40
 st : InS a a.start
 fi : InS a a.fin
 sn : a.start.Nodup
 fn : a.fin.Nodup
 mv : ∀ m ∈ a.moves, 0 ≤ m.src ∧ m.src < a.n ∧ 0 ≤ m.dst ∧ m.dst < a.n ∧ -1 ≤ m.sym ∧ m.sym < a.syms
def mkA (a : Aut) : Aut := { a with moves := mkM a.moves }
theorem PreA.aok {a : Aut} (h : PreA a) (hb : ¬ (2000 < (mkA a).n ∨ 20000 < (mkA a).moves.length)) : AOk (mkA a) := by
 have hn : ¬ 2000 < a.n := fun h => hb (.inl h)
 have hl : ∀ {l : List Int}, l.Nodup → InS a l → l.length ≤ 2000 := fun {l} h1 h2 => by
  have := nodup_len a.n.toNat l h1 fun s hs => by have := h2 s hs; have := h.n0; omega
  omega
 exact ⟨h.n0, by show a.n ≤ 2000; omega, h.s0, h.s1, by have := hb; omega, h.st, h.fi, hl h.sn h.st, hl h.fn h.fi, fun m hm => h.mv m (mkM_mem.1 hm)⟩
theorem stOk_srt {n : Int} {l : List Int} (h : stOk n l = true) : Srt l := by
 unfold stOk at h
 rw [Bool.and_eq_true] at h
 have := h.2
 clear h
 induction l with
 | nil => exact .nil
 | cons x l ih =>
   cases l with
   | nil => exact List.pairwise_singleton ..
   | cons y l =>
     rw [chainB, Bool.and_eq_true] at this
     have h1 := ih this.2
     have hxy : x < y := by have := this.1; unfold ltI at this; simpa using this
     refine List.pairwise_cons.2 ⟨fun z hz => ?_, h1⟩
     rcases List.mem_cons.1 hz with rfl | hz
     · exact hxy
     · exact Int.lt_trans hxy ((List.pairwise_cons.1 h1).1 z hz)
theorem chain_asc : ∀ {l : List Mv}, chainB mvLt l = true → AscM l
 | [], _ => .nil
 | [x], _ => List.pairwise_singleton ..
 | x :: y :: l, h => by
   rw [chainB, Bool.and_eq_true] at h
   have h1 := chain_asc h.2
   refine List.pairwise_cons.2 ⟨fun z hz => ?_, h1⟩
   rcases List.mem_cons.1 hz with rfl | hz
   · exact h.1
   · exact mvLt_tr h.1 ((List.pairwise_cons.1 h1).1 z hz)
theorem srt_nodup {l : List Int} (h : Srt l) : l.Nodup := h.imp fun h => by omega
structure VOk (a : Aut) : Prop extends AOk a where
 ss : Srt a.start
 fs : Srt a.fin
 ms : AscM a.moves
theorem vok_of {a : Aut} (h : autOk a = true) : VOk a := by
 have h' := h
 unfold autOk at h'
 simp only [Bool.and_eq_true, decide_eq_true_eq] at h'
 obtain ⟨⟨⟨⟨⟨⟨⟨⟨_, _⟩, _⟩, _⟩, _⟩, h6⟩, h7⟩, _⟩, h9⟩ := h'
 exact ⟨aok_of h, stOk_srt h6, stOk_srt h7, chain_asc h9⟩
theorem asc_nodup2 {l : List Mv} (h : AscM l) : l.Nodup := h.imp fun {a b} h1 e => by rw [e, mvLt_irr] at h1; cases h1
theorem map_nodup {α β : Type} {f : α → β} {l : List α} (h : l.Nodup) (hf : ∀ x ∈ l, ∀ y ∈ l, f x = f y → x = y) : (l.map f).Nodup := by
 induction l with
 | nil => exact List.nodup_nil
 | cons x l ih =>
   rw [List.nodup_cons] at h
   rw [List.map_cons, List.nodup_cons]
   refine ⟨fun hm => ?_, ih h.2 fun y hy z hz => hf y (List.mem_cons_of_mem _ hy) z (List.mem_cons_of_mem _ hz)⟩
   obtain ⟨y, hy, e⟩ := List.mem_map.1 hm
   have := hf y (List.mem_cons_of_mem _ hy) x (List.mem_cons_self ..) e
   rw [this] at hy
   exact h.1 hy
theorem star_pre {a : Aut} (h : VOk a) : PreA (starA a) := by
 have hn := h.n0
 refine ⟨by show 0 ≤ a.n + 1; omega, h.s0, h.s1, fun s hs => ?_, fun s hs => ?_, by show [a.n].Nodup; simp, by show [a.n].Nodup; simp, fun m hm => ?_⟩
 · rw [show s = a.n from List.mem_singleton.1 hs]
   exact ⟨hn, by show a.n < a.n + 1; omega⟩
 · rw [show s = a.n from List.mem_singleton.1 hs]
   exact ⟨hn, by show a.n < a.n + 1; omega⟩
 · have hs := h.s0
   show 0 ≤ m.src ∧ m.src < a.n + 1 ∧ 0 ≤ m.dst ∧ m.dst < a.n + 1 ∧ -1 ≤ m.sym ∧ m.sym < a.syms
   have hm' : m ∈ a.moves ++ (a.start.map fun s => (⟨a.n, s, -1⟩ : Mv)) ++ a.fin.map fun s => (⟨s, a.n, -1⟩ : Mv) := hm
   rcases List.mem_append.1 hm' with hm | hm
   · rcases List.mem_append.1 hm with hm | hm
     · have := h.mv m hm; omega
     · obtain ⟨s, hs, rfl⟩ := List.mem_map.1 hm
       have := h.st s hs
       dsimp only; omega
   · obtain ⟨s, hs, rfl⟩ := List.mem_map.1 hm
     have := h.fi s hs
     dsimp only; omega
theorem star_nodup {a : Aut} (h : VOk a) : (starA a).moves.Nodup := by
 show (a.moves ++ (a.start.map fun s => (⟨a.n, s, -1⟩ : Mv)) ++ a.fin.map fun s => (⟨s, a.n, -1⟩ : Mv)).Nodup
 rw [List.nodup_append, List.nodup_append]
 refine ⟨⟨asc_nodup2 h.ms, map_nodup (srt_nodup h.ss) fun x _ y _ e => (Mv.mk.inj e).2.1, fun x hx y hy e => ?_⟩, map_nodup (srt_nodup h.fs) fun x _ y _ e => (Mv.mk.inj e).1, fun x hx y hy e => ?_⟩
 · obtain ⟨s, hs, rfl⟩ := List.mem_map.1 hy
   have := h.mv x hx
   rw [e] at this
   dsimp only at this; omega
 · obtain ⟨s, hs, rfl⟩ := List.mem_map.1 hy
   have h1 := h.fi s hs
   rcases List.mem_append.1 hx with hx | hx
   · have := h.mv x hx
     rw [e] at this
     dsimp only at this; omega
   · obtain ⟨s', hs', e'⟩ := List.mem_map.1 hx
     rw [e] at e'
     have := (Mv.mk.inj e').1
     omega
end Go.Proofs.YtgigclnaicbiaaaDoor
namespace Go.En
open Go.RowKit Go.Cb
set_option linter.all false
section
variable {P : Program} {c : Ctx} {ops : Array Oper} {Q : Exit → Act → World → Prop} {Z : Nat → Bool} {K : List Nat} {fuel : Nat} {listed : Array Bool} {sL hP : List (Nat × Ent)} {o : Oper}
theorem aD_four (i j k l : Nat) (hr : Region.ready .any ops listed = [i, j, k, l]) (h : aW P c ops Q Z K fuel listed (⟨sL, hP⟩ : St) i) (h' : aW P c ops Q Z K fuel listed (⟨sL, hP⟩ : St) j) (h'' : aW P c ops Q Z K fuel listed (⟨sL, hP⟩ : St) k) (h3 : aW P c ops Q Z K fuel listed (⟨sL, hP⟩ : St) l) : aD P c ops Q Z K (fuel + 1) listed (⟨sL, hP⟩ : St) := fun a w F H C hC =>
 ⟨(fun hn => by rw [hr] at hn; cases hn), fun m hm => by
   rw [hr] at hm
   rcases (by simpa using hm : m = i ∨ m = j ∨ m = k ∨ m = l) with rfl | rfl | rfl | rfl
   · exact h a w F H C hC
   · exact h' a w F H C hC
   · exact h'' a w F H C hC
   · exact h3 a w F H C hC⟩
end
end Go.En
namespace Go.Proofs.YtgigclnaicbiaaaDoor
open Go.RowKit Go.Cb Go.En
set_option linter.all false
set_option maxRecDepth 100000
theorem sorted_mk {l r : List Mv} (hp : r.Perm l) (hs : Sorted r) (hn : l.Nodup) : r = mkM l := mkM_eq (sorted_asc hs (hp.nodup_iff.2 hn)) fun x => hp.mem_iff
theorem mkM_nd_len {l : List Mv} (hn : l.Nodup) : (mkM l).length = l.length := by
 refine Nat.le_antisymm (mkM_len l) ?_
 have : ∀ {l : List Mv} {m : List Mv}, l.Nodup → (∀ x ∈ l, x ∈ m) → l.length ≤ m.length := fun {l} => by
  induction l with
  | nil => intro m _ _; exact Nat.zero_le _
  | cons x l ih =>
    intro m h hm
    rw [List.nodup_cons] at h
    obtain ⟨a, b, rfl⟩ := List.append_of_mem (hm x (List.mem_cons_self ..))
    have := ih (m := a ++ b) h.2 fun y hy => by
     rcases List.mem_append.1 (hm y (List.mem_cons_of_mem _ hy)) with h1 | h1
     · exact List.mem_append_left _ h1
     · rcases List.mem_cons.1 h1 with rfl | h1
       · exact absurd hy h.1
       · exact List.mem_append_right _ h1
    simp only [List.length_append, List.length_cons] at this ⊢
    omega
 exact this hn fun x hx => mkM_mem.2 hx
structure R5 (p0 p1 p2 p3 p4 : PV) : Prop where
 o : En.one p0 = true ∧ En.one p1 = true ∧ En.one p2 = true ∧ En.one p3 = true ∧ En.one p4 = true
 s : [p0, p1, p2, p3, p4].all isSh = true
 d : shD (.agg [p0, p1, p2, p3, p4]) = true
theorem R5.aut (A : Aut) : R5 (pInt A.n) (pInt A.syms) (pInts A.start) (pInts A.fin) (pMvs A.moves) := ⟨⟨rfl, rfl, rfl, rfl, rfl⟩, rfl, rfl⟩
theorem R5.raw : R5 (pInt 0) (pInt 0) (.val (.slice none 0 0)) (.val (.slice none 0 0)) (.val (.slice none 0 0)) := ⟨⟨rfl, rfl, rfl, rfl, rfl⟩, rfl, rfl⟩
theorem R5.t {p0 p1 p2 p3 p4 : PV} (h : R5 p0 p1 p2 p3 p4) (E : Int) : shD (.tup [.agg [p0, p1, p2, p3, p4], pInt E]) = true := by
 show (shD (.agg [p0, p1, p2, p3, p4]) && (true && true)) = true
 rw [h.d]; rfl
theorem aMade_g (a : Aut) (hl : a.moves.length ≤ 1000000) (hnd : a.moves.Nodup) (V hM : Value) (hMo : hM.oneCell' = true) {p0 p1 p2 p3 p4 : PV} {E : Int} (h5 : R5 p0 p1 p2 p3 p4) (hr : AF Tryd.prog 19 [pAut (mkA a)] (· = .tup [.agg [p0, p1, p2, p3, p4], pInt E])) : AFh False Tryd.prog 30 [(0, V, .agg [pInt a.n, pInt a.syms, pInts a.start, pInts a.fin, .val hM])] [(1000, hM, .own 40 3 a.moves.length (a.moves.flatMap cMv))] (fun v q h => (∃ V1 : Value, v = .tuple [V1, .int .i64 E].toArray) ∧ q = .tup [.agg [p0, p1, p2, p3, p4], pInt E] ∧ h = []) := by
 obtain ⟨o0, o1, o2, o3, o4⟩ := h5.o
 refine AFh.of_body 15 Tryd.func30 rfl Tryd.ntmps30 (Nat.le_of_ble_eq_true rfl) rfl ?_
 intro w0 M0 N0
 have hone : En.one (PV.val hM) = true := hMo
 refine nav ?_
 (refine aC_region ?_ <;> refine s_boxa 1 5 fun h1 => ?_ <;> refine s_alloc [(.int .i64 0), (.int .i64 0), (.slice none 0 0), (.slice none 0 0), (.slice none 0 0)] 5 2 tZr25_LfD fun h2 => ?_ <;> refine xL 3 q_assign ?_ <;> refine aL_end (nav ?_) <;> try dsimp only)
 (refine aC_region ?_ <;> refine xL 4 (q_fldo 1 tFl25_4_LdI) ?_ <;> (refine yL 5 (q_ldo 1 tNa23_LdI) fun v5 hv5 => ?_; cases hv5) <;> (rcases Nat.eq_zero_or_pos a.moves.length with h0 | h0 <;> first | (refine aL_ent (recast (l := 1000) (p' := .own 40 3 0 []) rfl (by rw [List.eq_nil_of_length_eq_zero h0]; rfl)) fun _ => ?_; refine aL_sort0 (l := 1000) sortMv_none rfl rfl (Nat.le_of_ble_eq_true rfl) rfl (Tryd.call45) rfl rfl rfl ?_; refine aL_ent (recast (l := 1000) (p' := .own 40 3 (mkM a.moves).length ((mkM a.moves).flatMap cMv)) rfl (by rw [List.eq_nil_of_length_eq_zero h0]; rfl)) fun _ => ?_) | (refine aL_sort (l := 1000) (β := Mv) (f := cMv) (cmp := mvCmp) (rows := a.moves) sortMv_c cMv_len (by decide) (fun _ => rfl) mvCmp_irr mvCmp_tr mvCmp_nt (fun x y M W u v _ _ hu hv => mv_exact2 x y M W u v hu hv) h0 (by omega) rfl rfl (Nat.le_of_ble_eq_true rfl) rfl (Tryd.call45) rfl rfl rfl (fun rows' hperm hord => ?_); refine aL_ent (recast (l := 1000) (p' := .own 40 3 (mkM a.moves).length ((mkM a.moves).flatMap cMv)) rfl (by rw [sorted_mk hperm hord hnd, mkM_nd_len hnd])) fun _ => ?_)) <;> refine aL_end (nav ?_) <;> try dsimp only) <;> (
  (refine aC_region ?_ <;> refine xL 7 (q_fldo 1 tFl25_4_LdI) ?_ <;> (refine yL 8 (q_ldo 1 tNa23_LdI) fun v8 hv8 => ?_; cases hv8) <;> (refine aL_heap [(1000, hM, PV.own 40 3 (mkM a.moves).length ((mkM a.moves).flatMap cMv)), (1, _, _), (2, _, _)] ⟨rfl, rfl, rfl, trivial⟩ ?_; refine aL_ch [1, 2] 9 (Tryd.call46) (compactMv_asc (mkM a.moves) (by have := mkM_len a.moves; omega) (mkM_asc _) hM) ?_; rintro v9 _ _ ⟨hv9, rfl, rfl⟩; have hv9' := hv9.symm; subst hv9') <;> refine xL 10 (q_fldo 1 tFl25_4_LdI) ?_ <;> refine s_st 1 tNa23_LdI tSz23_LdR ?_ <;> refine aL_end (nav ?_) <;> try dsimp only)
  refine aC_ent (freezeCell (l := 1) (l' := 1000) (j := 4) rfl rfl rfl rfl) fun _ => ?_
  rw [share_mvl _ _ _ rfl]
  (refine aC_region ?_ <;> (refine yL 11 (q_ldao 1 tAgg25_LdS) fun v11 hv11 => ?_; cases hv11) <;> (refine cP 12 (cA Tryd.call19 hr) (fun va12 vb12 hva12 hvb12 => ?_) (hsh := h5.t E); cases hvb12) <;> refine xL 13 q_extract ?_ <;> refine xL 14 q_extract ?_ <;> refine s_sta 2 tAgg25_LdS ?_ <;> refine xL 3 q_assign ?_ <;> refine aL_end (nav ?_) <;> try dsimp only)
  exact ret_hcs (k := 5) 2 [] (by kernel_rfl) (Tryd.results30) rfl rfl rfl (Nat.le_of_ble_eq_true rfl) (by decide) h5.s trivial fun V => ⟨⟨V, rfl⟩, rfl, rfl⟩)
theorem aReduced_mk (a : Aut) (hl : a.moves.length ≤ 1000000) (h : PreA a) : AF Tryd.prog 19 [pAut (mkA a)] (· = resW (madeX a)) :=
 aReduced_e (mkA a) (by have := mkM_len a.moves; show (mkM a.moves).length ≤ 1000000; omega) h.aok
theorem aReduced_5 (a : Aut) (hl : a.moves.length ≤ 1000000) (h : PreA a) : ∃ p0 p1 p2 p3 p4 E, R5 p0 p1 p2 p3 p4 ∧ resW (madeX a) = .tup [.agg [p0, p1, p2, p3, p4], pInt E] ∧ AF Tryd.prog 19 [pAut (mkA a)] (· = .tup [.agg [p0, p1, p2, p3, p4], pInt E]) := by
 have hr := aReduced_mk a hl h
 rcases res_cases (madeX a) with ⟨A, _, h2⟩ | ⟨e, _, h2⟩
 · rw [h2] at hr ⊢; exact ⟨_, _, _, _, _, _, R5.aut A, rfl, hr⟩
 · rw [h2] at hr ⊢; exact ⟨_, _, _, _, _, _, R5.raw, rfl, hr⟩
theorem starX_bad {a : Aut} (h : autOk a = false) : starX a = .error 1 := by unfold starX; rw [h]; rfl
theorem starX_ok {a : Aut} (h : autOk a = true) : starX a = madeX (starA a) := by unfold starX; rw [h]; rfl
def stMv (n : Int) (l : List Int) : List Mv := l.map fun s => ⟨n, s, -1⟩
def fiMv (n : Int) (l : List Int) : List Mv := l.map fun s => ⟨s, n, -1⟩
theorem stMv_snoc (n : Int) {l : List Int} {k : Nat} {x : Int} (h : l[k]? = some x) : stMv n (l.take (k + 1)) = stMv n (l.take k) ++ [⟨n, x, -1⟩] := by unfold stMv; rw [take_snoc h, List.map_append]; rfl
theorem fiMv_snoc (n : Int) {l : List Int} {k : Nat} {x : Int} (h : l[k]? = some x) : fiMv n (l.take (k + 1)) = fiMv n (l.take k) ++ [⟨x, n, -1⟩] := by unfold fiMv; rw [take_snoc h, List.map_append]; rfl
theorem star_moves (a : Aut) : (starA a).moves = a.moves ++ stMv a.n a.start ++ fiMv a.n a.fin := rfl
theorem star_len {a : Aut} (h : AOk a) : (starA a).moves.length ≤ 1000000 := by
 rw [star_moves, List.length_append, List.length_append]
 unfold stMv fiMv
 rw [List.length_map, List.length_map]
 have := h.ml; have := h.sl; have := h.fl
 omega
theorem aStar_bad (a : Aut) (hv : autOk a = false) : AF Tryd.prog 13 [pAut a] (· = .tup [rawZ, pInt 1]) := by
 refine AF.of_body 64 Tryd.func13 rfl Tryd.ntmps13 (Nat.le_of_ble_eq_true rfl) ?_
 intro w0 M0 vs hl hv
 obtain ⟨v0, rfl⟩ := len1 hl
 clear hl hv
 refine nav ?_
 (refine aC_region ?_ <;> refine s_boxa 1 5 fun h1 => ?_ <;> refine s_alloc [(.int .i64 0), (.int .i64 0), (.slice none 0 0), (.slice none 0 0), (.slice none 0 0)] 5 2 tZr25_LfD fun h2 => ?_ <;> refine xL 3 q_assign ?_ <;> refine aL_end (nav ?_) <;> try dsimp only)
 (refine aC_region ?_ <;> (refine yL 10 (q_ldao 1 tAgg25_LdS) fun v10 hv10 => ?_; cases hv10) <;> (refine cS 11 (cA Tryd.call18 (aValid_e a)) fun v11 hv11 => ?_; cases hv11) <;> refine xL 12 q_not ?_ <;> refine aL_end (nav ?_) <;> try dsimp only)
 (first | refine cCd ?_ ?_ | refine cC ?_ ?_) <;> intro hb12
 · refine nav ?_
   (refine aC_region ?_ <;> refine xL 13 (q_build tSt25_LfD) ?_ <;> refine s_sta 2 tAgg25_LdS ?_ <;> refine xL 3 q_assign ?_ <;> refine aL_end (nav ?_) <;> try dsimp only)
   exact ret_cs (k := 5) 2 (by kernel_rfl) (Tryd.results13) rfl rfl rfl (Nat.le_of_ble_eq_true rfl) (by decide) rfl rfl
 · rw [hv] at hb12; simp at hb12
set_option maxHeartbeats 1000000 in
theorem aStar_g (a : Aut) (hv : autOk a = true) {p0 p1 p2 p3 p4 : PV} {E : Int} (r5 : R5 p0 p1 p2 p3 p4) (hr : AF Tryd.prog 19 [pAut (mkA (starA a))] (· = .tup [.agg [p0, p1, p2, p3, p4], pInt E])) : AF Tryd.prog 13 [pAut a] (· = .tup [.agg [p0, p1, p2, p3, p4], pInt E]) := by
 obtain ⟨o0, o1, o2, o3, o4⟩ := r5.o
 have h := vok_of hv
 have hn0 := h.n0
 have hn1 := h.n1
 have hml := h.ml
 have hsl := h.sl
 have hfl := h.fl
 refine AF.of_body 64 Tryd.func13 rfl Tryd.ntmps13 (Nat.le_of_ble_eq_true rfl) ?_
 intro w0 M0 vs hl hv
 obtain ⟨v0, rfl⟩ := len1 hl
 clear hl hv
 refine nav ?_
 (refine aC_region ?_ <;> refine s_boxa 1 5 fun h1 => ?_ <;> refine s_alloc [(.int .i64 0), (.int .i64 0), (.slice none 0 0), (.slice none 0 0), (.slice none 0 0)] 5 2 tZr25_LfD fun h2 => ?_ <;> refine xL 3 q_assign ?_ <;> refine aL_end (nav ?_) <;> try dsimp only)
 (refine aC_region ?_ <;> (refine yL 10 (q_ldao 1 tAgg25_LdS) fun v10 hv10 => ?_; cases hv10) <;> (refine cS 11 (cA Tryd.call18 (aValid_e a)) fun v11 hv11 => ?_; cases hv11) <;> refine xL 12 q_not ?_ <;> refine aL_end (nav ?_) <;> try dsimp only)
 (first | refine cCd ?_ ?_ | refine cC ?_ ?_) <;> intro hb12
 · rw [hv] at hb12; simp at hb12
 · refine nav ?_
   (refine aC_region ?_ <;> refine xL 14 (q_fldo 1 tFl25_0_LdI) ?_ <;> (refine yL 15 (q_ldo 1 tNa3_LbB) fun v15 hv15 => ?_; cases hv15) <;> refine xL 4 q_assign ?_ <;> refine aL_end (nav ?_) <;> try dsimp only)
   refine aC_mid (fun x : { x : Value × Value // x.1.oneCell' = true } => ⟨[(1, padd (sbase h1) 0, .val (padd (sbase h1) 0)), (2, padd (sbase h2) 0, .val (padd (sbase h2) 0)), (4, .int .i64 a.n, pInt a.n), (5, padd (sbase x.1.2) 0, .val (padd (sbase x.1.2) 0))], [(1, h1, .own 25 5 1 [pInt a.n, pInt a.syms, pInts a.start, pInts a.fin, pMvs a.moves]), (2, h2, .own 25 5 1 [pInt 0, pInt 0, .val (.slice none 0 0), .val (.slice none 0 0), .val (.slice none 0 0)]), (5, x.1.2, .own 25 5 1 [pInt (a.n + 1), pInt a.syms, pInts [a.n], pInts [a.n], .val x.1.1]), (26, x.1.1, .own 40 3 a.moves.length (a.moves.flatMap cMv))]⟩) ?_ ?_
   · (refine aC_draw (fun i => ([] : List Nat).elem i) [1] (by kernel_rfl) ?_ <;> refine xD 0 16 rfl q_move ?_ <;> refine xD 1 17 rfl q_add ?_ <;> refine xD 2 18 rfl (q_fldo 1 tFl25_1_LdI) ?_ <;> (refine yD 3 19 rfl (q_ldo 1 tNa3_LbB) fun v19 hv19 => ?_; cases hv19) <;> refine xD 4 20 rfl q_move ?_ <;> refine xD 6 22 rfl q_move ?_ <;> refine xD 8 24 rfl (q_fldo 1 tFl25_4_LdI) ?_ <;> (refine yD 9 25 rfl (q_ldo 1 tNa23_LdI) fun v25 hv25 => ?_; cases hv25) <;> (refine aD_four 5 7 10 12 (by kernel_rfl) ?_ ?_ ?_ ?_; rotate_right; (focus ((refine aW_run rfl fun w9 M9 N9 DQ back => ?_) <;> refine s_alloc [(.int .i64 0), (.int .i64 0), (.slice none 0 0), (.slice none 0 0), (.slice none 0 0)] 5 5 tZr25_LfD fun h5 => ?_ <;> refine aL_end (back _ (nrm ?_)) <;> (refine aD_three 5 7 10 (by kernel_rfl) ?_ ?_ ?_; rotate_right; (focus ((refine aW_run rfl fun w9 M9 N9 DQ back => ?_) <;> refine cO 26 (cA Tryd.call29 (cloneMv_e a.moves (by omega))) fun v26 ho26 => ?_ <;> refine aL_end (back _ (nrm ?_)) <;> (refine aD_two 5 7 (by kernel_rfl) ?_ ?_; rotate_right; (focus ((refine aW_run rfl fun w9 M9 N9 DQ back => ?_) <;> (refine s_lit1 (kk := 1) 23 tEl22_LdI fun h23 ho23 => ?_; refine aL_ent (En.freeze (l := 23) (t := 23) rfl rfl) fun _ => ?_; rw [show share (PV.own 3 1 1 [PV.val (.int .i64 a.n)]) = pInts [a.n] from rfl]) <;> refine aL_end (back _ (nrm ?_)) <;> (refine aD_one 5 (by kernel_rfl) ?_) <;> (refine aW_run rfl fun w9 M9 N9 DQ back => ?_) <;> (refine s_lit1 (kk := 1) 21 tEl22_LdI fun h21 ho21 => ?_; refine aL_ent (En.freeze (l := 21) (t := 21) rfl rfl) fun _ => ?_; rw [show share (PV.own 3 1 1 [PV.val (.int .i64 a.n)]) = pInts [a.n] from rfl]) <;> refine aL_end (back _ (nrm ?_)) <;> refine xE 11 27 rfl (q_build tSt25_LfD) ?_ <;> (refine aD_one 13 (by kernel_rfl) ?_) <;> (refine aW_run rfl fun w9 M9 N9 DQ back => ?_) <;> (refine s_sta 5 (m := 5) (by kernel_rfl) ?_ (h1 := by show (List.all [pInt (a.n + 1), pInt a.syms, pInts [a.n], pInts [a.n], PV.val v26] En.one) = true; simp only [List.all_cons, List.all_nil, Bool.and_true, Bool.and_eq_true]; exact ⟨rfl, rfl, rfl, rfl, ho26⟩)) <;> refine aL_end (back _ (nrm ?_)))); rotate_right; (focus ((refine aW_run rfl fun w9 M9 N9 DQ back => ?_) <;> (refine s_lit1 (kk := 1) 21 tEl22_LdI fun h21 ho21 => ?_; refine aL_ent (En.freeze (l := 21) (t := 21) rfl rfl) fun _ => ?_; rw [show share (PV.own 3 1 1 [PV.val (.int .i64 a.n)]) = pInts [a.n] from rfl]) <;> refine aL_end (back _ (nrm ?_)) <;> (refine aD_one 7 (by kernel_rfl) ?_) <;> (refine aW_run rfl fun w9 M9 N9 DQ back => ?_) <;> (refine s_lit1 (kk := 1) 23 tEl22_LdI fun h23 ho23 => ?_; refine aL_ent (En.freeze (l := 23) (t := 23) rfl rfl) fun _ => ?_; rw [show share (PV.own 3 1 1 [PV.val (.int .i64 a.n)]) = pInts [a.n] from rfl]) <;> refine aL_end (back _ (nrm ?_)) <;> refine xE 11 27 rfl (q_build tSt25_LfD) ?_ <;> (refine aD_one 13 (by kernel_rfl) ?_) <;> (refine aW_run rfl fun w9 M9 N9 DQ back => ?_) <;> (refine s_sta 5 (m := 5) (by kernel_rfl) ?_ (h1 := by show (List.all [pInt (a.n + 1), pInt a.syms, pInts [a.n], pInts [a.n], PV.val v26] En.one) = true; simp only [List.all_cons, List.all_nil, Bool.and_true, Bool.and_eq_true]; exact ⟨rfl, rfl, rfl, rfl, ho26⟩)) <;> refine aL_end (back _ (nrm ?_))))))); rotate_right; (focus ((refine aW_run rfl fun w9 M9 N9 DQ back => ?_) <;> (refine s_lit1 (kk := 1) 23 tEl22_LdI fun h23 ho23 => ?_; refine aL_ent (En.freeze (l := 23) (t := 23) rfl rfl) fun _ => ?_; rw [show share (PV.own 3 1 1 [PV.val (.int .i64 a.n)]) = pInts [a.n] from rfl]) <;> refine aL_end (back _ (nrm ?_)) <;> (refine aD_two 5 10 (by kernel_rfl) ?_ ?_; rotate_right; (focus ((refine aW_run rfl fun w9 M9 N9 DQ back => ?_) <;> refine cO 26 (cA Tryd.call29 (cloneMv_e a.moves (by omega))) fun v26 ho26 => ?_ <;> refine aL_end (back _ (nrm ?_)) <;> (refine aD_one 5 (by kernel_rfl) ?_) <;> (refine aW_run rfl fun w9 M9 N9 DQ back => ?_) <;> (refine s_lit1 (kk := 1) 21 tEl22_LdI fun h21 ho21 => ?_; refine aL_ent (En.freeze (l := 21) (t := 21) rfl rfl) fun _ => ?_; rw [show share (PV.own 3 1 1 [PV.val (.int .i64 a.n)]) = pInts [a.n] from rfl]) <;> refine aL_end (back _ (nrm ?_)) <;> refine xE 11 27 rfl (q_build tSt25_LfD) ?_ <;> (refine aD_one 13 (by kernel_rfl) ?_) <;> (refine aW_run rfl fun w9 M9 N9 DQ back => ?_) <;> (refine s_sta 5 (m := 5) (by kernel_rfl) ?_ (h1 := by show (List.all [pInt (a.n + 1), pInt a.syms, pInts [a.n], pInts [a.n], PV.val v26] En.one) = true; simp only [List.all_cons, List.all_nil, Bool.and_true, Bool.and_eq_true]; exact ⟨rfl, rfl, rfl, rfl, ho26⟩)) <;> refine aL_end (back _ (nrm ?_)))); rotate_right; (focus ((refine aW_run rfl fun w9 M9 N9 DQ back => ?_) <;> (refine s_lit1 (kk := 1) 21 tEl22_LdI fun h21 ho21 => ?_; refine aL_ent (En.freeze (l := 21) (t := 21) rfl rfl) fun _ => ?_; rw [show share (PV.own 3 1 1 [PV.val (.int .i64 a.n)]) = pInts [a.n] from rfl]) <;> refine aL_end (back _ (nrm ?_)) <;> (refine aD_one 10 (by kernel_rfl) ?_) <;> (refine aW_run rfl fun w9 M9 N9 DQ back => ?_) <;> refine cO 26 (cA Tryd.call29 (cloneMv_e a.moves (by omega))) fun v26 ho26 => ?_ <;> refine aL_end (back _ (nrm ?_)) <;> refine xE 11 27 rfl (q_build tSt25_LfD) ?_ <;> (refine aD_one 13 (by kernel_rfl) ?_) <;> (refine aW_run rfl fun w9 M9 N9 DQ back => ?_) <;> (refine s_sta 5 (m := 5) (by kernel_rfl) ?_ (h1 := by show (List.all [pInt (a.n + 1), pInt a.syms, pInts [a.n], pInts [a.n], PV.val v26] En.one) = true; simp only [List.all_cons, List.all_nil, Bool.and_true, Bool.and_eq_true]; exact ⟨rfl, rfl, rfl, rfl, ho26⟩)) <;> refine aL_end (back _ (nrm ?_))))))); rotate_right; (focus ((refine aW_run rfl fun w9 M9 N9 DQ back => ?_) <;> (refine s_lit1 (kk := 1) 21 tEl22_LdI fun h21 ho21 => ?_; refine aL_ent (En.freeze (l := 21) (t := 21) rfl rfl) fun _ => ?_; rw [show share (PV.own 3 1 1 [PV.val (.int .i64 a.n)]) = pInts [a.n] from rfl]) <;> refine aL_end (back _ (nrm ?_)) <;> (refine aD_two 7 10 (by kernel_rfl) ?_ ?_; rotate_right; (focus ((refine aW_run rfl fun w9 M9 N9 DQ back => ?_) <;> refine cO 26 (cA Tryd.call29 (cloneMv_e a.moves (by omega))) fun v26 ho26 => ?_ <;> refine aL_end (back _ (nrm ?_)) <;> (refine aD_one 7 (by kernel_rfl) ?_) <;> (refine aW_run rfl fun w9 M9 N9 DQ back => ?_) <;> (refine s_lit1 (kk := 1) 23 tEl22_LdI fun h23 ho23 => ?_; refine aL_ent (En.freeze (l := 23) (t := 23) rfl rfl) fun _ => ?_; rw [show share (PV.own 3 1 1 [PV.val (.int .i64 a.n)]) = pInts [a.n] from rfl]) <;> refine aL_end (back _ (nrm ?_)) <;> refine xE 11 27 rfl (q_build tSt25_LfD) ?_ <;> (refine aD_one 13 (by kernel_rfl) ?_) <;> (refine aW_run rfl fun w9 M9 N9 DQ back => ?_) <;> (refine s_sta 5 (m := 5) (by kernel_rfl) ?_ (h1 := by show (List.all [pInt (a.n + 1), pInt a.syms, pInts [a.n], pInts [a.n], PV.val v26] En.one) = true; simp only [List.all_cons, List.all_nil, Bool.and_true, Bool.and_eq_true]; exact ⟨rfl, rfl, rfl, rfl, ho26⟩)) <;> refine aL_end (back _ (nrm ?_)))); rotate_right; (focus ((refine aW_run rfl fun w9 M9 N9 DQ back => ?_) <;> (refine s_lit1 (kk := 1) 23 tEl22_LdI fun h23 ho23 => ?_; refine aL_ent (En.freeze (l := 23) (t := 23) rfl rfl) fun _ => ?_; rw [show share (PV.own 3 1 1 [PV.val (.int .i64 a.n)]) = pInts [a.n] from rfl]) <;> refine aL_end (back _ (nrm ?_)) <;> (refine aD_one 10 (by kernel_rfl) ?_) <;> (refine aW_run rfl fun w9 M9 N9 DQ back => ?_) <;> refine cO 26 (cA Tryd.call29 (cloneMv_e a.moves (by omega))) fun v26 ho26 => ?_ <;> refine aL_end (back _ (nrm ?_)) <;> refine xE 11 27 rfl (q_build tSt25_LfD) ?_ <;> (refine aD_one 13 (by kernel_rfl) ?_) <;> (refine aW_run rfl fun w9 M9 N9 DQ back => ?_) <;> (refine s_sta 5 (m := 5) (by kernel_rfl) ?_ (h1 := by show (List.all [pInt (a.n + 1), pInt a.syms, pInts [a.n], pInts [a.n], PV.val v26] En.one) = true; simp only [List.all_cons, List.all_nil, Bool.and_true, Bool.and_eq_true]; exact ⟨rfl, rfl, rfl, rfl, ho26⟩)) <;> refine aL_end (back _ (nrm ?_)))))))))); rotate_right; (focus ((refine aW_run rfl fun w9 M9 N9 DQ back => ?_) <;> refine cO 26 (cA Tryd.call29 (cloneMv_e a.moves (by omega))) fun v26 ho26 => ?_ <;> refine aL_end (back _ (nrm ?_)) <;> (refine aD_three 5 7 12 (by kernel_rfl) ?_ ?_ ?_; rotate_right; (focus ((refine aW_run rfl fun w9 M9 N9 DQ back => ?_) <;> refine s_alloc [(.int .i64 0), (.int .i64 0), (.slice none 0 0), (.slice none 0 0), (.slice none 0 0)] 5 5 tZr25_LfD fun h5 => ?_ <;> refine aL_end (back _ (nrm ?_)) <;> (refine aD_two 5 7 (by kernel_rfl) ?_ ?_; rotate_right; (focus ((refine aW_run rfl fun w9 M9 N9 DQ back => ?_) <;> (refine s_lit1 (kk := 1) 23 tEl22_LdI fun h23 ho23 => ?_; refine aL_ent (En.freeze (l := 23) (t := 23) rfl rfl) fun _ => ?_; rw [show share (PV.own 3 1 1 [PV.val (.int .i64 a.n)]) = pInts [a.n] from rfl]) <;> refine aL_end (back _ (nrm ?_)) <;> (refine aD_one 5 (by kernel_rfl) ?_) <;> (refine aW_run rfl fun w9 M9 N9 DQ back => ?_) <;> (refine s_lit1 (kk := 1) 21 tEl22_LdI fun h21 ho21 => ?_; refine aL_ent (En.freeze (l := 21) (t := 21) rfl rfl) fun _ => ?_; rw [show share (PV.own 3 1 1 [PV.val (.int .i64 a.n)]) = pInts [a.n] from rfl]) <;> refine aL_end (back _ (nrm ?_)) <;> refine xE 11 27 rfl (q_build tSt25_LfD) ?_ <;> (refine aD_one 13 (by kernel_rfl) ?_) <;> (refine aW_run rfl fun w9 M9 N9 DQ back => ?_) <;> (refine s_sta 5 (m := 5) (by kernel_rfl) ?_ (h1 := by show (List.all [pInt (a.n + 1), pInt a.syms, pInts [a.n], pInts [a.n], PV.val v26] En.one) = true; simp only [List.all_cons, List.all_nil, Bool.and_true, Bool.and_eq_true]; exact ⟨rfl, rfl, rfl, rfl, ho26⟩)) <;> refine aL_end (back _ (nrm ?_)))); rotate_right; (focus ((refine aW_run rfl fun w9 M9 N9 DQ back => ?_) <;> (refine s_lit1 (kk := 1) 21 tEl22_LdI fun h21 ho21 => ?_; refine aL_ent (En.freeze (l := 21) (t := 21) rfl rfl) fun _ => ?_; rw [show share (PV.own 3 1 1 [PV.val (.int .i64 a.n)]) = pInts [a.n] from rfl]) <;> refine aL_end (back _ (nrm ?_)) <;> (refine aD_one 7 (by kernel_rfl) ?_) <;> (refine aW_run rfl fun w9 M9 N9 DQ back => ?_) <;> (refine s_lit1 (kk := 1) 23 tEl22_LdI fun h23 ho23 => ?_; refine aL_ent (En.freeze (l := 23) (t := 23) rfl rfl) fun _ => ?_; rw [show share (PV.own 3 1 1 [PV.val (.int .i64 a.n)]) = pInts [a.n] from rfl]) <;> refine aL_end (back _ (nrm ?_)) <;> refine xE 11 27 rfl (q_build tSt25_LfD) ?_ <;> (refine aD_one 13 (by kernel_rfl) ?_) <;> (refine aW_run rfl fun w9 M9 N9 DQ back => ?_) <;> (refine s_sta 5 (m := 5) (by kernel_rfl) ?_ (h1 := by show (List.all [pInt (a.n + 1), pInt a.syms, pInts [a.n], pInts [a.n], PV.val v26] En.one) = true; simp only [List.all_cons, List.all_nil, Bool.and_true, Bool.and_eq_true]; exact ⟨rfl, rfl, rfl, rfl, ho26⟩)) <;> refine aL_end (back _ (nrm ?_))))))); rotate_right; (focus ((refine aW_run rfl fun w9 M9 N9 DQ back => ?_) <;> (refine s_lit1 (kk := 1) 23 tEl22_LdI fun h23 ho23 => ?_; refine aL_ent (En.freeze (l := 23) (t := 23) rfl rfl) fun _ => ?_; rw [show share (PV.own 3 1 1 [PV.val (.int .i64 a.n)]) = pInts [a.n] from rfl]) <;> refine aL_end (back _ (nrm ?_)) <;> (refine aD_two 5 12 (by kernel_rfl) ?_ ?_; rotate_right; (focus ((refine aW_run rfl fun w9 M9 N9 DQ back => ?_) <;> refine s_alloc [(.int .i64 0), (.int .i64 0), (.slice none 0 0), (.slice none 0 0), (.slice none 0 0)] 5 5 tZr25_LfD fun h5 => ?_ <;> refine aL_end (back _ (nrm ?_)) <;> (refine aD_one 5 (by kernel_rfl) ?_) <;> (refine aW_run rfl fun w9 M9 N9 DQ back => ?_) <;> (refine s_lit1 (kk := 1) 21 tEl22_LdI fun h21 ho21 => ?_; refine aL_ent (En.freeze (l := 21) (t := 21) rfl rfl) fun _ => ?_; rw [show share (PV.own 3 1 1 [PV.val (.int .i64 a.n)]) = pInts [a.n] from rfl]) <;> refine aL_end (back _ (nrm ?_)) <;> refine xE 11 27 rfl (q_build tSt25_LfD) ?_ <;> (refine aD_one 13 (by kernel_rfl) ?_) <;> (refine aW_run rfl fun w9 M9 N9 DQ back => ?_) <;> (refine s_sta 5 (m := 5) (by kernel_rfl) ?_ (h1 := by show (List.all [pInt (a.n + 1), pInt a.syms, pInts [a.n], pInts [a.n], PV.val v26] En.one) = true; simp only [List.all_cons, List.all_nil, Bool.and_true, Bool.and_eq_true]; exact ⟨rfl, rfl, rfl, rfl, ho26⟩)) <;> refine aL_end (back _ (nrm ?_)))); rotate_right; (focus ((refine aW_run rfl fun w9 M9 N9 DQ back => ?_) <;> (refine s_lit1 (kk := 1) 21 tEl22_LdI fun h21 ho21 => ?_; refine aL_ent (En.freeze (l := 21) (t := 21) rfl rfl) fun _ => ?_; rw [show share (PV.own 3 1 1 [PV.val (.int .i64 a.n)]) = pInts [a.n] from rfl]) <;> refine aL_end (back _ (nrm ?_)) <;> refine xD 11 27 rfl (q_build tSt25_LfD) ?_ <;> (refine aD_one 12 (by kernel_rfl) ?_) <;> (refine aW_run rfl fun w9 M9 N9 DQ back => ?_) <;> refine s_alloc [(.int .i64 0), (.int .i64 0), (.slice none 0 0), (.slice none 0 0), (.slice none 0 0)] 5 5 tZr25_LfD fun h5 => ?_ <;> refine aL_end (back _ (nrm ?_)) <;> (refine aD_one 13 (by kernel_rfl) ?_) <;> (refine aW_run rfl fun w9 M9 N9 DQ back => ?_) <;> (refine s_sta 5 (m := 5) (by kernel_rfl) ?_ (h1 := by show (List.all [pInt (a.n + 1), pInt a.syms, pInts [a.n], pInts [a.n], PV.val v26] En.one) = true; simp only [List.all_cons, List.all_nil, Bool.and_true, Bool.and_eq_true]; exact ⟨rfl, rfl, rfl, rfl, ho26⟩)) <;> refine aL_end (back _ (nrm ?_))))))); rotate_right; (focus ((refine aW_run rfl fun w9 M9 N9 DQ back => ?_) <;> (refine s_lit1 (kk := 1) 21 tEl22_LdI fun h21 ho21 => ?_; refine aL_ent (En.freeze (l := 21) (t := 21) rfl rfl) fun _ => ?_; rw [show share (PV.own 3 1 1 [PV.val (.int .i64 a.n)]) = pInts [a.n] from rfl]) <;> refine aL_end (back _ (nrm ?_)) <;> (refine aD_two 7 12 (by kernel_rfl) ?_ ?_; rotate_right; (focus ((refine aW_run rfl fun w9 M9 N9 DQ back => ?_) <;> refine s_alloc [(.int .i64 0), (.int .i64 0), (.slice none 0 0), (.slice none 0 0), (.slice none 0 0)] 5 5 tZr25_LfD fun h5 => ?_ <;> refine aL_end (back _ (nrm ?_)) <;> (refine aD_one 7 (by kernel_rfl) ?_) <;> (refine aW_run rfl fun w9 M9 N9 DQ back => ?_) <;> (refine s_lit1 (kk := 1) 23 tEl22_LdI fun h23 ho23 => ?_; refine aL_ent (En.freeze (l := 23) (t := 23) rfl rfl) fun _ => ?_; rw [show share (PV.own 3 1 1 [PV.val (.int .i64 a.n)]) = pInts [a.n] from rfl]) <;> refine aL_end (back _ (nrm ?_)) <;> refine xE 11 27 rfl (q_build tSt25_LfD) ?_ <;> (refine aD_one 13 (by kernel_rfl) ?_) <;> (refine aW_run rfl fun w9 M9 N9 DQ back => ?_) <;> (refine s_sta 5 (m := 5) (by kernel_rfl) ?_ (h1 := by show (List.all [pInt (a.n + 1), pInt a.syms, pInts [a.n], pInts [a.n], PV.val v26] En.one) = true; simp only [List.all_cons, List.all_nil, Bool.and_true, Bool.and_eq_true]; exact ⟨rfl, rfl, rfl, rfl, ho26⟩)) <;> refine aL_end (back _ (nrm ?_)))); rotate_right; (focus ((refine aW_run rfl fun w9 M9 N9 DQ back => ?_) <;> (refine s_lit1 (kk := 1) 23 tEl22_LdI fun h23 ho23 => ?_; refine aL_ent (En.freeze (l := 23) (t := 23) rfl rfl) fun _ => ?_; rw [show share (PV.own 3 1 1 [PV.val (.int .i64 a.n)]) = pInts [a.n] from rfl]) <;> refine aL_end (back _ (nrm ?_)) <;> refine xD 11 27 rfl (q_build tSt25_LfD) ?_ <;> (refine aD_one 12 (by kernel_rfl) ?_) <;> (refine aW_run rfl fun w9 M9 N9 DQ back => ?_) <;> refine s_alloc [(.int .i64 0), (.int .i64 0), (.slice none 0 0), (.slice none 0 0), (.slice none 0 0)] 5 5 tZr25_LfD fun h5 => ?_ <;> refine aL_end (back _ (nrm ?_)) <;> (refine aD_one 13 (by kernel_rfl) ?_) <;> (refine aW_run rfl fun w9 M9 N9 DQ back => ?_) <;> (refine s_sta 5 (m := 5) (by kernel_rfl) ?_ (h1 := by show (List.all [pInt (a.n + 1), pInt a.syms, pInts [a.n], pInts [a.n], PV.val v26] En.one) = true; simp only [List.all_cons, List.all_nil, Bool.and_true, Bool.and_eq_true]; exact ⟨rfl, rfl, rfl, rfl, ho26⟩)) <;> refine aL_end (back _ (nrm ?_)))))))))); rotate_right; (focus ((refine aW_run rfl fun w9 M9 N9 DQ back => ?_) <;> (refine s_lit1 (kk := 1) 23 tEl22_LdI fun h23 ho23 => ?_; refine aL_ent (En.freeze (l := 23) (t := 23) rfl rfl) fun _ => ?_; rw [show share (PV.own 3 1 1 [PV.val (.int .i64 a.n)]) = pInts [a.n] from rfl]) <;> refine aL_end (back _ (nrm ?_)) <;> (refine aD_three 5 10 12 (by kernel_rfl) ?_ ?_ ?_; rotate_right; (focus ((refine aW_run rfl fun w9 M9 N9 DQ back => ?_) <;> refine s_alloc [(.int .i64 0), (.int .i64 0), (.slice none 0 0), (.slice none 0 0), (.slice none 0 0)] 5 5 tZr25_LfD fun h5 => ?_ <;> refine aL_end (back _ (nrm ?_)) <;> (refine aD_two 5 10 (by kernel_rfl) ?_ ?_; rotate_right; (focus ((refine aW_run rfl fun w9 M9 N9 DQ back => ?_) <;> refine cO 26 (cA Tryd.call29 (cloneMv_e a.moves (by omega))) fun v26 ho26 => ?_ <;> refine aL_end (back _ (nrm ?_)) <;> (refine aD_one 5 (by kernel_rfl) ?_) <;> (refine aW_run rfl fun w9 M9 N9 DQ back => ?_) <;> (refine s_lit1 (kk := 1) 21 tEl22_LdI fun h21 ho21 => ?_; refine aL_ent (En.freeze (l := 21) (t := 21) rfl rfl) fun _ => ?_; rw [show share (PV.own 3 1 1 [PV.val (.int .i64 a.n)]) = pInts [a.n] from rfl]) <;> refine aL_end (back _ (nrm ?_)) <;> refine xE 11 27 rfl (q_build tSt25_LfD) ?_ <;> (refine aD_one 13 (by kernel_rfl) ?_) <;> (refine aW_run rfl fun w9 M9 N9 DQ back => ?_) <;> (refine s_sta 5 (m := 5) (by kernel_rfl) ?_ (h1 := by show (List.all [pInt (a.n + 1), pInt a.syms, pInts [a.n], pInts [a.n], PV.val v26] En.one) = true; simp only [List.all_cons, List.all_nil, Bool.and_true, Bool.and_eq_true]; exact ⟨rfl, rfl, rfl, rfl, ho26⟩)) <;> refine aL_end (back _ (nrm ?_)))); rotate_right; (focus ((refine aW_run rfl fun w9 M9 N9 DQ back => ?_) <;> (refine s_lit1 (kk := 1) 21 tEl22_LdI fun h21 ho21 => ?_; refine aL_ent (En.freeze (l := 21) (t := 21) rfl rfl) fun _ => ?_; rw [show share (PV.own 3 1 1 [PV.val (.int .i64 a.n)]) = pInts [a.n] from rfl]) <;> refine aL_end (back _ (nrm ?_)) <;> (refine aD_one 10 (by kernel_rfl) ?_) <;> (refine aW_run rfl fun w9 M9 N9 DQ back => ?_) <;> refine cO 26 (cA Tryd.call29 (cloneMv_e a.moves (by omega))) fun v26 ho26 => ?_ <;> refine aL_end (back _ (nrm ?_)) <;> refine xE 11 27 rfl (q_build tSt25_LfD) ?_ <;> (refine aD_one 13 (by kernel_rfl) ?_) <;> (refine aW_run rfl fun w9 M9 N9 DQ back => ?_) <;> (refine s_sta 5 (m := 5) (by kernel_rfl) ?_ (h1 := by show (List.all [pInt (a.n + 1), pInt a.syms, pInts [a.n], pInts [a.n], PV.val v26] En.one) = true; simp only [List.all_cons, List.all_nil, Bool.and_true, Bool.and_eq_true]; exact ⟨rfl, rfl, rfl, rfl, ho26⟩)) <;> refine aL_end (back _ (nrm ?_))))))); rotate_right; (focus ((refine aW_run rfl fun w9 M9 N9 DQ back => ?_) <;> refine cO 26 (cA Tryd.call29 (cloneMv_e a.moves (by omega))) fun v26 ho26 => ?_ <;> refine aL_end (back _ (nrm ?_)) <;> (refine aD_two 5 12 (by kernel_rfl) ?_ ?_; rotate_right; (focus ((refine aW_run rfl fun w9 M9 N9 DQ back => ?_) <;> refine s_alloc [(.int .i64 0), (.int .i64 0), (.slice none 0 0), (.slice none 0 0), (.slice none 0 0)] 5 5 tZr25_LfD fun h5 => ?_ <;> refine aL_end (back _ (nrm ?_)) <;> (refine aD_one 5 (by kernel_rfl) ?_) <;> (refine aW_run rfl fun w9 M9 N9 DQ back => ?_) <;> (refine s_lit1 (kk := 1) 21 tEl22_LdI fun h21 ho21 => ?_; refine aL_ent (En.freeze (l := 21) (t := 21) rfl rfl) fun _ => ?_; rw [show share (PV.own 3 1 1 [PV.val (.int .i64 a.n)]) = pInts [a.n] from rfl]) <;> refine aL_end (back _ (nrm ?_)) <;> refine xE 11 27 rfl (q_build tSt25_LfD) ?_ <;> (refine aD_one 13 (by kernel_rfl) ?_) <;> (refine aW_run rfl fun w9 M9 N9 DQ back => ?_) <;> (refine s_sta 5 (m := 5) (by kernel_rfl) ?_ (h1 := by show (List.all [pInt (a.n + 1), pInt a.syms, pInts [a.n], pInts [a.n], PV.val v26] En.one) = true; simp only [List.all_cons, List.all_nil, Bool.and_true, Bool.and_eq_true]; exact ⟨rfl, rfl, rfl, rfl, ho26⟩)) <;> refine aL_end (back _ (nrm ?_)))); rotate_right; (focus ((refine aW_run rfl fun w9 M9 N9 DQ back => ?_) <;> (refine s_lit1 (kk := 1) 21 tEl22_LdI fun h21 ho21 => ?_; refine aL_ent (En.freeze (l := 21) (t := 21) rfl rfl) fun _ => ?_; rw [show share (PV.own 3 1 1 [PV.val (.int .i64 a.n)]) = pInts [a.n] from rfl]) <;> refine aL_end (back _ (nrm ?_)) <;> refine xD 11 27 rfl (q_build tSt25_LfD) ?_ <;> (refine aD_one 12 (by kernel_rfl) ?_) <;> (refine aW_run rfl fun w9 M9 N9 DQ back => ?_) <;> refine s_alloc [(.int .i64 0), (.int .i64 0), (.slice none 0 0), (.slice none 0 0), (.slice none 0 0)] 5 5 tZr25_LfD fun h5 => ?_ <;> refine aL_end (back _ (nrm ?_)) <;> (refine aD_one 13 (by kernel_rfl) ?_) <;> (refine aW_run rfl fun w9 M9 N9 DQ back => ?_) <;> (refine s_sta 5 (m := 5) (by kernel_rfl) ?_ (h1 := by show (List.all [pInt (a.n + 1), pInt a.syms, pInts [a.n], pInts [a.n], PV.val v26] En.one) = true; simp only [List.all_cons, List.all_nil, Bool.and_true, Bool.and_eq_true]; exact ⟨rfl, rfl, rfl, rfl, ho26⟩)) <;> refine aL_end (back _ (nrm ?_))))))); rotate_right; (focus ((refine aW_run rfl fun w9 M9 N9 DQ back => ?_) <;> (refine s_lit1 (kk := 1) 21 tEl22_LdI fun h21 ho21 => ?_; refine aL_ent (En.freeze (l := 21) (t := 21) rfl rfl) fun _ => ?_; rw [show share (PV.own 3 1 1 [PV.val (.int .i64 a.n)]) = pInts [a.n] from rfl]) <;> refine aL_end (back _ (nrm ?_)) <;> (refine aD_two 10 12 (by kernel_rfl) ?_ ?_; rotate_right; (focus ((refine aW_run rfl fun w9 M9 N9 DQ back => ?_) <;> refine s_alloc [(.int .i64 0), (.int .i64 0), (.slice none 0 0), (.slice none 0 0), (.slice none 0 0)] 5 5 tZr25_LfD fun h5 => ?_ <;> refine aL_end (back _ (nrm ?_)) <;> (refine aD_one 10 (by kernel_rfl) ?_) <;> (refine aW_run rfl fun w9 M9 N9 DQ back => ?_) <;> refine cO 26 (cA Tryd.call29 (cloneMv_e a.moves (by omega))) fun v26 ho26 => ?_ <;> refine aL_end (back _ (nrm ?_)) <;> refine xE 11 27 rfl (q_build tSt25_LfD) ?_ <;> (refine aD_one 13 (by kernel_rfl) ?_) <;> (refine aW_run rfl fun w9 M9 N9 DQ back => ?_) <;> (refine s_sta 5 (m := 5) (by kernel_rfl) ?_ (h1 := by show (List.all [pInt (a.n + 1), pInt a.syms, pInts [a.n], pInts [a.n], PV.val v26] En.one) = true; simp only [List.all_cons, List.all_nil, Bool.and_true, Bool.and_eq_true]; exact ⟨rfl, rfl, rfl, rfl, ho26⟩)) <;> refine aL_end (back _ (nrm ?_)))); rotate_right; (focus ((refine aW_run rfl fun w9 M9 N9 DQ back => ?_) <;> refine cO 26 (cA Tryd.call29 (cloneMv_e a.moves (by omega))) fun v26 ho26 => ?_ <;> refine aL_end (back _ (nrm ?_)) <;> refine xD 11 27 rfl (q_build tSt25_LfD) ?_ <;> (refine aD_one 12 (by kernel_rfl) ?_) <;> (refine aW_run rfl fun w9 M9 N9 DQ back => ?_) <;> refine s_alloc [(.int .i64 0), (.int .i64 0), (.slice none 0 0), (.slice none 0 0), (.slice none 0 0)] 5 5 tZr25_LfD fun h5 => ?_ <;> refine aL_end (back _ (nrm ?_)) <;> (refine aD_one 13 (by kernel_rfl) ?_) <;> (refine aW_run rfl fun w9 M9 N9 DQ back => ?_) <;> (refine s_sta 5 (m := 5) (by kernel_rfl) ?_ (h1 := by show (List.all [pInt (a.n + 1), pInt a.syms, pInts [a.n], pInts [a.n], PV.val v26] En.one) = true; simp only [List.all_cons, List.all_nil, Bool.and_true, Bool.and_eq_true]; exact ⟨rfl, rfl, rfl, rfl, ho26⟩)) <;> refine aL_end (back _ (nrm ?_)))))))))); rotate_right; (focus ((refine aW_run rfl fun w9 M9 N9 DQ back => ?_) <;> (refine s_lit1 (kk := 1) 21 tEl22_LdI fun h21 ho21 => ?_; refine aL_ent (En.freeze (l := 21) (t := 21) rfl rfl) fun _ => ?_; rw [show share (PV.own 3 1 1 [PV.val (.int .i64 a.n)]) = pInts [a.n] from rfl]) <;> refine aL_end (back _ (nrm ?_)) <;> (refine aD_three 7 10 12 (by kernel_rfl) ?_ ?_ ?_; rotate_right; (focus ((refine aW_run rfl fun w9 M9 N9 DQ back => ?_) <;> refine s_alloc [(.int .i64 0), (.int .i64 0), (.slice none 0 0), (.slice none 0 0), (.slice none 0 0)] 5 5 tZr25_LfD fun h5 => ?_ <;> refine aL_end (back _ (nrm ?_)) <;> (refine aD_two 7 10 (by kernel_rfl) ?_ ?_; rotate_right; (focus ((refine aW_run rfl fun w9 M9 N9 DQ back => ?_) <;> refine cO 26 (cA Tryd.call29 (cloneMv_e a.moves (by omega))) fun v26 ho26 => ?_ <;> refine aL_end (back _ (nrm ?_)) <;> (refine aD_one 7 (by kernel_rfl) ?_) <;> (refine aW_run rfl fun w9 M9 N9 DQ back => ?_) <;> (refine s_lit1 (kk := 1) 23 tEl22_LdI fun h23 ho23 => ?_; refine aL_ent (En.freeze (l := 23) (t := 23) rfl rfl) fun _ => ?_; rw [show share (PV.own 3 1 1 [PV.val (.int .i64 a.n)]) = pInts [a.n] from rfl]) <;> refine aL_end (back _ (nrm ?_)) <;> refine xE 11 27 rfl (q_build tSt25_LfD) ?_ <;> (refine aD_one 13 (by kernel_rfl) ?_) <;> (refine aW_run rfl fun w9 M9 N9 DQ back => ?_) <;> (refine s_sta 5 (m := 5) (by kernel_rfl) ?_ (h1 := by show (List.all [pInt (a.n + 1), pInt a.syms, pInts [a.n], pInts [a.n], PV.val v26] En.one) = true; simp only [List.all_cons, List.all_nil, Bool.and_true, Bool.and_eq_true]; exact ⟨rfl, rfl, rfl, rfl, ho26⟩)) <;> refine aL_end (back _ (nrm ?_)))); rotate_right; (focus ((refine aW_run rfl fun w9 M9 N9 DQ back => ?_) <;> (refine s_lit1 (kk := 1) 23 tEl22_LdI fun h23 ho23 => ?_; refine aL_ent (En.freeze (l := 23) (t := 23) rfl rfl) fun _ => ?_; rw [show share (PV.own 3 1 1 [PV.val (.int .i64 a.n)]) = pInts [a.n] from rfl]) <;> refine aL_end (back _ (nrm ?_)) <;> (refine aD_one 10 (by kernel_rfl) ?_) <;> (refine aW_run rfl fun w9 M9 N9 DQ back => ?_) <;> refine cO 26 (cA Tryd.call29 (cloneMv_e a.moves (by omega))) fun v26 ho26 => ?_ <;> refine aL_end (back _ (nrm ?_)) <;> refine xE 11 27 rfl (q_build tSt25_LfD) ?_ <;> (refine aD_one 13 (by kernel_rfl) ?_) <;> (refine aW_run rfl fun w9 M9 N9 DQ back => ?_) <;> (refine s_sta 5 (m := 5) (by kernel_rfl) ?_ (h1 := by show (List.all [pInt (a.n + 1), pInt a.syms, pInts [a.n], pInts [a.n], PV.val v26] En.one) = true; simp only [List.all_cons, List.all_nil, Bool.and_true, Bool.and_eq_true]; exact ⟨rfl, rfl, rfl, rfl, ho26⟩)) <;> refine aL_end (back _ (nrm ?_))))))); rotate_right; (focus ((refine aW_run rfl fun w9 M9 N9 DQ back => ?_) <;> refine cO 26 (cA Tryd.call29 (cloneMv_e a.moves (by omega))) fun v26 ho26 => ?_ <;> refine aL_end (back _ (nrm ?_)) <;> (refine aD_two 7 12 (by kernel_rfl) ?_ ?_; rotate_right; (focus ((refine aW_run rfl fun w9 M9 N9 DQ back => ?_) <;> refine s_alloc [(.int .i64 0), (.int .i64 0), (.slice none 0 0), (.slice none 0 0), (.slice none 0 0)] 5 5 tZr25_LfD fun h5 => ?_ <;> refine aL_end (back _ (nrm ?_)) <;> (refine aD_one 7 (by kernel_rfl) ?_) <;> (refine aW_run rfl fun w9 M9 N9 DQ back => ?_) <;> (refine s_lit1 (kk := 1) 23 tEl22_LdI fun h23 ho23 => ?_; refine aL_ent (En.freeze (l := 23) (t := 23) rfl rfl) fun _ => ?_; rw [show share (PV.own 3 1 1 [PV.val (.int .i64 a.n)]) = pInts [a.n] from rfl]) <;> refine aL_end (back _ (nrm ?_)) <;> refine xE 11 27 rfl (q_build tSt25_LfD) ?_ <;> (refine aD_one 13 (by kernel_rfl) ?_) <;> (refine aW_run rfl fun w9 M9 N9 DQ back => ?_) <;> (refine s_sta 5 (m := 5) (by kernel_rfl) ?_ (h1 := by show (List.all [pInt (a.n + 1), pInt a.syms, pInts [a.n], pInts [a.n], PV.val v26] En.one) = true; simp only [List.all_cons, List.all_nil, Bool.and_true, Bool.and_eq_true]; exact ⟨rfl, rfl, rfl, rfl, ho26⟩)) <;> refine aL_end (back _ (nrm ?_)))); rotate_right; (focus ((refine aW_run rfl fun w9 M9 N9 DQ back => ?_) <;> (refine s_lit1 (kk := 1) 23 tEl22_LdI fun h23 ho23 => ?_; refine aL_ent (En.freeze (l := 23) (t := 23) rfl rfl) fun _ => ?_; rw [show share (PV.own 3 1 1 [PV.val (.int .i64 a.n)]) = pInts [a.n] from rfl]) <;> refine aL_end (back _ (nrm ?_)) <;> refine xD 11 27 rfl (q_build tSt25_LfD) ?_ <;> (refine aD_one 12 (by kernel_rfl) ?_) <;> (refine aW_run rfl fun w9 M9 N9 DQ back => ?_) <;> refine s_alloc [(.int .i64 0), (.int .i64 0), (.slice none 0 0), (.slice none 0 0), (.slice none 0 0)] 5 5 tZr25_LfD fun h5 => ?_ <;> refine aL_end (back _ (nrm ?_)) <;> (refine aD_one 13 (by kernel_rfl) ?_) <;> (refine aW_run rfl fun w9 M9 N9 DQ back => ?_) <;> (refine s_sta 5 (m := 5) (by kernel_rfl) ?_ (h1 := by show (List.all [pInt (a.n + 1), pInt a.syms, pInts [a.n], pInts [a.n], PV.val v26] En.one) = true; simp only [List.all_cons, List.all_nil, Bool.and_true, Bool.and_eq_true]; exact ⟨rfl, rfl, rfl, rfl, ho26⟩)) <;> refine aL_end (back _ (nrm ?_))))))); rotate_right; (focus ((refine aW_run rfl fun w9 M9 N9 DQ back => ?_) <;> (refine s_lit1 (kk := 1) 23 tEl22_LdI fun h23 ho23 => ?_; refine aL_ent (En.freeze (l := 23) (t := 23) rfl rfl) fun _ => ?_; rw [show share (PV.own 3 1 1 [PV.val (.int .i64 a.n)]) = pInts [a.n] from rfl]) <;> refine aL_end (back _ (nrm ?_)) <;> (refine aD_two 10 12 (by kernel_rfl) ?_ ?_; rotate_right; (focus ((refine aW_run rfl fun w9 M9 N9 DQ back => ?_) <;> refine s_alloc [(.int .i64 0), (.int .i64 0), (.slice none 0 0), (.slice none 0 0), (.slice none 0 0)] 5 5 tZr25_LfD fun h5 => ?_ <;> refine aL_end (back _ (nrm ?_)) <;> (refine aD_one 10 (by kernel_rfl) ?_) <;> (refine aW_run rfl fun w9 M9 N9 DQ back => ?_) <;> refine cO 26 (cA Tryd.call29 (cloneMv_e a.moves (by omega))) fun v26 ho26 => ?_ <;> refine aL_end (back _ (nrm ?_)) <;> refine xE 11 27 rfl (q_build tSt25_LfD) ?_ <;> (refine aD_one 13 (by kernel_rfl) ?_) <;> (refine aW_run rfl fun w9 M9 N9 DQ back => ?_) <;> (refine s_sta 5 (m := 5) (by kernel_rfl) ?_ (h1 := by show (List.all [pInt (a.n + 1), pInt a.syms, pInts [a.n], pInts [a.n], PV.val v26] En.one) = true; simp only [List.all_cons, List.all_nil, Bool.and_true, Bool.and_eq_true]; exact ⟨rfl, rfl, rfl, rfl, ho26⟩)) <;> refine aL_end (back _ (nrm ?_)))); rotate_right; (focus ((refine aW_run rfl fun w9 M9 N9 DQ back => ?_) <;> refine cO 26 (cA Tryd.call29 (cloneMv_e a.moves (by omega))) fun v26 ho26 => ?_ <;> refine aL_end (back _ (nrm ?_)) <;> refine xD 11 27 rfl (q_build tSt25_LfD) ?_ <;> (refine aD_one 12 (by kernel_rfl) ?_) <;> (refine aW_run rfl fun w9 M9 N9 DQ back => ?_) <;> refine s_alloc [(.int .i64 0), (.int .i64 0), (.slice none 0 0), (.slice none 0 0), (.slice none 0 0)] 5 5 tZr25_LfD fun h5 => ?_ <;> refine aL_end (back _ (nrm ?_)) <;> (refine aD_one 13 (by kernel_rfl) ?_) <;> (refine aW_run rfl fun w9 M9 N9 DQ back => ?_) <;> (refine s_sta 5 (m := 5) (by kernel_rfl) ?_ (h1 := by show (List.all [pInt (a.n + 1), pInt a.syms, pInts [a.n], pInts [a.n], PV.val v26] En.one) = true; simp only [List.all_cons, List.all_nil, Bool.and_true, Bool.and_eq_true]; exact ⟨rfl, rfl, rfl, rfl, ho26⟩)) <;> refine aL_end (back _ (nrm ?_))))))))))) <;> refine aD_end (by kernel_rfl) (nav ?_) <;> try dsimp only) <;> (
      exact aN_join ⟨(v26, h5), ho26⟩ ⟨rfl, rfl, rfl, rfl, trivial⟩ ⟨rfl, rfl, rfl, rfl, trivial⟩)
   · rintro ⟨⟨v26, h5⟩, ho26⟩
     dsimp only at ho26 ⊢
     refine aC_ent (relabel (l := 26) 301 rfl rfl) fun _ => ?_
     refine aC_ent (recast (l := 301) (p' := .own 40 3 (a.moves ++ stMv a.n (a.start.take 0)).length ((a.moves ++ stMv a.n (a.start.take 0)).flatMap cMv)) rfl (by rw [show stMv a.n (a.start.take 0) = [] from rfl, List.append_nil])) fun _ => ?_
     refine nav ?_
     (refine aC_region ?_ <;> refine xL 28 (q_fldo 1 tFl25_2_LdI) ?_ <;> (refine yL 29 (q_ldo 1 tNa22_LdI) fun v29 hv29 => ?_; cases hv29) <;> refine xL 30 (q_len tSl22_LbB) ?_ <;> refine xL 31 q_move ?_ <;> refine aL_end (nav ?_) <;> try dsimp only)
     refine aC_loop (ι := { q : Nat × Value // q.1 ≤ a.start.length ∧ q.2.oneCell' = true }) (fun k => ⟨[(1, _, _), (2, _, _), (4, _, _), (5, _, _), (29, _, _), (30, _, _), (31, .int .i64 k.1.1, pInt k.1.1)], [(1, _, _), (2, _, _), (5, h5, .own 25 5 1 [pInt (a.n + 1), pInt a.syms, pInts [a.n], pInts [a.n], .val k.1.2]), (301, k.1.2, .own 40 3 (a.moves ++ stMv a.n (a.start.take k.1.1)).length ((a.moves ++ stMv a.n (a.start.take k.1.1)).flatMap cMv))]⟩) (fun k => a.start.length - k.1.1) ⟨(0, v26), Nat.zero_le _, ho26⟩ (fun a w H => H.weaken ⟨rfl, rfl, rfl, rfl, rfl, rfl, rfl, trivial⟩ ⟨rfl, rfl, rfl, rfl, trivial⟩) ?_
     rintro ⟨⟨k, hM⟩, hk, hMo⟩
     dsimp only
     dsimp only at hk hMo
     have hl1 : (a.moves ++ stMv a.n (a.start.take k)).length ≤ 30000 := by unfold stMv; rw [List.length_append, List.length_map, List.length_take]; omega
     refine nav ?_
     (refine aC_region ?_ <;> refine xL 32 q_lss ?_ <;> refine aL_end (nav ?_) <;> try dsimp only)
     (first | refine cCd ?_ ?_ | refine cC ?_ ?_) <;> intro hb32
     · first
       | exact Bool.noConfusion hb32
       | (
        obtain ⟨x, hx⟩ := get_some (show k < a.start.length by omega)
        have e1 := map_at (f := pInt) hx
        refine nav ?_
        (refine aC_region ?_ <;> refine xL 33 (q_idxN tSl22_LbB) ?_ <;> (refine yL 34 (q_ld tNa3_LbB) fun v34 hv34 => ?_; cases hv34) <;> refine xL 7 q_assign ?_ <;> refine aL_end (nav ?_) <;> try dsimp only)
        (refine aC_region ?_ <;> refine xL 35 (q_fldo 5 tFl25_4_LdI) ?_ <;> (refine yL 36 (q_ldo 5 tNa23_LdI) fun v36 hv36 => ?_; cases hv36) <;> refine xL 37 q_move ?_ <;> refine xL 38 q_move ?_ <;> refine xL 39 (q_build tSt40_LfD) ?_ <;> refine s_lit1a 40 tEl23_LdR fun h40 ho40 => ?_ <;> (refine s_app 301 40 41 tEl23_LdR fun h41 ho41 => ?_; refine aL_ent (relabel (l := 41) 301 rfl rfl) fun _ => ?_; refine aL_ent (recast (l := 301) rfl ((snoc_mv _ (a.moves ++ stMv a.n (a.start.take k)) ⟨a.n, x, -1⟩).trans (by rw [List.append_assoc, ← stMv_snoc a.n hx]))) fun _ => ?_) <;> refine xL 42 (q_fldo 5 tFl25_4_LdI) ?_ <;> refine s_st 5 tNa23_LdI tSz23_LdR ?_ <;> refine aL_end (nav ?_) <;> try dsimp only)
        (refine aC_region ?_ <;> refine xL 43 q_add ?_ <;> refine xL 31 q_move ?_ <;> refine aL_end (nav ?_) <;> try dsimp only)
        refine aN_again (
         ⟨(k + 1, h41), lt_of_get hx, ho41⟩
         ) (by dsimp only; omega) ⟨rfl, rfl, rfl, rfl, rfl, rfl, rfl, trivial⟩ ⟨rfl, rfl, rfl, rfl, trivial⟩)
     · first
       | exact Bool.noConfusion hb32
       | (
        rw [List.take_of_length_le (show a.start.length ≤ k by omega)]
        rw [show a.moves ++ stMv a.n a.start = a.moves ++ stMv a.n a.start ++ fiMv a.n (a.fin.take 0) from (List.append_nil _).symm]
        refine nav ?_
        (refine aC_region ?_ <;> refine xL 44 (q_fldo 1 tFl25_3_LdI) ?_ <;> (refine yL 45 (q_ldo 1 tNa22_LdI) fun v45 hv45 => ?_; cases hv45) <;> refine xL 46 (q_len tSl22_LbB) ?_ <;> refine xL 47 q_move ?_ <;> refine aL_end (nav ?_) <;> try dsimp only)
        refine aC_loop (ι := { q : Nat × Value // q.1 ≤ a.fin.length ∧ q.2.oneCell' = true }) (fun k => ⟨[(1, _, _), (2, _, _), (4, _, _), (5, _, _), (45, _, _), (46, _, _), (47, .int .i64 k.1.1, pInt k.1.1)], [(1, _, _), (2, _, _), (5, h5, .own 25 5 1 [pInt (a.n + 1), pInt a.syms, pInts [a.n], pInts [a.n], .val k.1.2]), (301, k.1.2, .own 40 3 (a.moves ++ stMv a.n a.start ++ fiMv a.n (a.fin.take k.1.1)).length ((a.moves ++ stMv a.n a.start ++ fiMv a.n (a.fin.take k.1.1)).flatMap cMv))]⟩) (fun k => a.fin.length - k.1.1) ⟨(0, hM), Nat.zero_le _, hMo⟩ (fun a w H => H.weaken ⟨rfl, rfl, rfl, rfl, rfl, rfl, rfl, trivial⟩ ⟨rfl, rfl, rfl, rfl, trivial⟩) ?_
        rintro ⟨⟨j, hM2⟩, hj, hM2o⟩
        dsimp only
        dsimp only at hj hM2o
        have hl2 : (a.moves ++ stMv a.n a.start ++ fiMv a.n (a.fin.take j)).length ≤ 30000 := by unfold stMv fiMv; rw [List.length_append, List.length_append, List.length_map, List.length_map, List.length_take]; omega
        refine nav ?_
        (refine aC_region ?_ <;> refine xL 48 q_lss ?_ <;> refine aL_end (nav ?_) <;> try dsimp only)
        (first | refine cCd ?_ ?_ | refine cC ?_ ?_) <;> intro hb48
        · first
          | exact Bool.noConfusion hb48
          | (
           obtain ⟨y, hy⟩ := get_some (show j < a.fin.length by omega)
           have e1 := map_at (f := pInt) hy
           refine nav ?_
           (refine aC_region ?_ <;> refine xL 49 (q_idxN tSl22_LbB) ?_ <;> (refine yL 50 (q_ld tNa3_LbB) fun v50 hv50 => ?_; cases hv50) <;> refine xL 9 q_assign ?_ <;> refine aL_end (nav ?_) <;> try dsimp only)
           (refine aC_region ?_ <;> refine xL 51 (q_fldo 5 tFl25_4_LdI) ?_ <;> (refine yL 52 (q_ldo 5 tNa23_LdI) fun v52 hv52 => ?_; cases hv52) <;> refine xL 53 q_move ?_ <;> refine xL 54 q_move ?_ <;> refine xL 55 (q_build tSt40_LfD) ?_ <;> refine s_lit1a 56 tEl23_LdR fun h56 ho56 => ?_ <;> (refine s_app 301 56 57 tEl23_LdR fun h57 ho57 => ?_; refine aL_ent (relabel (l := 57) 301 rfl rfl) fun _ => ?_; refine aL_ent (recast (l := 301) rfl ((snoc_mv _ (a.moves ++ stMv a.n a.start ++ fiMv a.n (a.fin.take j)) ⟨y, a.n, -1⟩).trans (by rw [List.append_assoc (a.moves ++ stMv a.n a.start), ← fiMv_snoc a.n hy]))) fun _ => ?_) <;> refine xL 58 (q_fldo 5 tFl25_4_LdI) ?_ <;> refine s_st 5 tNa23_LdI tSz23_LdR ?_ <;> refine aL_end (nav ?_) <;> try dsimp only)
           (refine aC_region ?_ <;> refine xL 59 q_add ?_ <;> refine xL 47 q_move ?_ <;> refine aL_end (nav ?_) <;> try dsimp only)
           refine aN_again (
            ⟨(j + 1, h57), lt_of_get hy, ho57⟩
            ) (by dsimp only; omega) ⟨rfl, rfl, rfl, rfl, rfl, rfl, rfl, trivial⟩ ⟨rfl, rfl, rfl, rfl, trivial⟩)
        · first
          | exact Bool.noConfusion hb48
          | (
           rw [List.take_of_length_le (show a.fin.length ≤ j by omega)]
           have hone : En.one (PV.val hM2) = true := hM2o
           refine nav ?_
           refine aC_ent (relabel (l := 301) 1000 rfl rfl) fun _ => ?_
           (refine aC_region ?_ <;> (refine yL 60 (q_ldao (k := 5) (ps := [pInt (a.n + 1), pInt a.syms, pInts [a.n], pInts [a.n], PV.val hM2]) 5 (by kernel_rfl)) fun v60 hv60 => ?_; cases hv60) <;> (refine aL_heap [(1000, hM2, PV.own 40 3 (starA a).moves.length ((starA a).moves.flatMap cMv)), (1, _, _), (2, _, _), (5, _, _)] ⟨rfl, rfl, rfl, rfl, trivial⟩ ?_; refine aL_ch [1, 2, 5] 61 (Tryd.call30) (aMade_g (starA a) (star_len h.toAOk) (star_nodup h) _ hM2 hM2o r5 hr) ?_; rintro _ _ _ ⟨⟨V1, rfl⟩, rfl, rfl⟩) <;> refine xL 62 q_extract ?_ <;> refine xL 63 q_extract ?_ <;> refine s_sta 2 tAgg25_LdS ?_ <;> refine xL 3 q_assign ?_ <;> refine aL_end (nav ?_) <;> try dsimp only)
           exact ret_cs (k := 5) 2 (by kernel_rfl) (Tryd.results13) rfl rfl rfl (Nat.le_of_ble_eq_true rfl) (by decide) r5.s rfl))
theorem aStar_e (a : Aut) : AF Tryd.prog 13 [pAut a] (· = resW (starX a)) := by
 cases hv : autOk a with
 | false => rw [starX_bad hv]; exact aStar_bad a hv
 | true =>
   rw [starX_ok hv]
   have h := vok_of hv
   obtain ⟨p0, p1, p2, p3, p4, E, h5, h2, hr⟩ := aReduced_5 (starA a) (star_len h.toAOk) (star_pre h)
   rw [h2]; exact aStar_g a hv h5 hr
theorem rowMv_at {i : Nat} {r : List Nat} {s n : Nat} (h : r[s]? = some n) : (rowMv i r)[s]? = some ⟨(i : Nat), (n : Nat), (s : Nat)⟩ := by
 unfold rowMv
 rw [List.getElem?_map, List.getElem?_zipIdx, h]
 show some (⟨(i : Nat), (n : Nat), ((0 + s : Nat) : Int)⟩ : Mv) = _
 rw [Nat.zero_add]
def mvFrom (k : Nat) (rows : List (List Nat)) : List Mv := (rows.zipIdx k).flatMap fun p => rowMv p.2 p.1
theorem mvFrom_cons (k : Nat) (r : List Nat) (rows : List (List Nat)) : mvFrom k (r :: rows) = rowMv k r ++ mvFrom (k + 1) rows := by
 unfold mvFrom; rw [List.zipIdx_cons, List.flatMap_cons]
theorem mvFrom_at {m : Nat} : ∀ {rows : List (List Nat)} {k i s n : Nat} {r : List Nat}, (∀ r ∈ rows, r.length = m) → rows[i]? = some r → r[s]? = some n → (mvFrom k rows)[i * m + s]? = some ⟨((k + i : Nat) : Int), (n : Nat), (s : Nat)⟩
 | [], _, _, _, _, _, _, h, _ => by simp at h
 | x :: rows, k, 0, s, n, r, hl, hr, hs => by
   simp only [List.getElem?_cons_zero, Option.some.injEq] at hr
   subst hr
   rw [mvFrom_cons, Nat.zero_mul, Nat.zero_add, List.getElem?_append_left (by rw [rowMv_len]; exact lt_of_get hs), rowMv_at hs]; rfl
 | x :: rows, k, i + 1, s, n, r, hl, hr, hs => by
   simp only [List.getElem?_cons_succ] at hr
   have hx := hl x (List.mem_cons_self ..)
   rw [mvFrom_cons, List.getElem?_append_right (by rw [rowMv_len, hx, Nat.succ_mul]; omega), rowMv_len, hx, show (i + 1) * m + s - m = i * m + s by rw [Nat.succ_mul]; omega, mvFrom_at (fun r hr => hl r (List.mem_cons_of_mem _ hr)) hr hs]
   rw [show k + 1 + i = k + (i + 1) by omega]
theorem rowMv_src {i : Nat} {r : List Nat} : ∀ m ∈ rowMv i r, m.src = (i : Nat) := fun m hm => by
 obtain ⟨n, s, _, rfl⟩ := mem_rowMv hm
 rfl
theorem mvFrom_src {k : Nat} {rows : List (List Nat)} : ∀ m ∈ mvFrom k rows, (k : Int) ≤ m.src := fun m hm => by
 unfold mvFrom at hm
 obtain ⟨p, hp, hm⟩ := List.mem_flatMap.1 hm
 rw [rowMv_src m hm]
 have := List.mem_zipIdx hp
 omega
theorem mvFrom_of : ∀ {rows : List (List Nat)} {k i : Nat} {r : List Nat}, rows[i]? = some r → (mvFrom k rows).filter (fun m => decide (m.src = ((k + i : Nat) : Int))) = rowMv (k + i) r
 | [], _, _, _, h => by simp at h
 | x :: rows, k, 0, r, h => by
   simp only [List.getElem?_cons_zero, Option.some.injEq] at h
   subst h
   rw [Nat.add_zero, mvFrom_cons, List.filter_append, List.filter_eq_self.2 fun m hm => decide_eq_true (rowMv_src m hm), List.filter_eq_nil_iff.2 fun m hm => by
    have := mvFrom_src m hm
    simp only [decide_eq_true_eq]; omega, List.append_nil]
 | x :: rows, k, i + 1, r, h => by
   simp only [List.getElem?_cons_succ] at h
   rw [mvFrom_cons, List.filter_append, List.filter_eq_nil_iff.2 fun m hm => by
    have := rowMv_src m hm
    simp only [decide_eq_true_eq]; omega, List.nil_append, show k + (i + 1) = k + 1 + i by omega]
   exact mvFrom_of h
structure DetA (A : Aut) : Prop where
 ok : AOk A
 pos : 0 < A.n.toNat
 mo : ∀ i s, i < A.n.toNat → s < A.syms.toNat → ∃ x : Mv, (movesOf A i)[s]? = some x ∧ A.moves[i * A.syms.toNat + s]? = some x ∧ x.dst = (stepA A i s : Nat)
 ml : ∀ i, i < A.n.toNat → (movesOf A i).length = A.syms.toNat
 sl : ∀ i s, i < A.n.toNat → s < A.syms.toNat → stepA A i s < A.n.toNat
theorem stepA_at {A : Aut} {i s : Nat} {x : Mv} (h : A.moves[i * A.syms.toNat + s]? = some x) : stepA A i s = x.dst.toNat := by
 unfold stepA; rw [h]; rfl
theorem det_Q {t : Tab} (ht : TOk t) {o : List Nat} {rows : List (List Nat)} (h : Fin t o rows) (hm : (movesT rows).length ≤ 20000) : DetA (autQ t (o, rows)) := by
 have hok := autQ_aok ht h hm
 have hn : (autQ t (o, rows)).n.toNat = o.length := Int.toNat_natCast _
 have hs : (autQ t (o, rows)).syms.toNat = t.m := Int.toNat_natCast _
 have key : ∀ i s, i < o.length → s < t.m → ∃ (r : List Nat) (n : Nat), rows[i]? = some r ∧ r[s]? = some n ∧ n < o.length ∧ (autQ t (o, rows)).moves[i * t.m + s]? = some ⟨(i : Nat), (n : Nat), (s : Nat)⟩ ∧ movesOf (autQ t (o, rows)) i = rowMv i r := fun i s hi hs => by
  obtain ⟨r, hr⟩ := get_some (show i < rows.length by rw [h.len]; exact hi)
  have hrl : r.length = t.m := h.ok.len r (List.mem_of_getElem? hr)
  obtain ⟨n, hn⟩ := get_some (show s < r.length by omega)
  obtain ⟨x, hx⟩ := get_some hi
  refine ⟨r, n, hr, hn, (h.ok.to i x r s n hx hr hn).1, ?_, ?_⟩
  · have := mvFrom_at (k := 0) h.ok.len hr hn
    rw [Nat.zero_add] at this
    exact this
  · have := mvFrom_of (k := 0) hr
    rw [Nat.zero_add] at this
    exact this
 refine ⟨hok, by rw [hn]; exact h.pos, fun i s hi hs' => ?_, fun i hi => ?_, fun i s hi hs' => ?_⟩
 · rw [hn] at hi
   rw [hs] at hs' ⊢
   obtain ⟨r, n, h1, h2, h3, h4, h5⟩ := key i s hi hs'
   refine ⟨_, by rw [h5]; exact rowMv_at h2, h4, ?_⟩
   rw [stepA_at (by rw [hs]; exact h4)]
   show ((n : Nat) : Int) = (((n : Nat) : Int).toNat : Nat)
   rw [Int.toNat_natCast]
 · rw [hn] at hi
   obtain ⟨r, hr⟩ := get_some (show i < rows.length by rw [h.len]; exact hi)
   have := mvFrom_of (k := 0) hr
   rw [Nat.zero_add] at this
   show ((movesT rows).filter fun m => decide (m.src = (i : Int))).length = _
   rw [show ((movesT rows).filter fun m => decide (m.src = (i : Int))) = rowMv i r from this, rowMv_len, hs]
   exact h.ok.len r (List.mem_of_getElem? hr)
 · rw [hn] at hi ⊢
   rw [hs] at hs'
   obtain ⟨r, n, h1, h2, h3, h4, h5⟩ := key i s hi hs'
   rw [stepA_at (by rw [hs]; exact h4)]
   show ((n : Nat) : Int).toNat < _
   rw [Int.toNat_natCast]; exact h3
theorem redX_det {a A : Aut} (h : AOk a) (hr : redX a = .ok A) : DetA A ∧ A.syms = a.syms := by
 obtain ⟨t, o, rows, hs, hT, _, hF, rfl, hm⟩ := redX_ok h hr
 refine ⟨det_Q hT hF hm, ?_⟩
 unfold subT at hs
 obtain ⟨q, _, rfl⟩ := Option.map_eq_some_iff.1 hs
 show ((a.syms.toNat : Nat) : Int) = a.syms
 have := h.s0
 omega
def PairOk (A B : Aut) (x : (Nat × Nat) × (Int × Int)) : Prop := x.1.1 < A.n.toNat ∧ x.1.2 < B.n.toNat
theorem prod_ok {A B : Aut} (hA : DetA A) (hB : DetA B) (hs : A.syms = B.syms) {i : Nat} {o : List ((Nat × Nat) × (Int × Int))} {rows : List (List Nat)} (hu : (prodW A B).upto ((0, 0), (-1, -1)) i = some (o, rows)) : (prodW A B).Ok (PairOk A B) ((0, 0), (-1, -1)) o rows ∧ (i ≤ o.length → rows.length = i) ∧ (o.length ≤ i → rows.length = o.length) :=
 Srch.ok (W := prodW A B) (P := PairOk A B) (show 1 ≤ 2000 by decide) ⟨hA.pos, hB.pos⟩ (fun i x s hx hsm => ⟨hA.sl _ _ hx.1 hsm, hB.sl _ _ hx.2 (by have : s < A.syms.toNat := hsm; rw [← hs]; exact this)⟩) hu
end Go.Proofs.YtgigclnaicbiaaaDoor
namespace Go.En
open Go.RowKit Go.Cb
set_option linter.all false
abbrev Pi2 := Int × Int
def ikey (k : Pi2) : Value := .agg #[.int .i64 k.1, .int .i64 k.2]
theorem ikey_inj {a b : Pi2} (h : ikey a = ikey b) : a = b := by
 simp [ikey] at h
 exact Prod.ext h.1 h.2
def pikv (m : List (Pi2 × Value)) : List (Value × Value) := m.map fun x => (ikey x.1, x.2)
def piOk (k : Pi2) : Prop := (0 ≤ k.1 ∧ k.1 ≤ 1000000) ∧ (0 ≤ k.2 ∧ k.2 ≤ 1000000)
structure PiT (P : Program) (t ks s e : Nat) (z : Value) : Prop where
 ht : P.underlying t = some (.map ks e)
 hu : P.underlying ks = some (.array 2 s)
 hs : P.underlying s = some (.int .i64)
 hk : P.keyType ks = true
 hk2 : P.keyTypeAt 2 ks = true
 hti : P.tiled 2 ks = true
 hc2 : P.cellsOf ks = 2
 hc1 : P.cellsOf s = 1
 hf : ∀ a b : Int, (Value.agg #[.int .i64 a, .int .i64 b]).formed P ks = true
 hsz : ∃ n, P.types.size = n + 1
 hz : ZeroT P e z
theorem PiT.law {P : Program} {t ks s e : Nat} {z : Value} (h : PiT P t ks s e z) : WideMaps.KeyLaw P ks := deep_law (m := 2) (by decide) h.hk2 h.hti (by rw [h.hu])
theorem PiT.key {P : Program} {t ks s e : Nat} {z : Value} (h : PiT P t ks s e z) {k : Pi2} (hk : piOk k) : ∃ l, keyOf P ks (ikey k) = some l := by
 obtain ⟨n, hn⟩ := h.hsz
 have hl : ∀ c : Int, (0 ≤ c ∧ c ≤ 1000000) → P.keyLits (n + 1) s [.int .i64 c] = some [.int .i64 c] := fun c hc => by
  unfold Program.keyLits
  rw [h.hs]
  dsimp only
  rw [if_pos ⟨rfl, by simp [Lit.wf, IntKind.min, IntKind.max, IntKind.signed, IntKind.bits]; omega⟩]
 unfold keyOf
 rw [h.hu]
 dsimp only
 rw [h.hk, show (ikey k).formed P ks = true from h.hf _ _, hn]
 refine ⟨.string (keyBytes [.int .i64 k.1, .int .i64 k.2]), ?_⟩
 rw [if_pos (show (true && true) = true from rfl)]
 unfold Program.keyLits
 rw [h.hu]
 dsimp only [ikey, Value.cells]
 rw [h.hc2, h.hc1]
 rw [if_pos (by rfl)]
 rw [show List.range 2 = [0, 1] from rfl]
 simp only [List.mapM_cons, List.mapM_nil, Nat.zero_mul, Nat.one_mul, List.drop_zero, List.drop_succ_cons, List.take_succ_cons, List.take_zero, hl _ hk.1, hl _ hk.2]
 rfl
theorem aget_none2 {m : List (Pi2 × Value)} {k : Pi2} (h : ∀ x ∈ m, x.1 ≠ k) : aget m k = none := by
 induction m with
 | nil => rfl
 | cons x m ih =>
   rw [aget, if_neg (fun e => h x (by simp) e.symm)]
   exact ih fun y hy => h y (by simp [hy])
theorem aget_some2 {m : List (Pi2 × Value)} (hn : (m.map (·.1)).Nodup) {j : Nat} {k : Pi2} {v : Value} (h : m[j]? = some (k, v)) : aget m k = some v := by
 induction m generalizing j with
 | nil => simp at h
 | cons x m ih =>
   rw [List.map_cons, List.nodup_cons] at hn
   cases j with
   | zero => simp at h; subst h; rw [aget, if_pos rfl]
   | succ j =>
     rw [List.getElem?_cons_succ] at h
     rw [aget, if_neg (fun e => hn.1 (List.mem_map.2 ⟨_, List.mem_of_getElem? h, e⟩))]
     exact ih hn.2 h
theorem ent_at2 {es : Array MapEntry} {m : List (Pi2 × Value)} (h : kvOf es = pikv m) {j : Nat} {e : MapEntry} {k : Pi2} (he : es[j]? = some e) (hk : e.key = ikey k) : m[j]? = some (k, e.val) := by
 have h1 : (kvOf es)[j]? = some (ikey k, e.val) := by
  unfold kvOf
  rw [List.getElem?_map, Array.getElem?_toList, he, ← hk]; rfl
 rw [h] at h1
 unfold pikv at h1
 rw [List.getElem?_map, Option.map_eq_some_iff] at h1
 obtain ⟨⟨k', v'⟩, h2, h3⟩ := h1
 obtain ⟨h4, h5⟩ := Prod.mk.inj h3
 dsimp only at h4 h5
 rw [h2, ikey_inj h4, h5]
theorem keys_all2 {es : Array MapEntry} {m : List (Pi2 × Value)} (h : kvOf es = pikv m) : ∀ e ∈ es.toList, ∃ x ∈ m, e.key = ikey x.1 := fun e he => by
 have h1 : (e.key, e.val) ∈ kvOf es := List.mem_map.2 ⟨e, he, rfl⟩
 rw [h] at h1
 obtain ⟨x, hx, hxe⟩ := List.mem_map.1 h1
 exact ⟨x, hx, (Prod.mk.inj hxe).1.symm⟩
theorem find_pi {P : Program} {t ks s e : Nat} {z : Value} (hT : PiT P t ks s e z) {es : Array MapEntry} {m : List (Pi2 × Value)} (h : kvOf es = pikv m) (hm : ∀ x ∈ m, piOk x.1) (hn : (m.map (·.1)).Nodup) {k : Pi2} (hk : piOk k) (w : World) :
 (aget m k = none ∧ (Instr.findKey ks (ikey k) es.toList).run P w = .ok none w) ∨ ∃ (j : Nat) (e0 : MapEntry), es[j]? = some e0 ∧ e0.key = ikey k ∧ aget m k = some e0.val ∧ (Instr.findKey ks (ikey k) es.toList).run P w = .ok (some (j, e0.val)) w := by
 obtain ⟨l, hl⟩ := hT.key hk
 have hall : ∀ e ∈ es.toList, ∃ l, keyOf P ks e.key = some l := fun e he => by
  obtain ⟨x, hx, hxe⟩ := keys_all2 h e he
  rw [hxe]; exact hT.key (hm x hx)
 rcases hT.law.find w hl es.toList hall with ⟨h1, h2⟩ | ⟨j, e0, h1, h2, h3⟩
 · refine .inl ⟨aget_none2 fun x hx e => ?_, h1⟩
   obtain ⟨i, hi⟩ := List.getElem?_of_mem hx
   have h4 : (kvOf es)[i]? = some (ikey x.1, x.2) := by rw [h]; unfold pikv; rw [List.getElem?_map, hi]; rfl
   unfold kvOf at h4
   rw [List.getElem?_map, Option.map_eq_some_iff] at h4
   obtain ⟨e0, h5, h6⟩ := h4
   exact h2 e0 (List.mem_of_getElem? h5) (by rw [(Prod.mk.inj h6).1, e])
 · have h4 : es[j]? = some e0 := by rw [← Array.getElem?_toList]; exact h2
   exact .inr ⟨j, e0, h4, h3, aget_some2 hn (ent_at2 h h4 h3), h1⟩
section
variable {P : Program} {c : Ctx} {ops : Array Oper} {Q : Exit → Act → World → Prop} {rest : List Oper} {sL hP : List (Nat × Ent)} {o : Oper}
theorem look2_pi {t ks s e : Nat} {z : Value} (hT : PiT P t ks s e z) {b clock : Nat} {es : Array MapEntry} {m : List (Pi2 × Value)} (h : kvOf es = pikv m) (hm : ∀ x ∈ m, piOk x.1) (hn : (m.map (·.1)).Nodup) {k : Pi2} (hk : piOk k) {w : World} (hb : w.heap[b]? = some (.map es clock)) : (Instr.lookup t (.map (some b)) (ikey k) true).run P w = .ok (.tuple [(aget m k).getD z, .bool (aget m k).isSome].toArray) w := by
 obtain ⟨l, hl⟩ := hT.key hk
 have hck := fun em => hT.law.check w em hl
 unfold Instr.lookup
 simp only [Sem.run_bind, run_underlying hT.ht, Result.andThen_ok, getObj, Sem.run, hb, hck]
 rcases find_pi hT h hm hn hk w with ⟨h1, h2⟩ | ⟨j, e0, h3, h4, h1, h2⟩
 · simp [h1, h2, hck, ZeroT.run hT.hz]
 · simp [h1, h2, hck]
theorem q_look2P {t ks s e : Nat} {z u : Value} {x y : Operand} {mv : Value} {V : Value} {m : List (Pi2 × Value)} {k : Pi2} {b : Bool} {p : PV} (l : Nat) (hT : PiT P t ks s e z) (hm : ∀ x ∈ m, piOk x.1) (hn : (m.map (·.1)).Nodup) (hk : piOk k) (hu : (aget m k).getD z = u) (hb : (aget m k).isSome = b) (ho : o.op = .lookup t x y true := by exact rfl) (hx : ev sL x = some (mv, p) := by exact rfl) (hl : lk hP l = some (mv, .omap (pikv m)) := by exact rfl) (hy : ev sL y = some (V, .agg [.val (.int .i64 k.1), .val (.int .i64 k.2)]) := by exact rfl) : YE P (⟨sL, hP⟩ : St) o (· = .tuple [u, .bool b].toArray) (.tup [.val u, .val (.bool b)]) := .exact fun M F a w H => by
 subst hu hb
 have hv := (H.ev hx).1
 obtain ⟨hkv, hS⟩ := H.ev hy
 have hV : V = ikey k := agg_plain (us := [.int .i64 k.1, .int .i64 k.2]) hS
 rw [hV] at hkv
 obtain ⟨b, es, clock, rfl, he, h, _⟩ := (H.tr l _ _ hl).map
 refine ⟨.tup [(aget m k).getD z, .bool (aget m k).isSome] _ rfl fun i x p hx hp => ?_, by simp [execOp, ho, hv, hkv, look2_pi hT he.symm hm hn hk h]⟩
 match i with
 | 0 => simp at hx hp; subst hx hp; exact .val _
 | 1 => simp at hx hp; subst hx hp; exact .val _
 | i + 2 => simp at hx
theorem s_mput2 {t ks s e : Nat} {z : Value} {x y u : Operand} {mv V v : Value} {m : List (Pi2 × Value)} {k : Pi2} {p r : PV} (l : Nat) (hT : PiT P t ks s e z) (hm : ∀ x ∈ m, piOk x.1) (hn : (m.map (·.1)).Nodup) (hk : piOk k) (hno : aget m k = none)
 (kk : aL P c ops Q rest ⟨sL, put l (mv, .omap (pikv (m ++ [(k, v)]))) hP⟩) (hw : wants ops sL o = some true := by exact rfl) (hd : o.dst = none := by exact rfl) (ho : o.op = .mapUpdate t x y u ∨ o.op = .insert t x y u := by first | exact .inl rfl | exact .inr rfl) (hx : ev sL x = some (mv, p) := by exact rfl) (hl : lk hP l = some (mv, .omap (pikv m)) := by exact rfl) (hy : ev sL y = some (V, .agg [.val (.int .i64 k.1), .val (.int .i64 k.2)]) := by exact rfl) (hu : ev sL u = some (v, r) := by exact rfl) : aL P c ops Q (o :: rest) (⟨sL, hP⟩ : St) :=
 aL_run hw fun a w F H => by
  have hxv := (H.rd.ev hx).1
  obtain ⟨hyv, hS⟩ := H.rd.ev hy
  have hV : V = ikey k := agg_plain (us := [.int .i64 k.1, .int .i64 k.2]) hS
  rw [hV] at hyv
  have huv := (H.rd.ev hu).1
  obtain ⟨b, es, clock, rfl, he, hb, hFb, hWf⟩ := (H.tr l _ _ hl).mapW
  obtain ⟨lt', hlt'⟩ := hT.key hk
  have hck := hT.law.check w false hlt'
  have main : ∀ (es' : Array MapEntry) (clock' : Nat), WfM es' clock' → kvOf es' = pikv (m ++ [(k, v)]) → Holds c ⟨sL, put l (.map (some b), .omap (pikv (m ++ [(k, v)]))) hP⟩ a { w with heap := w.heap.setIfInBounds b (.map es' clock') } := fun es' clock' hW' he' => by
   have hlt := blk_lt hb
   have hch : Chg (fun x => x = b) w { w with heap := w.heap.setIfInBounds b (.map es' clock') } := ⟨rfl, rfl, rfl, by simp, fun i hi hne => by
    rw [Array.getElem?_setIfInBounds_ne (fun e => hne e.symm)]⟩
   refine ⟨F, H.change0 (fun l' => l' = l) (hch.wid fun x hx => .inl ⟨l, _, rfl, hl, (hFb x).2 hx⟩) (fun l' x hne hx' => ?_) (fun l' x b' hT' hx' hb' => ?_) (fun hmm l' u q hT' hx' => ?_) (fun l1 l2 _ _ _ h1 h2 hne => absurd (h1.trans h2.symm) hne)⟩
   · rcases lk_put hx' with ⟨e1, _⟩ | ⟨_, e1⟩
     · exact absurd e1.symm hne
     · exact ⟨e1, rfl⟩
   · subst hT'; exact .inl ⟨l', _, rfl, hl, hb'⟩
   · subst hT'
     rw [lk_put_self] at hx'
     cases hx'
     rw [← he']
     exact .omap b es' clock' (by simp [hlt]) hFb hW'
  unfold Oper.wp
  rcases find_pi hT he.symm hm hn hk w with ⟨h1, h2⟩ | ⟨j, e0, h3, h4, h1, h2⟩
  · have hkv : kvOf (es.push { key := ikey k, val := v, born := clock }) = pikv (m ++ [(k, v)]) := by
     unfold pikv at he ⊢
     rw [List.map_append, he]
     simp [kvOf]
    unfold execOp
    rcases ho with ho | ho
    · simp [ho, hxv, hyv, huv, Instr.mapUpdate, run_underlying hT.ht, getObj, setObj, Sem.run, hb, hck, h2, Oper.upon, hd, Act.put]
      exact kk _ _ (main _ _ (wf_push hWf) hkv)
    · simp [ho, hxv, hyv, huv, Instr.mapUpdate, run_underlying hT.ht, getObj, setObj, Sem.run, hb, hck, h2, Oper.upon, hd, Act.put]
      exact kk _ _ (main _ _ (wf_push hWf) hkv)
  · rw [hno] at h1; cases h1
end
section
variable {P : Program} {sL hP : List (Nat × Ent)} {o : Oper}
theorem q_build311 {t : Nat} {x y u : Operand} {V vy vu z z0 z1 z2 z3 z4 : Value} {p0 p1 p2 py pu : PV} (hT : stInfo P t = some (z, [(0, 3), (3, 1), (4, 1)])) (hzs : z.cells = #[z0, z1, z2, z3, z4]) (hy1 : vy.oneCell' = true) (hu1 : vu.oneCell' = true) (ho : o.op = .build t #[(0, x), (1, y), (2, u)] := by exact rfl) (hx : ev sL x = some (V, .agg [p0, p1, p2]) := by exact rfl) (hy : ev sL y = some (vy, py) := by exact rfl) (hu : ev sL u = some (vu, pu) := by exact rfl) : YE P (⟨sL, hP⟩ : St) o (fun _ => True) (.agg [p0, p1, p2, py, pu]) := fun M F a w H => by
 obtain ⟨hx1, hx2⟩ := H.ev hx
 obtain ⟨hy2, hy3⟩ := H.ev hy
 obtain ⟨hu2, hu3⟩ := H.ev hu
 generalize hp : PV.agg [p0, p1, p2] = p at hx2
 cases hx2 with
 | agg vs ps hl hV =>
   cases hp
   match vs, hl, hV with
   | [a0, a1, a2], _, hV =>
     have s0 := hV 0 a0 p0 rfl rfl
     have s1 := hV 1 a1 p1 rfl rfl
     have s2 := hV 2 a2 p2 rfl rfl
     refine ⟨.agg [a0, a1, a2, vy, vu].toArray, trivial, .agg _ _ rfl fun i v q hv hq => ?_, fun N W _ _ _ => ?_⟩
     · match i with
       | 0 => simp at hv hq; subst hv hq; exact s0
       | 1 => simp at hv hq; subst hv hq; exact s1
       | 2 => simp at hv hq; subst hv hq; exact s2
       | 3 => simp at hv hq; subst hv hq; exact hy3
       | 4 => simp at hv hq; subst hv hq; exact hu3
       | i + 5 => simp at hv
     · have c1 := cells_one hy1
       have c2 := cells_one hu1
       have hb : P.built t [(0, Value.agg [a0, a1, a2].toArray), (1, vy), (2, vu)] = some [a0, a1, a2, vy, vu].toArray := by
        unfold stInfo at hT
        split at hT
        · rename_i i fs hi hf
          split at hT
          · rename_i z' pl hz hpl
            cases hT
            unfold Program.built
            simp only [hi, hf, hz, hpl, hzs]
            have h0 : (Value.agg #[a0, a1, a2]).cells = #[a0, a1, a2] := rfl
            simp [Instr.fill, h0, c1, c2, Array.zipIdx]
          · cases hT
        · cases hT
       have := run_build (P := P) W t #[(0, Value.agg [a0, a1, a2].toArray), (1, vy), (2, vu)] _ hb
       simp [execOp, ho, hx1, hy2, hu2, this]
 | _ => cases hp
end
section
variable {P : Program} {c : Ctx} {sL hP : List (Nat × Ent)}
theorem ret_sss {fn : Func} {R : PV → Prop} {t s r : Nat} {v u x : Value} {p q g : PV} (hr : fn.results = #[.tmp t, .tmp s, .tmp r]) (ht : lk sL t = some (v, p)) (hs : lk sL s = some (u, q)) (hx : lk sL r = some (x, g)) (hR : R (.tup [p, q, g])) (hN : ∀ b, ¬ c.N0 b := by intro _ h; exact h) : aR c (bodyPost P fn (RetAF c R)) (⟨sL, hP⟩ : St) := fun a w ⟨F, H⟩ => by
 obtain ⟨h1, h2⟩ := H.sl t v p ht
 obtain ⟨h3, h4⟩ := H.sl s u q hs
 obtain ⟨h5, h6⟩ := H.sl r x g hx
 have hM : ∀ b, b < w.heap.size → (c.M0 b ∨ False) → mof c hP F b := fun b _ hb => by
  rcases hb with hb | hb
  · exact .inl hb
  · exact hb.elim
 refine ⟨H.df, .tuple [v, u, x].toArray, ?_, _, _, fun _ => False, rfl, hR, H.ext.ext (fun b _ => hN b), .shr (.tup [v, u, x] [p, q, g] rfl fun i x r hx hr => ?_) (fun _ h => h), fun _ h => h.elim, H.dw⟩
 · simp [results, hr, Array.getD_eq_getD_getElem?, h1, h3, h5]
 · match i with
   | 0 => simp at hx hr; subst hx hr; exact h2.anti hM
   | 1 => simp at hx hr; subst hx hr; exact h4.anti hM
   | 2 => simp at hx hr; subst hx hr; exact h6.anti hM
   | i + 3 => simp at hx
end
theorem cPx3 {P : Program} {c : Ctx} {ops : Array Oper} {Q : Exit → Act → World → Prop} {rest : List Oper} {sL hP : List (Nat × Ent)} {o : Oper} {p1 p2 p3 : PV} (d : Nat) (hC : CallR P c (⟨sL, hP⟩ : St) o (· = .tup [p1, p2, p3])) (k : ∀ v1 v2 v3, vOf p1 v1 → vOf p2 v2 → vOf p3 v3 → aL P c ops Q rest ⟨put d (.tuple [v1, v2, v3].toArray, .tup [p1, p2, p3]) sL, hP⟩) (hsh : shD (.tup [p1, p2, p3]) = true := by exact rfl) (hw : wants ops sL o = some true := by exact rfl) (hd : o.dst = some d := by exact rfl) (hn : d < c.nt := by exact Nat.le_of_ble_eq_true rfl) : aL P c ops Q (o :: rest) (⟨sL, hP⟩ : St) :=
 call_run hw hC fun a w F w' v p' Fr H hR hx hT hlo hdw => by
  subst hR
  have hS := hT.shD hsh
  rw [hd]
  have hS' : Shr (mof c hP F) w' v (.tup [p1, p2, p3]) := hS.anti fun b _ h => .inl h
  cases hS with
  | tup vs ps hl h =>
    match vs, hl, h, hS' with
    | [v1, v2, v3], _, h, hS' => exact k v1 v2 v3 (h 0 v1 _ rfl rfl).vOf (h 1 v2 _ rfl rfl).vOf (h 2 v3 _ rfl rfl).vOf _ _ ⟨F, put_up H hx hn hS'⟩
end Go.En
namespace Go.Proofs.YtgigclnaicbiaaaDoor
open Go.RowKit Go.Cb Go.En
set_option linter.all false
set_option maxRecDepth 100000
theorem tAgg101_LfP : AggT Tryd.prog 101 2 = true := by kernel_rfl
theorem tAgg69_LfP : AggT Tryd.prog 69 5 = true := by kernel_rfl
theorem tAr101_LfP : ArrT Tryd.prog 101 2 = true := by kernel_rfl
theorem tEl102_LfP : ElT Tryd.prog 102 101 2 16 (.agg #[(.int .i64 0), (.int .i64 0)]) := ⟨Tryd.underlying102, by kernel_rfl, rfl, by decide⟩
theorem tFl69_0_LfP : FldT Tryd.prog 69 0 0 = true := by kernel_rfl
theorem tFl69_1_LfP : FldT Tryd.prog 69 1 3 = true := by kernel_rfl
theorem tFl69_2_LfP : FldT Tryd.prog 69 2 4 = true := by kernel_rfl
theorem tSl102_LfP : SlT Tryd.prog 102 101 2 = true := by kernel_rfl
theorem tZr101_LfP : ZeroT Tryd.prog 101 (.agg #[(.int .i64 0), (.int .i64 0)]) := by unfold ZeroT; kernel_rfl
theorem tZr69_LfP : ZeroT Tryd.prog 69 (.agg #[(.int .i64 0), (.slice none 0 0), (.slice none 0 0), (.slice none 0 0), (.slice none 0 0)]) := by unfold ZeroT; kernel_rfl
theorem aDecides_e (op : Int) (x y : Bool) : AF Tryd.prog 60 [pInt op, pBool x, pBool y] (· = pBool (decB op x y)) := by
 refine AF.of_body 30 Tryd.func60 rfl Tryd.ntmps60 (Nat.le_of_ble_eq_true rfl) ?_
 intro w0 M0 vs hl hv
 obtain ⟨v0, v1, v2, rfl⟩ := len3 hl
 obtain rfl := hv 0 _ _ rfl rfl
 obtain rfl := hv 1 _ _ rfl rfl
 obtain rfl := hv 2 _ _ rfl rfl
 clear hl hv
 refine nav ?_
 (refine aC_region ?_ <;> refine xL 6 q_assign ?_ <;> refine aL_end (nav ?_) <;> try dsimp only)
 (refine aC_region ?_ <;> refine xL 7 q_move ?_ <;> refine aL_end (nav ?_) <;> try dsimp only)
 (refine aC_region ?_ <;> refine xL 9 q_eql ?_ <;> refine xL 8 q_assign ?_ <;> refine aL_end (nav ?_) <;> try dsimp only)
 (first | refine cCd ?_ ?_ | refine cC ?_ ?_) <;> intro hb8
 · first
   | exact Bool.noConfusion hb8
   | (
    refine nav ?_
    (refine aC_region ?_ <;> refine xL 10 q_move ?_ <;> refine xL 11 q_move ?_ <;> (refine bL 11 (fun hb11 => ?_) (fun hb11 => ?_) <;> (first | refine kL 12 ?_ | refine xL 12 q_move ?_)) <;> refine xL 13 q_pick ?_ <;> refine xL 6 q_assign ?_ <;> refine aL_end (nav ?_) <;> try dsimp only) <;> (
     refine ret_shr (Tryd.results60) rfl ?_
     unfold decB
     rw [if_pos (by omega)]
     cases x <;> cases y <;> first | rfl | (exfalso; simp_all; done)))
 · first
   | exact Bool.noConfusion hb8
   | (
    refine nav ?_
    (refine aC_region ?_ <;> refine xL 15 q_eql ?_ <;> refine xL 14 q_assign ?_ <;> refine aL_end (nav ?_) <;> try dsimp only)
    (first | refine cCd ?_ ?_ | refine cC ?_ ?_) <;> intro hb14
    · first
      | exact Bool.noConfusion hb14
      | (
       refine nav ?_
       (refine aC_region ?_ <;> refine xL 16 q_move ?_ <;> refine xL 17 q_move ?_ <;> (refine bL 17 (fun hb17 => ?_) (fun hb17 => ?_) <;> (first | refine kL 18 ?_ | refine xL 18 q_move ?_)) <;> refine xL 19 q_pick ?_ <;> refine xL 6 q_assign ?_ <;> refine aL_end (nav ?_) <;> try dsimp only) <;> (
        refine ret_shr (Tryd.results60) rfl ?_
        unfold decB
        rw [if_neg (by omega), if_pos (by omega)]
        cases x <;> cases y <;> first | rfl | (exfalso; simp_all; done)))
    · first
      | exact Bool.noConfusion hb14
      | (
       refine nav ?_
       (refine aC_region ?_ <;> refine xL 21 q_eql ?_ <;> refine xL 20 q_assign ?_ <;> refine aL_end (nav ?_) <;> try dsimp only)
       (first | refine cCd ?_ ?_ | refine cC ?_ ?_) <;> intro hb20
       · first
         | exact Bool.noConfusion hb20
         | (
          refine nav ?_
          (refine aC_region ?_ <;> refine xL 22 q_move ?_ <;> refine xL 23 q_move ?_ <;> (refine bL 23 (fun hb23 => ?_) (fun hb23 => ?_) <;> (first | refine kL 24 ?_ | refine xL 24 q_move ?_)) <;> (first | refine kL 25 ?_ | refine xL 25 q_not ?_) <;> refine xL 26 q_pick ?_ <;> refine xL 6 q_assign ?_ <;> refine aL_end (nav ?_) <;> try dsimp only) <;> (
           refine ret_shr (Tryd.results60) rfl ?_
           unfold decB
           rw [if_neg (by omega), if_neg (by omega), if_pos (by omega)]
           cases x <;> cases y <;> first | rfl | (exfalso; simp_all; done)))
       · first
         | exact Bool.noConfusion hb20
         | (
          refine nav ?_
          (refine aC_region ?_ <;> refine xL 27 q_move ?_ <;> refine xL 28 q_move ?_ <;> refine xL 29 (q_bneq Tryd.underlying4) ?_ <;> refine xL 6 q_assign ?_ <;> refine aL_end (nav ?_) <;> try dsimp only)
          refine ret_shr (Tryd.results60) rfl ?_
          unfold decB
          rw [if_neg (by omega), if_neg (by omega), if_neg (by omega)]
          cases x <;> cases y <;> first | rfl | (exfalso; simp_all; done))))
theorem numE_snoc {α κ : Type} [DecidableEq κ] (f : α → κ) (x : α) : ∀ (l : List α) (off : Nat), numE f off (l ++ [x]) = numE f off l ++ [(f x, .int .i64 ((off + l.length : Nat) : Int))]
 | [], off => by simp [numE]
 | y :: l, off => by rw [List.cons_append, numE, numE_snoc f x l (off + 1), numE, List.cons_append, List.length_cons]; congr 5; omega
theorem numE_keys {α κ : Type} [DecidableEq κ] (f : α → κ) : ∀ (l : List α) (off : Nat), (numE f off l).map (·.1) = l.map f
 | [], _ => rfl
 | y :: l, off => by rw [numE, List.map_cons, numE_keys f l (off + 1), List.map_cons]
abbrev PrS := (Nat × Nat) × (Int × Int)
def keyI (x : PrS) : Pi2 := ((x.1.1 : Nat), (x.1.2 : Nat))
theorem keyI_inj {x y : PrS} : keyI x = keyI y ↔ x.1 = y.1 := by
 unfold keyI
 rw [Prod.mk.injEq, Prod.ext_iff]
 omega
theorem keyI_id (o : List PrS) (x : PrS) : posK keyI o (keyI x) = posK Prod.fst o x.1 := posK_inj fun y _ => keyI_inj
def cPr (x : PrS) : List PV := [pInt (x.1.1 : Nat), pInt (x.1.2 : Nat)]
theorem cPr_len (x : PrS) : (cPr x).length = 2 := rfl
theorem snoc_pr (e : Nat) (L : List PrS) (x : PrS) : PV.own e 2 (L.length + 1) (L.flatMap cPr ++ cPr x) = .own e 2 (L ++ [x]).length ((L ++ [x]).flatMap cPr) := by simp
theorem num_lookP (o : List PrS) (x : PrS) : (aget (numE keyI 0 o) (keyI x)).getD (.int .i64 0) = .int .i64 ((if posK keyI o (keyI x) < o.length then posK keyI o (keyI x) else 0 : Nat) : Int) ∧ (aget (numE keyI 0 o) (keyI x)).isSome = decide (posK keyI o (keyI x) < o.length) := by
 rw [numE_get]
 by_cases h : posK keyI o (keyI x) < o.length
 · rw [if_pos h, if_pos h, decide_eq_true h, Nat.zero_add]; exact ⟨rfl, rfl⟩
 · rw [if_neg h, if_neg h, decide_eq_false h]; exact ⟨rfl, rfl⟩
def pFrom (o : List PrS) : List Int := o.map fun x => x.2.1
def pSym (o : List PrS) : List Int := o.map fun x => x.2.2
theorem from_snoc (o : List PrS) (y : PrS) : pFrom (o ++ [y]) = pFrom o ++ [y.2.1] := by unfold pFrom; rw [List.map_append]; rfl
theorem sym_snoc (o : List PrS) (y : PrS) : pSym (o ++ [y]) = pSym o ++ [y.2.2] := by unfold pSym; rw [List.map_append]; rfl
def pPairs (A B : Aut) (op : Int) (q : List PrS × List (List Nat)) : PV := .agg [pInt (A.syms.toNat : Nat), .sl q.2.length (q.2.map pNats), .sl (q.1.map (prodF A B op)).length ((q.1.map (prodF A B op)).map pBool), pInts (pFrom q.1), pInts (pSym q.1)]
def RProd (A B : Aut) (op : Int) (p : PV) : Prop := (∃ q, prodQ A B = some q ∧ p = .tup [pPairs A B op q, pBool true]) ∨
 (prodQ A B = none ∧ ∃ u0 u1 u2 u3 u4 : Value, u0.oneCell' = true ∧ u1.oneCell' = true ∧ u2.oneCell' = true ∧ u3.oneCell' = true ∧ u4.oneCell' = true ∧ p = .tup [.agg [.val u0, .val u1, .val u2, .val u3, .val u4], pBool false])
theorem stPairs : stInfo Tryd.prog 69 = some (.agg #[.int .i64 0, .slice none 0 0, .slice none 0 0, .slice none 0 0, .slice none 0 0], [(0, 3), (3, 1), (4, 1)]) := by kernel_rfl
theorem tPi : PiT Tryd.prog 103 101 3 3 (.int .i64 0) := ⟨Tryd.underlying103, Tryd.underlying101, Tryd.underlying3, by kernel_rfl, by kernel_rfl, by kernel_rfl, by kernel_rfl, by kernel_rfl, fun a b => by kernel_rfl, ⟨Tryd.prog.types.size - 1, by kernel_rfl⟩, by show ZeroT _ _ _; unfold ZeroT; kernel_rfl⟩
set_option maxHeartbeats 4000000 in
theorem aProduct_e (A B : Aut) (op : Int) (hA : DetA A) (hB : DetA B) (hs : A.syms = B.syms) : AF Tryd.prog 51 [pAut A, pAut B, pInt op] (RProd A B op) := by
 have hAn1 := hA.ok.n1
 have hAn0 := hA.ok.n0
 have hBn1 := hB.ok.n1
 have hBn0 := hB.ok.n0
 have hs0 := hA.ok.s0
 have hs1 := hA.ok.s1
 have hsN : ((A.syms.toNat : Nat) : Int) = A.syms := by omega
 have hsB : B.syms.toNat = A.syms.toNat := by rw [hs]
 refine AF.of_body 152 Tryd.func51 rfl Tryd.ntmps51 (Nat.le_of_ble_eq_true rfl) ?_
 intro w0 M0 vs hl hv
 obtain ⟨v0, v1, v2, rfl⟩ := len3 hl
 obtain rfl := hv 2 _ _ rfl rfl
 clear hl hv
 refine nav ?_
 (refine aC_region ?_ <;> refine s_boxa 3 5 fun h3 => ?_ <;> refine s_boxa 4 5 fun h4 => ?_ <;> refine s_alloc [(.int .i64 0), (.slice none 0 0), (.slice none 0 0), (.slice none 0 0), (.slice none 0 0)] 5 6 tZr69_LfP fun h6 => ?_ <;> refine xL 7 q_assign ?_ <;> refine aL_end (nav ?_) <;> try dsimp only)
 (refine aC_draw (fun i => ([] : List Nat).elem i) [3, 4] (by kernel_rfl) ?_ <;> (refine yD 0 21 rfl (q_ldao 3 tAgg25_LdS) fun v21 hv21 => ?_; cases hv21) <;> (refine yD 2 23 rfl (q_ldao 4 tAgg25_LdS) fun v23 hv23 => ?_; cases hv23) <;> (refine aD_one 1 (by kernel_rfl) ?_) <;> (refine aW_call (d := 22) rfl (cA Tryd.call22 (aGraphOf_e A hA.ok)) fun v22 hv22 => ?_; cases hv22) <;> (refine aD_one 3 (by kernel_rfl) ?_) <;> (refine aW_call (d := 24) rfl (cA Tryd.call22 (aGraphOf_e B hB.ok)) fun v24 hv24 => ?_; cases hv24) <;> refine xE 4 8 rfl q_assign ?_ <;> refine xE 5 9 rfl q_assign ?_ <;> refine aD_end (by kernel_rfl) (nav ?_) <;> try dsimp only)
 (refine aC_region ?_ <;> refine xL 25 (q_fldo 3 tFl25_1_LdI) ?_ <;> (refine yL 26 (q_ldo 3 tNa3_LbB) fun v26 hv26 => ?_; cases hv26) <;> refine xL 27 (q_build tSt63_LfB) ?_ <;> refine s_lit1 (kk := 1) 28 tEl22_LdI fun h28 ho28 => ?_ <;> (refine s_lit1 (kk := 1) 29 tEl22_LdI fun h29 ho29 => ?_; have q28 : En.one (PV.val h28) = true := ho28; have q29 : En.one (PV.val h29) = true := ho29) <;> refine yL 30 (q_build311 stPairs rfl ho28 ho29) fun v30 _ => ?_ <;> refine s_alloc [(.int .i64 0), (.slice none 0 0), (.slice none 0 0), (.slice none 0 0), (.slice none 0 0)] 5 10 tZr69_LfP fun h10 => ?_ <;> refine s_sta 10 tAgg69_LfP ?_ <;> refine aL_end (nav ?_) <;> try dsimp only)
 refine aC_ent (nilCells (l := 10) [pInt A.syms, .own 22 1 0 [], .own 4 1 0 [], .val h28, .val h29] rfl rfl (fun i p p' h1 h2 => by
  match i with
  | 0 => cases h1; cases h2; exact .inl rfl
  | 1 => cases h1; cases h2; exact .inr ⟨rfl, _, _, rfl⟩
  | 2 => cases h1; cases h2; exact .inr ⟨rfl, _, _, rfl⟩
  | 3 => cases h1; cases h2; exact .inl rfl
  | 4 => cases h1; cases h2; exact .inl rfl
  | i + 5 => simp at h2)) fun _ => ?_
 refine aC_ent (focusO (l := 10) (l' := 301) (j := 1) rfl rfl rfl rfl) fun i => ?_
 obtain ⟨v301, ho301⟩ := i
 refine aC_ent (focusO (l := 10) (l' := 302) (j := 2) rfl rfl rfl rfl) fun i => ?_
 obtain ⟨v302, ho302⟩ := i
 dsimp only [List.set]
 refine aC_ent (relabel (l := 28) 303 rfl rfl) fun _ => ?_
 refine aC_ent (relabel (l := 29) 304 rfl rfl) fun _ => ?_
 refine aC_ent (recast (l := 303) (p' := .own 3 1 (pFrom [((0, 0), (-1, -1))]).length ((pFrom [((0, 0), (-1, -1))]).map pInt)) rfl rfl) fun _ => ?_
 refine aC_ent (recast (l := 304) (p' := .own 3 1 (pSym [((0, 0), (-1, -1))]).length ((pSym [((0, 0), (-1, -1))]).map pInt)) rfl rfl) fun _ => ?_
 (refine aC_region ?_ <;> refine xL 31 (q_build2 tAr101_LfP tZr101_LfP) ?_ <;> refine s_lit1a 32 tEl102_LfP fun h32 ho32 => ?_ <;> refine xL 11 q_assign ?_ <;> refine aL_end (nav ?_) <;> try dsimp only)
 refine aC_ent (relabel (l := 32) 305 rfl rfl) fun _ => ?_
 refine aC_ent (recast (l := 305) (p' := .own 101 2 ([((0, 0), (-1, -1))] : List PrS).length (([((0, 0), (-1, -1))] : List PrS).flatMap cPr)) rfl rfl) fun _ => ?_
 (refine aC_region ?_ <;> refine s_mkmap 33 fun h33 ho33 => ?_ <;> refine xL 34 (q_build2 tAr101_LfP tZr101_LfP) ?_ <;> (refine s_mput2 (m := []) (k := ((0 : Int), (0 : Int))) 33 tPi (fun x hx => by simp at hx) (by simp) ⟨by decide, by decide⟩ rfl ?_; rw [show ([] : List (Pi2 × Value)) ++ [(((0 : Int), (0 : Int)), Value.int .i64 0)] = numE keyI 0 [((0, 0), (-1, -1))] from rfl]) <;> refine xL 35 q_move ?_ <;> refine xL 12 q_assign ?_ <;> refine aL_end (nav ?_) <;> try dsimp only)
 refine aC_ent (relabel (l := 33) 306 rfl rfl) fun _ => ?_
 (refine aC_region ?_ <;> refine xL 13 q_assign ?_ <;> refine aL_end (nav ?_) <;> try dsimp only)
 refine aC_loop (ι := { q : Nat × Value × Value × Value × Value × Value × List PrS × List (List Nat) // (prodW A B).upto ((0, 0), (-1, -1)) q.1 = some (q.2.2.2.2.2.2.1, q.2.2.2.2.2.2.2) ∧ q.1 ≤ q.2.2.2.2.2.2.1.length ∧ q.2.1.oneCell' = true ∧ q.2.2.1.oneCell' = true ∧ q.2.2.2.1.oneCell' = true ∧ q.2.2.2.2.1.oneCell' = true ∧ q.2.2.2.2.2.1.oneCell' = true }) (fun k => ⟨[(2, _, _), (3, _, _), (4, _, _), (6, _, _), (7, _, _), (8, _, _), (9, _, _), (10, _, _), (12, _, _), (11, k.1.2.2.2.2.2.1, .val k.1.2.2.2.2.2.1), (13, .int .i64 k.1.1, pInt k.1.1)], [(3, _, _), (4, _, _), (6, _, _), (10, h10, .own 69 5 1 [pInt A.syms, .val k.1.2.1, .val k.1.2.2.1, .val k.1.2.2.2.1, .val k.1.2.2.2.2.1]), (301, k.1.2.1, .own 22 1 k.1.2.2.2.2.2.2.2.length (k.1.2.2.2.2.2.2.2.map pNats)), (302, k.1.2.2.1, .own 4 1 ((k.1.2.2.2.2.2.2.1.take k.1.1).map (prodF A B op)).length (((k.1.2.2.2.2.2.2.1.take k.1.1).map (prodF A B op)).map pBool)), (303, k.1.2.2.2.1, .own 3 1 (pFrom k.1.2.2.2.2.2.2.1).length ((pFrom k.1.2.2.2.2.2.2.1).map pInt)), (304, k.1.2.2.2.2.1, .own 3 1 (pSym k.1.2.2.2.2.2.2.1).length ((pSym k.1.2.2.2.2.2.2.1).map pInt)), (305, k.1.2.2.2.2.2.1, .own 101 2 k.1.2.2.2.2.2.2.1.length (k.1.2.2.2.2.2.2.1.flatMap cPr)), (306, h33, .omap (pikv (numE keyI 0 k.1.2.2.2.2.2.2.1)))]⟩) (fun k => 2000 - k.1.1) ⟨(0, v301, v302, h28, h29, h32, [((0, 0), (-1, -1))], []), rfl, Nat.zero_le _, ho301, ho302, ho28, ho29, ho32⟩ (fun a w H => H.weaken ⟨rfl, rfl, rfl, rfl, rfl, rfl, rfl, rfl, rfl, rfl, rfl, trivial⟩ ⟨rfl, rfl, rfl, rfl, rfl, rfl, rfl, rfl, rfl, rfl, trivial⟩) ?_
 rintro ⟨⟨i, r1, r2, r3, r4, r5, o, rows⟩, hU, hi, hr1, hr2, hr3, hr4, hr5⟩
 dsimp only
 dsimp only at hU hi hr1 hr2 hr3 hr4 hr5
 obtain ⟨hOk, hRl, _⟩ := prod_ok hA hB hs hU
 have hRl := hRl hi
 have hcap : o.length ≤ 2000 := hOk.cap
 have hfl : ((o.take i).map (prodF A B op)).length ≤ 2000 := by rw [List.length_map, List.length_take]; omega
 have q1 : En.one (PV.val r1) = true := hr1
 have q2 : En.one (PV.val r2) = true := hr2
 have q3 : En.one (PV.val r3) = true := hr3
 have q4 : En.one (PV.val r4) = true := hr4
 refine nav ?_
 (refine aC_region ?_ <;> refine xL 36 q_move ?_ <;> refine xL 37 q_move ?_ <;> refine xL 38 (q_leno 305 tSl102_LfP) ?_ <;> refine xL 39 q_lss ?_ <;> refine aL_end (nav ?_) <;> try dsimp only)
 (first | refine cCd ?_ ?_ | refine cC ?_ ?_) <;> intro hb39
 · first
   | exact Bool.noConfusion hb39
   | (
    obtain ⟨x, hx⟩ := get_some (show i < o.length by omega)
    have hxp := hOk.p x (List.mem_of_getElem? hx)
    have hx1 : x.1.1 < A.n.toNat := hxp.1
    have hx2 : x.1.2 < B.n.toNat := hxp.2
    have e1 : (o.flatMap cPr)[i * 2 + 0]? = some (pInt (x.1.1 : Nat)) := flat_at cPr_len hx (by decide)
    have e2 : (o.flatMap cPr)[i * 2 + 1]? = some (pInt (x.1.2 : Nat)) := flat_at cPr_len hx (by decide)
    refine nav ?_
    (refine aC_draw (fun i => ([] : List Nat).elem i) [305] (by kernel_rfl) ?_ <;> refine xD 0 42 rfl q_move ?_ <;> refine xD 1 43 rfl q_move ?_ <;> refine xD 2 44 rfl (q_idxoN 305 tSl102_LfP) ?_ <;> refine xD 3 45 rfl (q_idxa (len := 2) (i := 0) 305 (by kernel_rfl)) ?_ <;> (refine yD 4 46 rfl (q_ldo 305 tNa3_LbB) fun v46 hv46 => ?_; cases hv46) <;> refine xD 5 47 rfl q_move ?_ <;> refine xD 6 48 rfl q_move ?_ <;> refine xD 7 49 rfl (q_idxoN 305 tSl102_LfP) ?_ <;> refine xD 8 50 rfl (q_idxa (len := 2) (i := 1) 305 (by kernel_rfl)) ?_ <;> (refine yD 9 51 rfl (q_ldo 305 tNa3_LbB) fun v51 hv51 => ?_; cases hv51) <;> refine xE 10 14 rfl q_assign ?_ <;> refine xE 11 15 rfl q_assign ?_ <;> refine aD_end (by kernel_rfl) (nav ?_) <;> try dsimp only)
    (refine aC_region ?_ <;> refine xL 52 (q_fldo 3 tFl25_1_LdI) ?_ <;> (refine yL 53 (q_ldo 3 tNa3_LbB) fun v53 hv53 => ?_; cases hv53) <;> (refine s_make (n := A.syms.toNat) 54 tEl22_LdI (fun h54 ho54 => ?_) (hx := by rw [hsN]; exact rfl) (hy := by rw [hsN]; exact rfl) (hb := by omega)) <;> refine xL 16 q_assign ?_ <;> refine aL_end (nav ?_) <;> try dsimp only)
    rw [← rowAt_nil]
    (refine aC_region ?_ <;> refine xL 55 q_move ?_ <;> refine xL 56 (q_leno 54 tSl22_LbB) ?_ <;> refine xL 57 q_move ?_ <;> refine aL_end (nav ?_) <;> try dsimp only)
    refine aC_loop (ι := { q : Nat × Value × Value × Value × List PrS × List Nat // (prodW A B).row i x o q.1 = some (q.2.2.2.2.1, q.2.2.2.2.2) ∧ q.1 ≤ A.syms.toNat ∧ q.2.1.oneCell' = true ∧ q.2.2.1.oneCell' = true ∧ q.2.2.2.1.oneCell' = true }) (fun k => ⟨[(2, _, _), (3, _, _), (4, _, _), (6, _, _), (7, _, _), (8, _, _), (9, _, _), (10, _, _), (12, _, _), (13, _, _), (14, _, _), (15, _, _), (16, _, _), (56, _, _), (11, k.1.2.2.2.1, .val k.1.2.2.2.1), (57, .int .i64 k.1.1, pInt k.1.1)], [(3, _, _), (4, _, _), (6, _, _), (301, _, _), (302, _, _), (10, h10, .own 69 5 1 [pInt A.syms, .val r1, .val r2, .val k.1.2.1, .val k.1.2.2.1]), (303, k.1.2.1, .own 3 1 (pFrom k.1.2.2.2.2.1).length ((pFrom k.1.2.2.2.2.1).map pInt)), (304, k.1.2.2.1, .own 3 1 (pSym k.1.2.2.2.2.1).length ((pSym k.1.2.2.2.2.1).map pInt)), (305, k.1.2.2.2.1, .own 101 2 k.1.2.2.2.2.1.length (k.1.2.2.2.2.1.flatMap cPr)), (306, h33, .omap (pikv (numE keyI 0 k.1.2.2.2.2.1))), (54, h54, .own 3 1 A.syms.toNat (vec A.syms.toNat fun j => pInt (rowAt k.1.2.2.2.2.2 j)))]⟩) (fun k => A.syms.toNat - k.1.1) ⟨(0, r3, r4, r5, o, []), rfl, Nat.zero_le _, hr3, hr4, hr5⟩ (fun a w H => H.weaken ⟨rfl, rfl, rfl, rfl, rfl, rfl, rfl, rfl, rfl, rfl, rfl, rfl, rfl, rfl, rfl, rfl, trivial⟩ ⟨rfl, rfl, rfl, rfl, rfl, rfl, rfl, rfl, rfl, rfl, rfl, trivial⟩) ?_
    rintro ⟨⟨s, r3', r4', r5', o', r⟩, hW, hsm, hr3', hr4', hr5'⟩
    dsimp only
    dsimp only at hW hsm hr3' hr4' hr5'
    obtain ⟨hMt, hpr, hrl, _⟩ := hOk.toMet.row (fun s hs' => ⟨hA.sl _ _ hx1 hs', hB.sl _ _ hx2 (by have : s < A.syms.toNat := hs'; omega)⟩) (show s ≤ (prodW A B).m from hsm) hW
    have hcap' : o'.length ≤ 2000 := hMt.cap
    have hx' := preG_get hpr hx
    have hil := lt_of_get hx'
    have hpf : (pFrom o').length = o'.length := by unfold pFrom; rw [List.length_map]
    have hps : (pSym o').length = o'.length := by unfold pSym; rw [List.length_map]
    have q3' : En.one (PV.val r3') = true := hr3'
    have q4' : En.one (PV.val r4') = true := hr4'
    refine nav ?_
    (refine aC_region ?_ <;> refine xL 58 q_lss ?_ <;> refine aL_end (nav ?_) <;> try dsimp only)
    (first | refine cCd ?_ ?_ | refine cC ?_ ?_) <;> intro hb58
    · first
      | exact Bool.noConfusion hb58
      | (
       obtain ⟨mx, hm1, hm2, hm3⟩ := hA.mo x.1.1 s hx1 (by omega)
       obtain ⟨my, hn1, hn2, hn3⟩ := hB.mo x.1.2 s hx2 (by omega)
       have hml := hA.ml x.1.1 hx1
       have hnl := hB.ml x.1.2 hx2
       have d1 : ((List.range A.n.toNat).map fun s => pMvs (movesOf A s))[x.1.1 * 1]? = some (pMvs (movesOf A x.1.1)) := by rw [Nat.mul_one, range_at hx1]
       have d2 : ((List.range B.n.toNat).map fun s => pMvs (movesOf B s))[x.1.2 * 1]? = some (pMvs (movesOf B x.1.2)) := by rw [Nat.mul_one, range_at hx2]
       have d3 : ((movesOf A x.1.1).flatMap cMv)[s * 3 + 1]? = some (pInt (stepA A x.1.1 s : Nat)) := by rw [← hm3]; exact flat_at cMv_len hm1 (by decide)
       have d4 : ((movesOf B x.1.2).flatMap cMv)[s * 3 + 1]? = some (pInt (stepA B x.1.2 s : Nat)) := by rw [← hn3]; exact flat_at cMv_len hn1 (by decide)
       obtain ⟨y, hy⟩ : ∃ y : PrS, y = (prodW A B).step i x s := ⟨_, rfl⟩
       have hyk : keyI y = (((stepA A x.1.1 s : Nat) : Int), ((stepA B x.1.2 s : Nat) : Int)) := by rw [hy]; rfl
       have hy2 : y.2 = (((i : Nat) : Int), ((s : Nat) : Int)) := by rw [hy]; rfl
       have hyp : PairOk A B y := by rw [hy]; exact ⟨hA.sl _ _ hx1 (by omega), hB.sl _ _ hx2 (by omega)⟩
       have hy11 : y.1.1 = stepA A x.1.1 s := by rw [hy]; rfl
       have hy12 : y.1.2 = stepA B x.1.2 s := by rw [hy]; rfl
       have hyp1 : y.1.1 < A.n.toNat := hyp.1
       have hyp2 : y.1.2 < B.n.toNat := hyp.2
       rw [← hy11] at d3
       rw [← hy12] at d4
       have hid := keyI_id o' y
       have hlk := num_lookP o' y
       have hko : ∀ z ∈ numE keyI 0 o', piOk z.1 := fun z hz => by
        have hz1 : z.1 ∈ (numE keyI 0 o').map (·.1) := List.mem_map_of_mem hz
        rw [numE_keys] at hz1
        obtain ⟨u, hu, hue⟩ := List.mem_map.1 hz1
        have hup := hMt.p u hu
        have h1 : u.1.1 < A.n.toNat := hup.1
        have h2 : u.1.2 < B.n.toNat := hup.2
        rw [← hue]
        exact ⟨⟨by show (0 : Int) ≤ (u.1.1 : Nat); omega, by show ((u.1.1 : Nat) : Int) ≤ 1000000; omega⟩, ⟨by show (0 : Int) ≤ (u.1.2 : Nat); omega, by show ((u.1.2 : Nat) : Int) ≤ 1000000; omega⟩⟩
       have hkn : ((numE keyI 0 o').map (·.1)).Nodup := by
        rw [numE_keys]
        have hnd := hMt.nd
        refine map_nodup (nodup_of_map hnd) fun u hu v hv e => ?_
        obtain ⟨i1, hi1⟩ := List.getElem?_of_mem hu
        obtain ⟨i2, hi2⟩ := List.getElem?_of_mem hv
        have p1 := posK_idx hnd hi1
        have p2 := posK_idx hnd hi2
        have e2 : (prodW A B).key u = (prodW A B).key v := keyI_inj.1 e
        rw [e2, p2] at p1
        rw [p1, hi1] at hi2
        exact Option.some.inj hi2
       have hky : piOk (keyI y) := ⟨⟨by show (0 : Int) ≤ (y.1.1 : Nat); omega, by show ((y.1.1 : Nat) : Int) ≤ 1000000; omega⟩, ⟨by show (0 : Int) ≤ (y.1.2 : Nat); omega, by show ((y.1.2 : Nat) : Int) ≤ 1000000; omega⟩⟩
       have e3 := vec_len A.syms.toNat (fun j => pInt (rowAt r j))
       refine nav ?_
       (refine aC_region ?_ <;> refine xL 59 q_move ?_ <;> refine xL 17 q_assign ?_ <;> refine aL_end (nav ?_) <;> try dsimp only)
       (refine aC_draw (fun i => ([] : List Nat).elem i) [] (by kernel_rfl) ?_ <;> refine xD 0 60 rfl q_move ?_ <;> refine xD 1 61 rfl q_nilp ?_ <;> refine xD 2 62 rfl (q_fld tFl76_1_LdL) ?_ <;> (refine yD 3 63 rfl (q_ld tNa74_LdL) fun v63 hv63 => ?_; cases hv63) <;> refine xD 4 64 rfl q_move ?_ <;> refine xD 5 65 rfl (q_idxN tSl74_LdL) ?_ <;> (refine yD 6 66 rfl (q_ld tNa23_LdI) fun v66 hv66 => ?_; cases hv66) <;> refine xD 7 67 rfl q_move ?_ <;> refine xD 8 68 rfl (q_idxN tSl23_LdI) ?_ <;> refine xD 9 69 rfl (q_fld tFl40_1_LdI) ?_ <;> (refine yD 10 70 rfl (q_ld tNa3_LbB) fun v70 hv70 => ?_; cases hv70) <;> refine xD 11 71 rfl q_move ?_ <;> refine xD 12 72 rfl q_nilp ?_ <;> refine xD 13 73 rfl (q_fld tFl76_1_LdL) ?_ <;> (refine yD 14 74 rfl (q_ld tNa74_LdL) fun v74 hv74 => ?_; cases hv74) <;> refine xD 15 75 rfl q_move ?_ <;> refine xD 16 76 rfl (q_idxN tSl74_LdL) ?_ <;> (refine yD 17 77 rfl (q_ld tNa23_LdI) fun v77 hv77 => ?_; cases hv77) <;> refine xD 18 78 rfl q_move ?_ <;> refine xD 19 79 rfl (q_idxN tSl23_LdI) ?_ <;> refine xD 20 80 rfl (q_fld tFl40_1_LdI) ?_ <;> (refine yD 21 81 rfl (q_ld tNa3_LbB) fun v81 hv81 => ?_; cases hv81) <;> refine xD 22 82 rfl (q_build2 tAr101_LfP tZr101_LfP) ?_ <;> (refine aD_one 23 (by kernel_rfl) ?_) <;> (refine aW_run rfl fun w9 M9 N9 DQ back => ?_) <;> refine s_alloc [(.int .i64 0), (.int .i64 0)] 2 18 tZr101_LfP fun h18 => ?_ <;> refine aL_end (back _ (nrm ?_)) <;> (refine aD_one 24 (by kernel_rfl) ?_) <;> (refine aW_run rfl fun w9 M9 N9 DQ back => ?_) <;> refine s_sta 18 tAgg101_LfP ?_ <;> refine aL_end (back _ (nrm ?_)) <;> refine aD_end (by kernel_rfl) (nav ?_) <;> try dsimp only)
       (refine aC_region ?_ <;> refine xL 84 q_move ?_ <;> (refine yL 85 (q_ldao (k := 2) (ps := [pInt (y.1.1 : Nat), pInt (y.1.2 : Nat)]) 18 (by kernel_rfl)) fun v85 hv85 => ?_; cases hv85) <;> refine xL 86 (q_look2P (m := numE keyI 0 o') (k := keyI y) 306 tPi hko hkn hky hlk.1 hlk.2) ?_ <;> refine xL 83 q_move ?_ <;> refine xL 87 q_extract ?_ <;> refine xL 88 q_extract ?_ <;> refine xL 19 q_assign ?_ <;> refine xL 20 q_assign ?_ <;> refine aL_end (nav ?_) <;> try dsimp only)
       (refine aC_region ?_ <;> refine xL 89 q_move ?_ <;> refine xL 90 q_not ?_ <;> refine aL_end (nav ?_) <;> try dsimp only)
       refine aC_mid (fun z : { z : Value × Value × Value × List PrS × Nat // z.1.oneCell' = true ∧ z.2.1.oneCell' = true ∧ z.2.2.1.oneCell' = true ∧ visit (prodW A B).key (prodW A B).cap o' ((prodW A B).step i x s) = some (z.2.2.2.1, z.2.2.2.2) } => ⟨[(2, .int .i64 op, pInt op), (3, padd (sbase h3) 0, .val (padd (sbase h3) 0)), (4, padd (sbase h4) 0, .val (padd (sbase h4) 0)), (6, padd (sbase h6) 0, .val (padd (sbase h6) 0)), (7, .bool false, pBool false), (8, v22, pGr A), (9, v24, pGr B), (10, padd (sbase h10) 0, .val (padd (sbase h10) 0)), (11, z.1.2.2.1, .val z.1.2.2.1), (12, h33, .val h33), (13, .int .i64 i, pInt i), (14, .int .i64 x.1.1, pInt x.1.1), (15, .int .i64 x.1.2, pInt x.1.2), (16, h54, .val h54), (17, .int .i64 s, pInt s), (19, .int .i64 z.1.2.2.2.2, pInt z.1.2.2.2.2), (56, .int .i64 A.syms.toNat, pInt A.syms.toNat), (57, .int .i64 s, pInt s)], [(3, h3, .own 25 5 1 [pInt A.n, pInt A.syms, pInts A.start, pInts A.fin, pMvs A.moves]), (4, h4, .own 25 5 1 [pInt B.n, pInt B.syms, pInts B.start, pInts B.fin, pMvs B.moves]), (6, h6, .own 69 5 1 [pInt 0, .val (.slice none 0 0), .val (.slice none 0 0), .val (.slice none 0 0), .val (.slice none 0 0)]), (10, h10, .own 69 5 1 [pInt A.syms, .val r1, .val r2, .val z.1.1, .val z.1.2.1]), (301, r1, .own 22 1 rows.length (rows.map pNats)), (302, r2, .own 4 1 ((o.take i).map (prodF A B op)).length (((o.take i).map (prodF A B op)).map pBool)), (303, z.1.1, .own 3 1 (pFrom z.1.2.2.2.1).length ((pFrom z.1.2.2.2.1).map pInt)), (304, z.1.2.1, .own 3 1 (pSym z.1.2.2.2.1).length ((pSym z.1.2.2.2.1).map pInt)), (305, z.1.2.2.1, .own 101 2 z.1.2.2.2.1.length (z.1.2.2.2.1.flatMap cPr)), (306, h33, .omap (pikv (numE keyI 0 z.1.2.2.2.1))), (54, h54, .own 3 1 A.syms.toNat (vec A.syms.toNat fun j => pInt (rowAt r j)))]⟩) ?_ ?_
       · (first | refine cCd ?_ ?_ | refine cC ?_ ?_) <;> intro hb90
         · first
           | exact Bool.noConfusion hb90
           | (
            have hnew : ¬ posK keyI o' (keyI y) < o'.length := by simpa using hb90
            have hnew2 : ¬ posK (prodW A B).key o' ((prodW A B).key ((prodW A B).step i x s)) < o'.length := by
             rw [← hy]
             show ¬ posK Prod.fst o' y.1 < o'.length
             rw [← hid]; exact hnew
            have hno : aget (numE keyI 0 o') (keyI y) = none := by rw [numE_get, if_neg hnew]
            refine nav ?_
            (refine aC_region ?_ <;> refine xL 91 q_move ?_ <;> refine xL 92 (q_leno 305 tSl102_LfP) ?_ <;> refine xL 19 q_assign ?_ <;> refine aL_end (nav ?_) <;> try dsimp only)
            (refine aC_region ?_ <;> refine xL 93 q_move ?_ <;> refine xL 94 q_geq ?_ <;> refine aL_end (nav ?_) <;> try dsimp only)
            (first | refine cCd ?_ ?_ | refine cC ?_ ?_) <;> intro hb94
            · first
              | exact Bool.noConfusion hb94
              | (
               refine nav ?_
               (refine aC_region ?_ <;> (refine yL 95 (q_ldao (k := 5) (ps := [pInt A.syms, PV.val r1, PV.val r2, PV.val r3', PV.val r4']) 10 (by kernel_rfl)) fun v95 hv95 => ?_; cases hv95) <;> refine s_sta 6 tAgg69_LfP ?_ <;> refine xL 7 q_assign ?_ <;> refine aL_end (nav ?_) <;> try dsimp only)
               refine ret_cs (k := 5) 6 (by kernel_rfl) (Tryd.results51) rfl rfl rfl (Nat.le_of_ble_eq_true rfl) (by decide) rfl (.inr ⟨?_, _, _, _, _, _, rfl, hr1, hr2, hr3', hr4', rfl⟩)
               have hv := visit_no hnew2 (show (prodW A B).cap ≤ o'.length by show 2000 ≤ o'.length; omega)
               have h1 := Srch.row_fails (Srch.row_out hW hv) (show s + 1 ≤ (prodW A B).m by show s + 1 ≤ A.syms.toNat; omega)
               exact Srch.all_none (Srch.upto_out hU hx h1) (show i + 1 ≤ (prodW A B).cap by show i + 1 ≤ 2000; omega))
            · first
              | exact Bool.noConfusion hb94
              | (
               refine nav ?_
               (refine aC_region ?_ <;> refine xL 96 q_move ?_ <;> (refine yL 97 (q_ldao (k := 2) (ps := [pInt (y.1.1 : Nat), pInt (y.1.2 : Nat)]) 18 (by kernel_rfl)) fun v97 hv97 => ?_; cases hv97) <;> refine xL 98 q_move ?_ <;> (refine s_mput2 (m := numE keyI 0 o') (k := keyI y) 306 tPi hko hkn hky hno ?_; rw [show numE keyI 0 o' ++ [(keyI y, Value.int .i64 ((o'.length : Nat) : Int))] = numE keyI 0 (o' ++ [y]) by rw [numE_snoc, Nat.zero_add]]) <;> refine aL_end (nav ?_) <;> try dsimp only)
               (refine aC_draw (fun i => ([16, 17, 18] : List Nat).elem i) [10, 18] (by kernel_rfl) ?_ <;> refine xDT 0 99 rfl q_move ?_ <;> (refine yDT 1 100 rfl (q_ldao (k := 2) (ps := [pInt (y.1.1 : Nat), pInt (y.1.2 : Nat)]) 18 (by kernel_rfl)) fun v100 hv100 => ?_; cases hv100) <;> refine xDT 4 103 rfl (q_fldo 10 tFl69_1_LfP) ?_ <;> (refine yDT 5 104 rfl (q_ldo 10 tNa22_LdI) fun v104 hv104 => ?_; cases hv104) <;> refine xDT 6 105 rfl q_move ?_ <;> refine xDT 9 108 rfl (q_fldo 10 tFl69_2_LfP) ?_ <;> (refine yDT 10 109 rfl (q_ldo 10 tNa22_LdI) fun v109 hv109 => ?_; cases hv109) <;> refine xDT 11 110 rfl q_move ?_ <;> (refine aD_three 2 7 12 (by kernel_rfl) ?_ ?_ ?_; rotate_right; (focus ((refine aW_run rfl fun w9 M9 N9 DQ back => ?_) <;> refine s_lit1 (kk := 1) 111 tEl22_LdI fun h111 ho111 => ?_ <;> refine aL_end (back _ (nrm ?_)) <;> (refine aD_two 2 7 (by kernel_rfl) ?_ ?_; rotate_right; (focus ((refine aW_run rfl fun w9 M9 N9 DQ back => ?_) <;> refine s_lit1 (kk := 1) 106 tEl22_LdI fun h106 ho106 => ?_ <;> refine aL_end (back _ (nrm ?_)) <;> (refine aD_one 2 (by kernel_rfl) ?_) <;> (refine aW_run rfl fun w9 M9 N9 DQ back => ?_) <;> refine s_lit1a 101 tEl102_LfP fun h101 ho101 => ?_ <;> refine aL_end (back _ (nrm ?_)) <;> (refine aD_one 3 (by kernel_rfl) ?_) <;> (refine aW_run rfl fun w9 M9 N9 DQ back => ?_) <;> refine s_app 305 101 102 tEl102_LfP fun h102 ho102 => ?_ <;> refine aL_end (back _ (nrm ?_)) <;> (refine aD_one 8 (by kernel_rfl) ?_) <;> (refine aW_run rfl fun w9 M9 N9 DQ back => ?_) <;> (refine s_app 303 106 107 tEl22_LdI fun h107 ho107 => ?_; have q107 : En.one (PV.val h107) = true := ho107) <;> refine aL_end (back _ (nrm ?_)) <;> (refine aD_one 13 (by kernel_rfl) ?_) <;> (refine aW_run rfl fun w9 M9 N9 DQ back => ?_) <;> (refine s_app 304 111 112 tEl22_LdI fun h112 ho112 => ?_; have q112 : En.one (PV.val h112) = true := ho112) <;> refine aL_end (back _ (nrm ?_)) <;> refine xE 14 11 rfl q_assign ?_ <;> refine xE 15 113 rfl (q_fldo 10 tFl69_1_LfP) ?_)); rotate_right; (focus ((refine aW_run rfl fun w9 M9 N9 DQ back => ?_) <;> refine s_lit1a 101 tEl102_LfP fun h101 ho101 => ?_ <;> refine aL_end (back _ (nrm ?_)) <;> (refine aD_two 3 7 (by kernel_rfl) ?_ ?_; rotate_right; (focus ((refine aW_run rfl fun w9 M9 N9 DQ back => ?_) <;> refine s_lit1 (kk := 1) 106 tEl22_LdI fun h106 ho106 => ?_ <;> refine aL_end (back _ (nrm ?_)) <;> (refine aD_one 3 (by kernel_rfl) ?_) <;> (refine aW_run rfl fun w9 M9 N9 DQ back => ?_) <;> refine s_app 305 101 102 tEl102_LfP fun h102 ho102 => ?_ <;> refine aL_end (back _ (nrm ?_)) <;> (refine aD_one 8 (by kernel_rfl) ?_) <;> (refine aW_run rfl fun w9 M9 N9 DQ back => ?_) <;> (refine s_app 303 106 107 tEl22_LdI fun h107 ho107 => ?_; have q107 : En.one (PV.val h107) = true := ho107) <;> refine aL_end (back _ (nrm ?_)) <;> (refine aD_one 13 (by kernel_rfl) ?_) <;> (refine aW_run rfl fun w9 M9 N9 DQ back => ?_) <;> (refine s_app 304 111 112 tEl22_LdI fun h112 ho112 => ?_; have q112 : En.one (PV.val h112) = true := ho112) <;> refine aL_end (back _ (nrm ?_)) <;> refine xE 14 11 rfl q_assign ?_ <;> refine xE 15 113 rfl (q_fldo 10 tFl69_1_LfP) ?_)); rotate_right; (focus ((refine aW_run rfl fun w9 M9 N9 DQ back => ?_) <;> refine s_app 305 101 102 tEl102_LfP fun h102 ho102 => ?_ <;> refine aL_end (back _ (nrm ?_)) <;> (refine aD_one 7 (by kernel_rfl) ?_) <;> (refine aW_run rfl fun w9 M9 N9 DQ back => ?_) <;> refine s_lit1 (kk := 1) 106 tEl22_LdI fun h106 ho106 => ?_ <;> refine aL_end (back _ (nrm ?_)) <;> (refine aD_one 8 (by kernel_rfl) ?_) <;> (refine aW_run rfl fun w9 M9 N9 DQ back => ?_) <;> (refine s_app 303 106 107 tEl22_LdI fun h107 ho107 => ?_; have q107 : En.one (PV.val h107) = true := ho107) <;> refine aL_end (back _ (nrm ?_)) <;> (refine aD_one 13 (by kernel_rfl) ?_) <;> (refine aW_run rfl fun w9 M9 N9 DQ back => ?_) <;> (refine s_app 304 111 112 tEl22_LdI fun h112 ho112 => ?_; have q112 : En.one (PV.val h112) = true := ho112) <;> refine aL_end (back _ (nrm ?_)) <;> refine xE 14 11 rfl q_assign ?_ <;> refine xE 15 113 rfl (q_fldo 10 tFl69_1_LfP) ?_)))))))); rotate_right; (focus ((refine aW_run rfl fun w9 M9 N9 DQ back => ?_) <;> refine s_lit1 (kk := 1) 106 tEl22_LdI fun h106 ho106 => ?_ <;> refine aL_end (back _ (nrm ?_)) <;> (refine aD_two 2 12 (by kernel_rfl) ?_ ?_; rotate_right; (focus ((refine aW_run rfl fun w9 M9 N9 DQ back => ?_) <;> refine s_lit1 (kk := 1) 111 tEl22_LdI fun h111 ho111 => ?_ <;> refine aL_end (back _ (nrm ?_)) <;> (refine aD_one 2 (by kernel_rfl) ?_) <;> (refine aW_run rfl fun w9 M9 N9 DQ back => ?_) <;> refine s_lit1a 101 tEl102_LfP fun h101 ho101 => ?_ <;> refine aL_end (back _ (nrm ?_)) <;> (refine aD_one 3 (by kernel_rfl) ?_) <;> (refine aW_run rfl fun w9 M9 N9 DQ back => ?_) <;> refine s_app 305 101 102 tEl102_LfP fun h102 ho102 => ?_ <;> refine aL_end (back _ (nrm ?_)) <;> (refine aD_one 8 (by kernel_rfl) ?_) <;> (refine aW_run rfl fun w9 M9 N9 DQ back => ?_) <;> (refine s_app 303 106 107 tEl22_LdI fun h107 ho107 => ?_; have q107 : En.one (PV.val h107) = true := ho107) <;> refine aL_end (back _ (nrm ?_)) <;> (refine aD_one 13 (by kernel_rfl) ?_) <;> (refine aW_run rfl fun w9 M9 N9 DQ back => ?_) <;> (refine s_app 304 111 112 tEl22_LdI fun h112 ho112 => ?_; have q112 : En.one (PV.val h112) = true := ho112) <;> refine aL_end (back _ (nrm ?_)) <;> refine xE 14 11 rfl q_assign ?_ <;> refine xE 15 113 rfl (q_fldo 10 tFl69_1_LfP) ?_)); rotate_right; (focus ((refine aW_run rfl fun w9 M9 N9 DQ back => ?_) <;> refine s_lit1a 101 tEl102_LfP fun h101 ho101 => ?_ <;> refine aL_end (back _ (nrm ?_)) <;> (refine aD_two 3 12 (by kernel_rfl) ?_ ?_; rotate_right; (focus ((refine aW_run rfl fun w9 M9 N9 DQ back => ?_) <;> refine s_lit1 (kk := 1) 111 tEl22_LdI fun h111 ho111 => ?_ <;> refine aL_end (back _ (nrm ?_)) <;> (refine aD_one 3 (by kernel_rfl) ?_) <;> (refine aW_run rfl fun w9 M9 N9 DQ back => ?_) <;> refine s_app 305 101 102 tEl102_LfP fun h102 ho102 => ?_ <;> refine aL_end (back _ (nrm ?_)) <;> (refine aD_one 8 (by kernel_rfl) ?_) <;> (refine aW_run rfl fun w9 M9 N9 DQ back => ?_) <;> (refine s_app 303 106 107 tEl22_LdI fun h107 ho107 => ?_; have q107 : En.one (PV.val h107) = true := ho107) <;> refine aL_end (back _ (nrm ?_)) <;> (refine aD_one 13 (by kernel_rfl) ?_) <;> (refine aW_run rfl fun w9 M9 N9 DQ back => ?_) <;> (refine s_app 304 111 112 tEl22_LdI fun h112 ho112 => ?_; have q112 : En.one (PV.val h112) = true := ho112) <;> refine aL_end (back _ (nrm ?_)) <;> refine xE 14 11 rfl q_assign ?_ <;> refine xE 15 113 rfl (q_fldo 10 tFl69_1_LfP) ?_)); rotate_right; (focus ((refine aW_run rfl fun w9 M9 N9 DQ back => ?_) <;> refine s_app 305 101 102 tEl102_LfP fun h102 ho102 => ?_ <;> refine aL_end (back _ (nrm ?_)) <;> (refine aD_two 8 12 (by kernel_rfl) ?_ ?_; rotate_right; (focus ((refine aW_run rfl fun w9 M9 N9 DQ back => ?_) <;> refine s_lit1 (kk := 1) 111 tEl22_LdI fun h111 ho111 => ?_ <;> refine aL_end (back _ (nrm ?_)) <;> (refine aD_one 8 (by kernel_rfl) ?_) <;> (refine aW_run rfl fun w9 M9 N9 DQ back => ?_) <;> (refine s_app 303 106 107 tEl22_LdI fun h107 ho107 => ?_; have q107 : En.one (PV.val h107) = true := ho107) <;> refine aL_end (back _ (nrm ?_)) <;> (refine aD_one 13 (by kernel_rfl) ?_) <;> (refine aW_run rfl fun w9 M9 N9 DQ back => ?_) <;> (refine s_app 304 111 112 tEl22_LdI fun h112 ho112 => ?_; have q112 : En.one (PV.val h112) = true := ho112) <;> refine aL_end (back _ (nrm ?_)) <;> refine xE 14 11 rfl q_assign ?_ <;> refine xE 15 113 rfl (q_fldo 10 tFl69_1_LfP) ?_)); rotate_right; (focus ((refine aW_run rfl fun w9 M9 N9 DQ back => ?_) <;> (refine s_app 303 106 107 tEl22_LdI fun h107 ho107 => ?_; have q107 : En.one (PV.val h107) = true := ho107) <;> refine aL_end (back _ (nrm ?_)) <;> (refine aD_one 12 (by kernel_rfl) ?_) <;> (refine aW_run rfl fun w9 M9 N9 DQ back => ?_) <;> refine s_lit1 (kk := 1) 111 tEl22_LdI fun h111 ho111 => ?_ <;> refine aL_end (back _ (nrm ?_)) <;> (refine aD_one 13 (by kernel_rfl) ?_) <;> (refine aW_run rfl fun w9 M9 N9 DQ back => ?_) <;> (refine s_app 304 111 112 tEl22_LdI fun h112 ho112 => ?_; have q112 : En.one (PV.val h112) = true := ho112) <;> refine aL_end (back _ (nrm ?_)) <;> refine xE 14 11 rfl q_assign ?_ <;> refine xE 15 113 rfl (q_fldo 10 tFl69_1_LfP) ?_))))))))))); rotate_right; (focus ((refine aW_run rfl fun w9 M9 N9 DQ back => ?_) <;> refine s_lit1a 101 tEl102_LfP fun h101 ho101 => ?_ <;> refine aL_end (back _ (nrm ?_)) <;> (refine aD_three 3 7 12 (by kernel_rfl) ?_ ?_ ?_; rotate_right; (focus ((refine aW_run rfl fun w9 M9 N9 DQ back => ?_) <;> refine s_lit1 (kk := 1) 111 tEl22_LdI fun h111 ho111 => ?_ <;> refine aL_end (back _ (nrm ?_)) <;> (refine aD_two 3 7 (by kernel_rfl) ?_ ?_; rotate_right; (focus ((refine aW_run rfl fun w9 M9 N9 DQ back => ?_) <;> refine s_lit1 (kk := 1) 106 tEl22_LdI fun h106 ho106 => ?_ <;> refine aL_end (back _ (nrm ?_)) <;> (refine aD_one 3 (by kernel_rfl) ?_) <;> (refine aW_run rfl fun w9 M9 N9 DQ back => ?_) <;> refine s_app 305 101 102 tEl102_LfP fun h102 ho102 => ?_ <;> refine aL_end (back _ (nrm ?_)) <;> (refine aD_one 8 (by kernel_rfl) ?_) <;> (refine aW_run rfl fun w9 M9 N9 DQ back => ?_) <;> (refine s_app 303 106 107 tEl22_LdI fun h107 ho107 => ?_; have q107 : En.one (PV.val h107) = true := ho107) <;> refine aL_end (back _ (nrm ?_)) <;> (refine aD_one 13 (by kernel_rfl) ?_) <;> (refine aW_run rfl fun w9 M9 N9 DQ back => ?_) <;> (refine s_app 304 111 112 tEl22_LdI fun h112 ho112 => ?_; have q112 : En.one (PV.val h112) = true := ho112) <;> refine aL_end (back _ (nrm ?_)) <;> refine xE 14 11 rfl q_assign ?_ <;> refine xE 15 113 rfl (q_fldo 10 tFl69_1_LfP) ?_)); rotate_right; (focus ((refine aW_run rfl fun w9 M9 N9 DQ back => ?_) <;> refine s_app 305 101 102 tEl102_LfP fun h102 ho102 => ?_ <;> refine aL_end (back _ (nrm ?_)) <;> (refine aD_one 7 (by kernel_rfl) ?_) <;> (refine aW_run rfl fun w9 M9 N9 DQ back => ?_) <;> refine s_lit1 (kk := 1) 106 tEl22_LdI fun h106 ho106 => ?_ <;> refine aL_end (back _ (nrm ?_)) <;> (refine aD_one 8 (by kernel_rfl) ?_) <;> (refine aW_run rfl fun w9 M9 N9 DQ back => ?_) <;> (refine s_app 303 106 107 tEl22_LdI fun h107 ho107 => ?_; have q107 : En.one (PV.val h107) = true := ho107) <;> refine aL_end (back _ (nrm ?_)) <;> (refine aD_one 13 (by kernel_rfl) ?_) <;> (refine aW_run rfl fun w9 M9 N9 DQ back => ?_) <;> (refine s_app 304 111 112 tEl22_LdI fun h112 ho112 => ?_; have q112 : En.one (PV.val h112) = true := ho112) <;> refine aL_end (back _ (nrm ?_)) <;> refine xE 14 11 rfl q_assign ?_ <;> refine xE 15 113 rfl (q_fldo 10 tFl69_1_LfP) ?_))))); rotate_right; (focus ((refine aW_run rfl fun w9 M9 N9 DQ back => ?_) <;> refine s_lit1 (kk := 1) 106 tEl22_LdI fun h106 ho106 => ?_ <;> refine aL_end (back _ (nrm ?_)) <;> (refine aD_two 3 12 (by kernel_rfl) ?_ ?_; rotate_right; (focus ((refine aW_run rfl fun w9 M9 N9 DQ back => ?_) <;> refine s_lit1 (kk := 1) 111 tEl22_LdI fun h111 ho111 => ?_ <;> refine aL_end (back _ (nrm ?_)) <;> (refine aD_one 3 (by kernel_rfl) ?_) <;> (refine aW_run rfl fun w9 M9 N9 DQ back => ?_) <;> refine s_app 305 101 102 tEl102_LfP fun h102 ho102 => ?_ <;> refine aL_end (back _ (nrm ?_)) <;> (refine aD_one 8 (by kernel_rfl) ?_) <;> (refine aW_run rfl fun w9 M9 N9 DQ back => ?_) <;> (refine s_app 303 106 107 tEl22_LdI fun h107 ho107 => ?_; have q107 : En.one (PV.val h107) = true := ho107) <;> refine aL_end (back _ (nrm ?_)) <;> (refine aD_one 13 (by kernel_rfl) ?_) <;> (refine aW_run rfl fun w9 M9 N9 DQ back => ?_) <;> (refine s_app 304 111 112 tEl22_LdI fun h112 ho112 => ?_; have q112 : En.one (PV.val h112) = true := ho112) <;> refine aL_end (back _ (nrm ?_)) <;> refine xE 14 11 rfl q_assign ?_ <;> refine xE 15 113 rfl (q_fldo 10 tFl69_1_LfP) ?_)); rotate_right; (focus ((refine aW_run rfl fun w9 M9 N9 DQ back => ?_) <;> refine s_app 305 101 102 tEl102_LfP fun h102 ho102 => ?_ <;> refine aL_end (back _ (nrm ?_)) <;> (refine aD_two 8 12 (by kernel_rfl) ?_ ?_; rotate_right; (focus ((refine aW_run rfl fun w9 M9 N9 DQ back => ?_) <;> refine s_lit1 (kk := 1) 111 tEl22_LdI fun h111 ho111 => ?_ <;> refine aL_end (back _ (nrm ?_)) <;> (refine aD_one 8 (by kernel_rfl) ?_) <;> (refine aW_run rfl fun w9 M9 N9 DQ back => ?_) <;> (refine s_app 303 106 107 tEl22_LdI fun h107 ho107 => ?_; have q107 : En.one (PV.val h107) = true := ho107) <;> refine aL_end (back _ (nrm ?_)) <;> (refine aD_one 13 (by kernel_rfl) ?_) <;> (refine aW_run rfl fun w9 M9 N9 DQ back => ?_) <;> (refine s_app 304 111 112 tEl22_LdI fun h112 ho112 => ?_; have q112 : En.one (PV.val h112) = true := ho112) <;> refine aL_end (back _ (nrm ?_)) <;> refine xE 14 11 rfl q_assign ?_ <;> refine xE 15 113 rfl (q_fldo 10 tFl69_1_LfP) ?_)); rotate_right; (focus ((refine aW_run rfl fun w9 M9 N9 DQ back => ?_) <;> (refine s_app 303 106 107 tEl22_LdI fun h107 ho107 => ?_; have q107 : En.one (PV.val h107) = true := ho107) <;> refine aL_end (back _ (nrm ?_)) <;> (refine aD_one 12 (by kernel_rfl) ?_) <;> (refine aW_run rfl fun w9 M9 N9 DQ back => ?_) <;> refine s_lit1 (kk := 1) 111 tEl22_LdI fun h111 ho111 => ?_ <;> refine aL_end (back _ (nrm ?_)) <;> (refine aD_one 13 (by kernel_rfl) ?_) <;> (refine aW_run rfl fun w9 M9 N9 DQ back => ?_) <;> (refine s_app 304 111 112 tEl22_LdI fun h112 ho112 => ?_; have q112 : En.one (PV.val h112) = true := ho112) <;> refine aL_end (back _ (nrm ?_)) <;> refine xE 14 11 rfl q_assign ?_ <;> refine xE 15 113 rfl (q_fldo 10 tFl69_1_LfP) ?_)))))))); rotate_right; (focus ((refine aW_run rfl fun w9 M9 N9 DQ back => ?_) <;> refine s_app 305 101 102 tEl102_LfP fun h102 ho102 => ?_ <;> refine aL_end (back _ (nrm ?_)) <;> (refine aD_two 7 12 (by kernel_rfl) ?_ ?_; rotate_right; (focus ((refine aW_run rfl fun w9 M9 N9 DQ back => ?_) <;> refine s_lit1 (kk := 1) 111 tEl22_LdI fun h111 ho111 => ?_ <;> refine aL_end (back _ (nrm ?_)) <;> (refine aD_one 7 (by kernel_rfl) ?_) <;> (refine aW_run rfl fun w9 M9 N9 DQ back => ?_) <;> refine s_lit1 (kk := 1) 106 tEl22_LdI fun h106 ho106 => ?_ <;> refine aL_end (back _ (nrm ?_)) <;> (refine aD_one 8 (by kernel_rfl) ?_) <;> (refine aW_run rfl fun w9 M9 N9 DQ back => ?_) <;> (refine s_app 303 106 107 tEl22_LdI fun h107 ho107 => ?_; have q107 : En.one (PV.val h107) = true := ho107) <;> refine aL_end (back _ (nrm ?_)) <;> (refine aD_one 13 (by kernel_rfl) ?_) <;> (refine aW_run rfl fun w9 M9 N9 DQ back => ?_) <;> (refine s_app 304 111 112 tEl22_LdI fun h112 ho112 => ?_; have q112 : En.one (PV.val h112) = true := ho112) <;> refine aL_end (back _ (nrm ?_)) <;> refine xE 14 11 rfl q_assign ?_ <;> refine xE 15 113 rfl (q_fldo 10 tFl69_1_LfP) ?_)); rotate_right; (focus ((refine aW_run rfl fun w9 M9 N9 DQ back => ?_) <;> refine s_lit1 (kk := 1) 106 tEl22_LdI fun h106 ho106 => ?_ <;> refine aL_end (back _ (nrm ?_)) <;> (refine aD_two 8 12 (by kernel_rfl) ?_ ?_; rotate_right; (focus ((refine aW_run rfl fun w9 M9 N9 DQ back => ?_) <;> refine s_lit1 (kk := 1) 111 tEl22_LdI fun h111 ho111 => ?_ <;> refine aL_end (back _ (nrm ?_)) <;> (refine aD_one 8 (by kernel_rfl) ?_) <;> (refine aW_run rfl fun w9 M9 N9 DQ back => ?_) <;> (refine s_app 303 106 107 tEl22_LdI fun h107 ho107 => ?_; have q107 : En.one (PV.val h107) = true := ho107) <;> refine aL_end (back _ (nrm ?_)) <;> (refine aD_one 13 (by kernel_rfl) ?_) <;> (refine aW_run rfl fun w9 M9 N9 DQ back => ?_) <;> (refine s_app 304 111 112 tEl22_LdI fun h112 ho112 => ?_; have q112 : En.one (PV.val h112) = true := ho112) <;> refine aL_end (back _ (nrm ?_)) <;> refine xE 14 11 rfl q_assign ?_ <;> refine xE 15 113 rfl (q_fldo 10 tFl69_1_LfP) ?_)); rotate_right; (focus ((refine aW_run rfl fun w9 M9 N9 DQ back => ?_) <;> (refine s_app 303 106 107 tEl22_LdI fun h107 ho107 => ?_; have q107 : En.one (PV.val h107) = true := ho107) <;> refine aL_end (back _ (nrm ?_)) <;> (refine aD_one 12 (by kernel_rfl) ?_) <;> (refine aW_run rfl fun w9 M9 N9 DQ back => ?_) <;> refine s_lit1 (kk := 1) 111 tEl22_LdI fun h111 ho111 => ?_ <;> refine aL_end (back _ (nrm ?_)) <;> (refine aD_one 13 (by kernel_rfl) ?_) <;> (refine aW_run rfl fun w9 M9 N9 DQ back => ?_) <;> (refine s_app 304 111 112 tEl22_LdI fun h112 ho112 => ?_; have q112 : En.one (PV.val h112) = true := ho112) <;> refine aL_end (back _ (nrm ?_)) <;> refine xE 14 11 rfl q_assign ?_ <;> refine xE 15 113 rfl (q_fldo 10 tFl69_1_LfP) ?_)))))))))))) <;> (refine aD_one 16 (by kernel_rfl) ?_) <;> (refine aW_thenZ rfl rfl fun DQ back => ?_) <;> refine s_st 10 tNa22_LdI tSz22_LdK ?_ <;> refine aL_end (back _ ?_) <;> (refine aDZ_one 17 (by kernel_rfl) rfl rfl fun DQ back => ?_) <;> refine xL 114 (q_fldo 10 tFl69_2_LfP) ?_ <;> refine aL_end (back _ ?_) <;> (refine aDZ_one 18 (by kernel_rfl) rfl rfl fun DQ back => ?_) <;> refine s_st 10 tNa22_LdI tSz22_LdK ?_ <;> refine aL_end (back _ ?_) <;> refine aDZ_end (by kernel_rfl) (nav ?_) <;> try dsimp only) <;> (
                first
                 | (refine aN_ent (relabel (l := 102) 305 rfl rfl) fun _ => ?_
                    refine aN_ent (recast (l := 305) rfl (snoc_pr _ o' y)) fun _ => ?_
                    refine aN_ent (relabel (l := 107) 303 rfl rfl) fun _ => ?_
                    refine aN_ent (recast (l := 303) (p' := .own 3 1 (pFrom (o' ++ [y])).length ((pFrom (o' ++ [y])).map pInt)) rfl ((own_ints _ (pFrom o') i).trans (by rw [from_snoc, hy2]))) fun _ => ?_
                    refine aN_ent (relabel (l := 112) 304 rfl rfl) fun _ => ?_
                    refine aN_ent (recast (l := 304) (p' := .own 3 1 (pSym (o' ++ [y])).length ((pSym (o' ++ [y])).map pInt)) rfl ((own_ints _ (pSym o') s).trans (by rw [sym_snoc, hy2]))) fun _ => ?_
                    exact aN_join ⟨(h107, h112, h102, o' ++ [y], o'.length), ho107, ho112, ho102, by dsimp only; rw [hy]; exact visit_new hnew2 (show o'.length < 2000 by omega)⟩ ⟨rfl, rfl, rfl, rfl, rfl, rfl, rfl, rfl, rfl, rfl, rfl, rfl, rfl, rfl, rfl, rfl, rfl, rfl, trivial⟩ ⟨rfl, rfl, rfl, rfl, rfl, rfl, rfl, rfl, rfl, rfl, rfl, trivial⟩)
                 | exact aN_join ⟨(r3', r4', r5', o', posK keyI o' (keyI y)), hr3', hr4', hr5', by dsimp only; rw [hid, hy]; exact visit_old hold2⟩ ⟨rfl, rfl, rfl, rfl, rfl, rfl, rfl, rfl, rfl, rfl, rfl, rfl, rfl, rfl, rfl, rfl, rfl, rfl, trivial⟩ ⟨rfl, rfl, rfl, rfl, rfl, rfl, rfl, rfl, rfl, rfl, rfl, trivial⟩)))
         · first
           | exact Bool.noConfusion hb90
           | (
            have hold : posK keyI o' (keyI y) < o'.length := by simpa using hb90
            have hold2 : posK (prodW A B).key o' ((prodW A B).key ((prodW A B).step i x s)) < o'.length := by
             rw [← hy]
             show posK Prod.fst o' y.1 < o'.length
             rw [← hid]; exact hold
            rw [if_pos hold]
            refine nav ?_
            first
             | (refine aN_ent (relabel (l := 102) 305 rfl rfl) fun _ => ?_
                refine aN_ent (recast (l := 305) rfl (snoc_pr _ o' y)) fun _ => ?_
                refine aN_ent (relabel (l := 107) 303 rfl rfl) fun _ => ?_
                refine aN_ent (recast (l := 303) (p' := .own 3 1 (pFrom (o' ++ [y])).length ((pFrom (o' ++ [y])).map pInt)) rfl ((own_ints _ (pFrom o') i).trans (by rw [from_snoc, hy2]))) fun _ => ?_
                refine aN_ent (relabel (l := 112) 304 rfl rfl) fun _ => ?_
                refine aN_ent (recast (l := 304) (p' := .own 3 1 (pSym (o' ++ [y])).length ((pSym (o' ++ [y])).map pInt)) rfl ((own_ints _ (pSym o') s).trans (by rw [sym_snoc, hy2]))) fun _ => ?_
                exact aN_join ⟨(h107, h112, h102, o' ++ [y], o'.length), ho107, ho112, ho102, by dsimp only; rw [hy]; exact visit_new hnew2 (show o'.length < 2000 by omega)⟩ ⟨rfl, rfl, rfl, rfl, rfl, rfl, rfl, rfl, rfl, rfl, rfl, rfl, rfl, rfl, rfl, rfl, rfl, rfl, trivial⟩ ⟨rfl, rfl, rfl, rfl, rfl, rfl, rfl, rfl, rfl, rfl, rfl, trivial⟩)
             | exact aN_join ⟨(r3', r4', r5', o', posK keyI o' (keyI y)), hr3', hr4', hr5', by dsimp only; rw [hid, hy]; exact visit_old hold2⟩ ⟨rfl, rfl, rfl, rfl, rfl, rfl, rfl, rfl, rfl, rfl, rfl, rfl, rfl, rfl, rfl, rfl, rfl, rfl, trivial⟩ ⟨rfl, rfl, rfl, rfl, rfl, rfl, rfl, rfl, rfl, rfl, rfl, trivial⟩)
       · rintro ⟨⟨g3, g4, g5, o2, n2⟩, w3, w4, w5, hvis⟩
         dsimp only at w3 w4 w5 hvis ⊢
         refine nav ?_
         (refine aC_region ?_ <;> refine xL 115 q_move ?_ <;> refine xL 116 q_move ?_ <;> refine xL 117 q_move ?_ <;> refine xL 118 (q_idxoN 54 tSl22_LbB) ?_ <;> refine s_st 54 tNa3_LbB tSz3_LdJ ?_ <;> refine aL_end (nav ?_) <;> try dsimp only)
         (refine aC_region ?_ <;> refine xL 119 q_add ?_ <;> refine xL 57 q_move ?_ <;> refine aL_end (nav ?_) <;> try dsimp only)
         rw [show s * 1 = r.length * 1 by omega, rowAt_set _ (by omega)]
         refine aN_again (
          ⟨(s + 1, g3, g4, g5, o2, r ++ [n2]), Srch.row_snoc hW hvis, (by dsimp only; omega), w3, w4, w5⟩
          ) (by dsimp only; omega) ⟨rfl, rfl, rfl, rfl, rfl, rfl, rfl, rfl, rfl, rfl, rfl, rfl, rfl, rfl, rfl, rfl, trivial⟩ ⟨rfl, rfl, rfl, rfl, rfl, rfl, rfl, rfl, rfl, rfl, rfl, trivial⟩)
    · first
      | exact Bool.noConfusion hb58
      | (
       have hse : s = A.syms.toNat := by omega
       subst hse
       have hU2 := Srch.upto_snoc hU hx hW
       have htk : o'.take (i + 1) = (o.take i) ++ [x] := by
        rw [take_snoc hx']
        obtain ⟨e, rfl⟩ := hpr
        rw [List.take_append_of_le_length hi]
       have f1 : ((List.range A.n.toNat).map fun s => pBool (finB A (s : Nat)))[x.1.1 * 1]? = some (pBool (finB A (x.1.1 : Nat))) := by rw [Nat.mul_one, range_at hx1]
       have f2 : ((List.range B.n.toNat).map fun s => pBool (finB B (s : Nat)))[x.1.2 * 1]? = some (pBool (finB B (x.1.2 : Nat))) := by rw [Nat.mul_one, range_at hx2]
       refine nav ?_
       refine aC_ent (En.freeze (l := 54) (t := 16) rfl rfl) fun _ => ?_
       rw [share_row _ _ _ hrl]
       (refine aC_draw (fun i => ([29, 30, 31, 32] : List Nat).elem i) [10] (by kernel_rfl) ?_ <;> refine xDT 0 120 rfl (q_fldo 10 tFl69_0_LfP) ?_ <;> refine xDT 1 121 rfl (q_fldo 10 tFl63_1_LfB) ?_ <;> (refine yDT 2 122 rfl (q_ldo 10 tNa36_LfB) fun v122 hv122 => ?_; cases hv122) <;> refine xDT 3 123 rfl q_move ?_ <;> refine xDT 6 126 rfl (q_fldo 10 tFl69_0_LfP) ?_ <;> refine xDT 7 127 rfl (q_fldo 10 tFl63_2_LfB) ?_ <;> (refine yDT 8 128 rfl (q_ldo 10 tNa61_LdJ) fun v128 hv128 => ?_; cases hv128) <;> refine xDT 9 129 rfl q_move ?_ <;> refine xDT 10 130 rfl q_move ?_ <;> refine xDT 11 131 rfl q_nilp ?_ <;> refine xDT 12 132 rfl (q_fld tFl76_2_LdJ) ?_ <;> (refine yDT 13 133 rfl (q_ld tNa61_LdJ) fun v133 hv133 => ?_; cases hv133) <;> refine xDT 14 134 rfl q_move ?_ <;> refine xDT 15 135 rfl (q_idxN tSl61_LdJ) ?_ <;> (refine yDT 16 136 rfl (q_ld tNa4_LdJ) fun v136 hv136 => ?_; cases hv136) <;> refine xDT 17 137 rfl q_move ?_ <;> refine xDT 18 138 rfl q_nilp ?_ <;> refine xDT 19 139 rfl (q_fld tFl76_2_LdJ) ?_ <;> (refine yDT 20 140 rfl (q_ld tNa61_LdJ) fun v140 hv140 => ?_; cases hv140) <;> refine xDT 21 141 rfl q_move ?_ <;> refine xDT 22 142 rfl (q_idxN tSl61_LdJ) ?_ <;> (refine yDT 23 143 rfl (q_ld tNa4_LdJ) fun v143 hv143 => ?_; cases hv143) <;> (refine aD_one 4 (by kernel_rfl) ?_) <;> (refine aW_run rfl fun w9 M9 N9 DQ back => ?_) <;> refine s_lit1 (kk := 1) 124 tEl36_LdS fun h124 ho124 => ?_ <;> refine aL_end (back _ (nrm ?_)) <;> (refine aD_one 5 (by kernel_rfl) ?_) <;> (refine aW_run rfl fun w9 M9 N9 DQ back => ?_) <;> (refine s_app 301 124 125 tEl36_LdS fun h125 ho125 => ?_; have q125 : En.one (PV.val h125) = true := ho125) <;> refine aL_end (back _ (nrm ?_)) <;> refine xDT 27 147 rfl (q_fldo 10 tFl69_0_LfP) ?_ <;> refine xDT 28 148 rfl (q_fldo 10 tFl63_1_LfB) ?_ <;> (refine aD_one 24 (by kernel_rfl) ?_) <;> (refine aW_call (d := 144) rfl (cA Tryd.call60 (aDecides_e op (finB A (x.1.1 : Nat)) (finB B (x.1.2 : Nat)))) fun v144 hv144 => ?_; cases hv144) <;> (refine aD_one 25 (by kernel_rfl) ?_) <;> (refine aW_run rfl fun w9 M9 N9 DQ back => ?_) <;> refine s_lit1 (kk := 1) 145 tEl61_LdR fun h145 ho145 => ?_ <;> refine aL_end (back _ (nrm ?_)) <;> (refine aD_one 26 (by kernel_rfl) ?_) <;> (refine aW_run rfl fun w9 M9 N9 DQ back => ?_) <;> (refine s_app 302 145 146 tEl61_LdR fun h146 ho146 => ?_; have q146 : En.one (PV.val h146) = true := ho146) <;> refine aL_end (back _ (nrm ?_)) <;> (refine aD_one 29 (by kernel_rfl) ?_) <;> (refine aW_thenZ rfl rfl fun DQ back => ?_) <;> refine s_st 10 tNa36_LfB tSz36_LfB ?_ <;> refine aL_end (back _ ?_) <;> (refine aDZ_one 30 (by kernel_rfl) rfl rfl fun DQ back => ?_) <;> refine xL 149 (q_fldo 10 tFl69_0_LfP) ?_ <;> refine aL_end (back _ ?_) <;> (refine aDZ_one 31 (by kernel_rfl) rfl rfl fun DQ back => ?_) <;> refine xL 150 (q_fldo 10 tFl63_2_LfB) ?_ <;> refine aL_end (back _ ?_) <;> (refine aDZ_one 32 (by kernel_rfl) rfl rfl fun DQ back => ?_) <;> refine s_st 10 tNa61_LdJ tSz61_LfB ?_ <;> refine aL_end (back _ ?_) <;> refine aDZ_end (by kernel_rfl) (nav ?_) <;> try dsimp only)
       refine aC_ent (relabel (l := 125) 301 rfl rfl) fun _ => ?_
       refine aC_ent (relabel (l := 146) 302 rfl rfl) fun _ => ?_
       refine aC_ent (recast (l := 301) rfl (snoc_nats _ rows r)) fun _ => ?_
       refine aC_ent (recast (l := 302) rfl (snoc_bools _ ((o.take i).map (prodF A B op)) (prodF A B op x))) fun _ => ?_
       rw [show ((o.take i).map (prodF A B op)) ++ [prodF A B op x] = (o'.take (i + 1)).map (prodF A B op) by rw [htk, List.map_append]; rfl]
       (refine aC_region ?_ <;> refine xL 40 q_move ?_ <;> refine xL 41 q_add ?_ <;> refine xL 13 q_assign ?_ <;> refine aL_end (nav ?_) <;> try dsimp only)
       refine aN_again (
        ⟨(i + 1, h125, h146, r3', r4', r5', o', rows ++ [r]), hU2, (by dsimp only; omega), ho125, ho146, hr3', hr4', hr5'⟩
        ) (by dsimp only; omega) ⟨rfl, rfl, rfl, rfl, rfl, rfl, rfl, rfl, rfl, rfl, rfl, trivial⟩ ⟨rfl, rfl, rfl, rfl, rfl, rfl, rfl, rfl, rfl, rfl, trivial⟩))
 · first
   | exact Bool.noConfusion hb39
   | (
    have hio : i = o.length := by omega
    subst hio
    refine nav ?_
    refine aC_ent (freezeCell (l := 10) (l' := 301) (j := 1) rfl rfl rfl rfl) fun _ => ?_
    refine aC_ent (freezeCell (l := 10) (l' := 302) (j := 2) rfl rfl rfl rfl) fun _ => ?_
    refine aC_ent (freezeCell (l := 10) (l' := 303) (j := 3) rfl rfl rfl rfl) fun _ => ?_
    refine aC_ent (freezeCell (l := 10) (l' := 304) (j := 4) rfl rfl rfl rfl) fun _ => ?_
    rw [share_natss _ _ _ rfl, share_boolss _ _ _ rfl, share_ints _ _ _ rfl, share_ints _ _ _ rfl]
    (refine aC_region ?_ <;> (refine yL 151 (q_ldao 10 tAgg69_LfP) fun v151 hv151 => ?_; cases hv151) <;> refine s_sta 6 tAgg69_LfP ?_ <;> refine xL 7 q_assign ?_ <;> refine aL_end (nav ?_) <;> try dsimp only)
    refine ret_cs (k := 5) 6 (by kernel_rfl) (Tryd.results51) rfl rfl rfl (Nat.le_of_ble_eq_true rfl) (by decide) rfl (.inl ⟨(o, rows), Srch.all_some hU (Nat.le_refl _) (show o.length ≤ (prodW A B).cap from hcap), ?_⟩)
    unfold pPairs
    dsimp only
    rw [List.take_length, hsN]; rfl)
section
variable {α κ : Type} [DecidableEq κ] {W : Srch α κ}
def Srch.Born (W : Srch α κ) (o : List α) : Prop := ∀ j x, 0 < j → o[j]? = some x → ∃ i y s, i < j ∧ o[i]? = some y ∧ s < W.m ∧ x = W.step i y s
theorem Srch.Born.visit {o o' : List α} {i s n : Nat} {y : α} (h : W.Born o) (hy : o[i]? = some y) (hs : s < W.m) (hv : visit W.key W.cap o (W.step i y s) = some (o', n)) : W.Born o' := by
 unfold Go.Proofs.YtgigclnaicbiaaaDoor.visit at hv
 split at hv
 · cases hv; exact h
 · split at hv
   · cases hv
   · cases hv
     intro j x hj hx
     rw [List.getElem?_append] at hx
     split at hx
     · obtain ⟨i', y', s', h1, h2, h3, h4⟩ := h j x hj hx
       exact ⟨i', y', s', h1, preG_get (List.prefix_append ..) h2, h3, h4⟩
     · rename_i hjl
       have h1 := lt_of_get hx
       rw [List.length_singleton] at h1
       rw [show j - o.length = 0 by omega, List.getElem?_cons_zero] at hx
       cases hx
       exact ⟨i, y, s, by have := lt_of_get hy; omega, preG_get (List.prefix_append ..) hy, hs, rfl⟩
theorem Srch.Born.row {o : List α} {i : Nat} {y : α} (h : W.Born o) (hy : o[i]? = some y) : ∀ {s : Nat} {o' : List α} {r : List Nat}, s ≤ W.m → W.row i y o s = some (o', r) → W.Born o' ∧ o <+: o'
 | 0, o', r, _, hr => by
   rw [Srch.row] at hr; cases hr
   exact ⟨h, List.prefix_refl _⟩
 | s + 1, o', r, hs, hr => by
   rw [Srch.row, Option.bind_eq_some_iff] at hr
   obtain ⟨⟨o1, r1⟩, h1, h2⟩ := hr
   obtain ⟨⟨o2, n⟩, h3, h4⟩ := Option.map_eq_some_iff.1 h2
   cases h4
   obtain ⟨h5, h6⟩ := Srch.Born.row h hy (by omega) h1
   exact ⟨h5.visit (preG_get h6 hy) (by omega) h3, h6.trans (visit_pre h3).1⟩
theorem Srch.born {x0 : α} : ∀ {i : Nat} {o : List α} {rows : List (List Nat)}, W.upto x0 i = some (o, rows) → W.Born o
 | 0, o, rows, h => by
   rw [Srch.upto] at h; cases h
   intro j x hj hx
   have := lt_of_get hx
   rw [List.length_singleton] at this; omega
 | i + 1, o, rows, h => by
   rw [Srch.upto, Option.bind_eq_some_iff] at h
   obtain ⟨⟨o1, rows1⟩, h1, h2⟩ := h
   have h3 := Srch.born h1
   dsimp only at h2
   cases hx : o1[i]? with
   | none => rw [hx] at h2; cases h2; exact h3
   | some x =>
     rw [hx] at h2
     obtain ⟨⟨o2, r⟩, h5, h6⟩ := Option.map_eq_some_iff.1 h2
     cases h6
     exact (h3.row hx (Nat.le_refl _) h5).1
end
def Back (par : List (Int × Int)) : Prop := ∀ (j : Nat) (x : Int × Int), par[j]? = some x → x.1 < (j : Int)
theorem pathP_fuel {par : List (Int × Int)} (h : Back par) : ∀ (f g i : Nat), i < f → i < g → pathP par f i = pathP par g i
 | 0, _, _, h1, _ => by omega
 | f + 1, 0, _, _, h2 => by omega
 | f + 1, g + 1, i, h1, h2 => by
   rw [pathP, pathP]
   cases hx : par[i]? with
   | none => rfl
   | some x =>
     dsimp only
     have := h i x hx
     by_cases h0 : x.1 < 0
     · rw [if_pos h0, if_pos h0]
     · rw [if_neg h0, if_neg h0, pathP_fuel h f g x.1.toNat (by omega) (by omega)]
def wayP (par : List (Int × Int)) (i : Nat) : List Int := pathP par (i + 1) i
theorem wayP_end {par : List (Int × Int)} {i : Nat} {x : Int × Int} (hx : par[i]? = some x) (h0 : x.1 < 0) : wayP par i = [] := by
 unfold wayP; rw [pathP, hx]; dsimp only; rw [if_pos h0]
theorem wayP_on {par : List (Int × Int)} (h : Back par) {i : Nat} {x : Int × Int} (hx : par[i]? = some x) (h0 : ¬ x.1 < 0) : wayP par i = wayP par x.1.toNat ++ [x.2] := by
 unfold wayP; rw [pathP, hx]; dsimp only; rw [if_neg h0, pathP_fuel h i (x.1.toNat + 1) x.1.toNat (by have := h i x hx; omega) (by omega)]
theorem prod_back {A B : Aut} {i : Nat} {o : List ((Nat × Nat) × (Int × Int))} {rows : List (List Nat)} (hu : (prodW A B).upto ((0, 0), (-1, -1)) i = some (o, rows)) (h0 : o[0]? = some ((0, 0), (-1, -1))) : Back (o.map (·.2)) := fun j x hx => by
 rw [List.getElem?_map] at hx
 obtain ⟨y, hy, rfl⟩ := Option.map_eq_some_iff.1 hx
 rcases Nat.eq_zero_or_pos j with rfl | hj
 · rw [h0] at hy; cases hy; decide
 · obtain ⟨i', y', s, h1, _, _, rfl⟩ := Srch.born hu j y hj hy
   show ((i' : Nat) : Int) < _
   omega
theorem idxB (l : List Bool) : idx (fun x => x == true) l = match l.idxOf? true with | some i => (i : Int) | none => -1 := rfl
end Go.Proofs.YtgigclnaicbiaaaDoor
namespace Go.En
open Go.RowKit Go.Cb Go.Proofs Go.Sort
set_option linter.all false
def RevI (P : Program) (fs : Nat) : Prop := ∀ (blk cap : Nat) (zs : List Int) (w : World), Go.Sort.Holds (Value.int .i64) w blk 0 zs.toArray → blk < w.heap.size → zs.length < 4611686018427387904 →
 Calls P fs #[.slice (some ⟨blk, 0, none⟩) zs.length cap] w fun e w' => e = .returned (.tuple #[]) ∧ ∃ n os, w' = grow (putRow (Value.int .i64) (Go.Sort.ahead w n) blk 0 zs.reverse.toArray) os
section
variable {P : Program} {c : Ctx} {ops : Array Oper} {Q : Exit → Act → World → Prop} {rest : List Oper} {sL hP : List (Nat × Ent)} {o : Oper}
theorem s_revI {fs e d : Nat} {zs : List Int} {h : Value} {q : PV} {x : Operand} {ats : Array TypeId} (l : Nat) (hS : RevI P fs) (hc : ∀ args w, (callFunc fs args).run P w = .ok (.enter fs args) w)
 (kk : aL P c ops Q rest ⟨put d (.tuple #[], .val (.tuple #[])) sL, put l (h, .own e 1 zs.length (zs.reverse.map pInt)) hP⟩)
 (hn : 0 < zs.length) (hn2 : zs.length < 4611686018427387904 := by omega) (hw : wants ops sL o = some true := by exact rfl) (hd : o.dst = some d := by exact rfl) (hdn : d < c.nt := by exact Nat.le_of_ble_eq_true rfl) (ho : o.op = .call { callee := .value (.func fs), args := #[x], argTypes := ats } := by exact rfl) (hx : ev sL x = some (h, q) := by exact rfl) (hl : lk hP l = some (h, .own e 1 zs.length (zs.map pInt)) := by exact rfl) : aL P c ops Q (o :: rest) (⟨sL, hP⟩ : St) :=
 aL_run hw fun a w F H => by
  have hxv := (H.rd.ev hx).1
  have hTr := H.tr l _ _ hl
  obtain ⟨xs, Fs, hrow, hlen, hT, hdj, hb, hF⟩ := hTr.row
  obtain ⟨blk, cap, hh, hc1, hc2, hc3⟩ := own_hdr hTr hn
  have hblkF : F l blk := (hF blk).2 (.inl (by rw [hh]; rfl))
  have hxs : ∀ (j : Nat) (v : Value), xs[j]? = some v → ∃ z, zs[j]? = some z ∧ v = .int .i64 z := fun j v hv => by
   obtain ⟨p, hp⟩ := get_of_len hv hlen.symm
   have h1 := hp
   rw [List.getElem?_map, Option.map_eq_some_iff] at h1
   obtain ⟨z, hz, rfl⟩ := h1
   exact ⟨z, hz, ((hT j v _ hv hp).sh rfl).vOf⟩
  have hHold : Go.Sort.Holds (Value.int .i64) w blk 0 zs.toArray := fun j hj => by
   simp only [List.size_toArray] at hj
   have hrow' := hrow
   rw [hh] at hrow'
   obtain ⟨v, hv⟩ := get_of_lt (show j < xs.length by rw [← hlen, List.length_map]; exact hj)
   obtain ⟨z, hz, rfl⟩ := hxs j v hv
   refine ⟨?_, by rw [Nat.zero_add]; exact hrow'.frozenAt j⟩
   rw [Nat.zero_add, row_cell hrow' hv]
   have : zs.toArray[j]! = z := by
    have hz' := (List.getElem?_eq_some_iff.1 hz).2
    simp [hj, hz']
   rw [this]
  have hcall := hS blk cap zs w hHold hc3 hn2
  unfold Oper.wp
  have hrun : (execOp a.eval o).run P w = .ok (.enter fs #[h]) w := by
   have hev : a.eval (.func fs) = .func (.func fs) #[] #[] := rfl
   simp [execOp, ho, resolve, Deferred.ofValue, hev, invoke, hxv, hc]
  rw [hrun, Oper.upon_enter, hh]
  refine hcall.mono fun e' w' ⟨he', m, os, hw'⟩ => ?_
  subst he'
  have hsl : zs.reverse.length = zs.length := List.length_reverse
  generalize hsd : zs.reverse = sd at hsl hw' kk
  have hch0 : Chg (fun b => b = blk) w w' := by
   rw [hw']
   refine ⟨rfl, rfl, rfl, ?_, fun i hi hne => ?_⟩
   · simp [grow, putRow, mapBlock, Go.Sort.ahead]
   · have : (grow (putRow (Value.int .i64) (Go.Sort.ahead w m) blk 0 sd.toArray) os).heap = (w.heap.modify blk (onCells (putCells (Value.int .i64) 0 sd.toArray))) ++ os := rfl
     rw [this, Array.getElem?_append_left (by simpa using hi), Array.getElem?_modify, if_neg (fun e => hne e.symm)]
  rw [hd]
  refine kk _ _ ⟨fun l' => if l' = l then (fun b => b = blk) else F l', ?_⟩
  refine H.change (fun l' => l' = l) hdn (hch0.wid fun b hb' => .inl ⟨l, _, rfl, hl, by rw [hb']; exact hblkF⟩) (fun l' z hne hz => ?_) (fun l' z b hT' hz hb' => ?_) (fun hmm l' u p hT' hz => ?_) (fun l1 l2 _ _ _ h1 h2 hne => absurd (h1.trans h2.symm) hne) (fun _ => .val _) (fun _ => by rw [hw']; exact Nat.le_add_right _ _)
  · rcases lk_put hz with ⟨e1, _⟩ | ⟨_, e1⟩
    · exact absurd e1.symm hne
    · exact ⟨e1, by simp [hne]⟩
  · subst hT'
    simp only [if_true] at hb'
    exact .inl ⟨l', _, rfl, hl, by rw [hb']; exact hblkF⟩
  · subst hT'
    rw [lk_put_self] at hz
    cases hz
    simp only [if_true]
    rcases hrow.2 with ⟨e1, _⟩ | ⟨g', cap', cur, e1, _, e3, e4, e5, e6, e7⟩
    · rw [hh] at e1; cases e1
    · rw [hh] at e1
      cases e1
      have hlt := blk_lt e3
      refine .own (sd.map (Value.int .i64)) (fun _ _ => False) ⟨by rw [List.length_map, hsl, Nat.mul_one], .inr ⟨blk, cap, putCells (Value.int .i64) 0 sd.toArray cur, hh, Nat.zero_le _, ?_, e4, e5, by simp [putCells]; omega, ?_⟩⟩ (by simp) (fun t v p hv hp => ?_) (fun _ _ _ _ _ _ h => h.elim) (fun _ _ _ h => h.elim) (fun b => by rw [hh]; simp [Value.ownBlock, eq_comm])
      · rw [hw']
        have : (grow (putRow (Value.int .i64) (Go.Sort.ahead w m) blk 0 sd.toArray) os).heap = (w.heap.modify blk (onCells (putCells (Value.int .i64) 0 sd.toArray))) ++ os := rfl
        rw [this, Array.getElem?_append_left (by simpa using hlt), Array.getElem?_modify, if_pos rfl, e3]
        rfl
      · have := put_takeI (Value.int .i64) sd.toArray cur (by simp only [List.size_toArray]; rw [hsl, e6]; omega)
        simp only [List.size_toArray] at this
        rw [Nat.mul_one, ← hsl]; exact this
      · rw [List.getElem?_map, Option.map_eq_some_iff] at hv hp
        obtain ⟨z, hz, rfl⟩ := hv
        obtain ⟨z', hz', rfl⟩ := hp
        rw [hz] at hz'; cases hz'
        exact .shr (.val _) (fun _ h => h)
end
section
variable {P : Program} {sL hP : List (Nat × Ent)} {o : Oper}
theorem q_build0 {t : Nat} {z : Value} {zs : List Value} {pl : List (Nat × Nat)} (hT : stInfo P t = some (z, pl)) (hzs : z.cells = zs.toArray) (ho : o.op = .build t #[] := by exact rfl) : YE P (⟨sL, hP⟩ : St) o (· = .agg zs.toArray) (.agg (zs.map .val)) :=
 .exact fun M F a w H => by
  refine ⟨.agg _ _ (by simp) fun i v q hv hq => ?_, ?_⟩
  · rw [List.getElem?_map, hv] at hq
    cases hq
    exact .val _
  have hb : P.built t [] = some zs.toArray := by
   unfold stInfo at hT
   split at hT
   · rename_i i fs hi hf
     split at hT
     · rename_i z' pl hz hpl
       cases hT
       unfold Program.built
       simp only [hi, hf, hz, hpl, hzs]
       rfl
     · cases hT
   · cases hT
  have := run_build (P := P) w t #[] _ hb
  simp [execOp, ho, this]
end
end Go.En
namespace Go.Proofs.YtgigclnaicbiaaaDoor
open Go.RowKit Go.Cb Go.En
set_option linter.all false
set_option maxRecDepth 100000
theorem sIndexBool_e (l : List Bool) : AF Tryd.prog 52 [.sl l.length (l.map pBool), pBool true] (· = pInt (idx (fun x => x == true) l)) := by
 refine AF.of_body 19 Tryd.func52 rfl Tryd.ntmps52 (Nat.le_of_ble_eq_true rfl) ?_
 intro w0 M0 vs hl hv
 obtain ⟨v0, v1, rfl⟩ := len2 hl
 obtain rfl := hv 1 _ _ rfl rfl
 clear hl hv
 refine aC_slen 0 rfl fun hlen => ?_
 refine nav ?_
 (refine aC_region ?_ <;> refine xL 4 q_assign ?_ <;> refine aL_end (nav ?_) <;> try dsimp only)
 (refine aC_region ?_ <;> refine xL 6 q_move ?_ <;> refine xL 7 (q_len tSl61_LdJ) ?_ <;> refine xL 8 q_move ?_ <;> refine aL_end (nav ?_) <;> try dsimp only)
 refine aC_loop (ι := { k : Nat // k ≤ l.length ∧ ∀ i y, i < k → l[i]? = some y → (y == true) = false }) (fun k => ⟨[(0, _, _), (1, _, _), (7, _, _), (8, .int .i64 k.1, pInt k.1)], []⟩) (fun k => l.length - k.1) ⟨0, by omega, by omega⟩ (fun a w H => H.weaken ⟨rfl, rfl, rfl, rfl, trivial⟩ trivial) ?_
 rintro ⟨k, hk, hp⟩
 dsimp only
 refine nav ?_
 (refine aC_region ?_ <;> refine xL 9 q_lss ?_ <;> refine aL_end (nav ?_) <;> try dsimp only)
 (first | refine cCd ?_ ?_ | refine cC ?_ ?_) <;> intro hb9
 · first
   | exact Bool.noConfusion hb9
   | (
    obtain ⟨x, hx⟩ := get_some (show k < l.length by omega)
    have e1 := map_at (f := pBool) hx
    refine nav ?_
    (refine aC_region ?_ <;> refine xL 10 q_move ?_ <;> refine xL 5 q_assign ?_ <;> refine aL_end (nav ?_) <;> try dsimp only)
    (refine aC_region ?_ <;> refine xL 11 q_move ?_ <;> refine xL 12 q_move ?_ <;> refine xL 13 q_move ?_ <;> refine xL 14 (q_idxN tSl61_LdJ) ?_ <;> (refine yL 15 (q_ld tNa4_LdJ) fun v15 hv15 => ?_; cases hv15) <;> refine xL 16 (q_beql Tryd.underlying4) ?_ <;> refine aL_end (nav ?_) <;> try dsimp only)
    (first | refine cCd ?_ ?_ | refine cC ?_ ?_) <;> intro hb16
    · first
      | exact Bool.noConfusion hb16
      | (
       have hx1 : (x == true) = true := by cases x <;> simp_all
       refine nav ?_
       (refine aC_region ?_ <;> refine xL 17 q_move ?_ <;> refine xL 4 q_assign ?_ <;> refine aL_end (nav ?_) <;> try dsimp only)
       refine ret_shr (Tryd.results52) rfl ?_
       rw [idx_here hp hx hx1])
    · first
      | exact Bool.noConfusion hb16
      | (
       have hx1 : (x == true) = false := by cases x <;> simp_all
       refine nav ?_
       (refine aC_region ?_ <;> refine xL 18 q_add ?_ <;> refine xL 8 q_move ?_ <;> refine aL_end (nav ?_) <;> try dsimp only)
       refine aN_again (
        ⟨k + 1, by omega, fun i y hi hy => by
         by_cases e : i = k
         · subst e; rw [hx] at hy; cases hy; exact hx1
         · exact hp i y (by omega) hy⟩
        ) (by dsimp only; omega) ⟨rfl, rfl, rfl, rfl, trivial⟩ trivial))
 · first
   | exact Bool.noConfusion hb9
   | (
    refine nav ?_
    (refine aC_region ?_ <;> refine xL 4 q_assign ?_ <;> refine aL_end (nav ?_) <;> try dsimp only)
    refine ret_shr (Tryd.results52) rfl ?_
    rw [idx_none fun i y hi hy => hp i y (by omega) hy])
theorem revI : RevI Tryd.prog 53 := fun blk cap zs w hH _ hsz => (Tryd.slices_Reverse_int blk 0 cap zs w hH (by omega)).mono fun e w' ⟨h1, n, h2⟩ => ⟨h1, n, #[], by rw [h2]; simp [Go.Sort.grow]; rfl⟩
theorem revI0 : SortI0 Tryd.prog 53 := fun p cap w => Tryd.slices_Reverse_int_empty p cap w
theorem cmpR_no {A B : Aut} {op : Int} {q : List PrS × List (List Nat)} (h : idx (fun x => x == true) (q.1.map (prodF A B op)) = -1) : cmpR A B op q = (true, []) := by
 rw [idxB] at h
 unfold cmpR
 cases h1 : (q.1.map (prodF A B op)).idxOf? true with
 | none => rfl
 | some i =>
   rw [h1] at h
   have h' : ((i : Nat) : Int) = -1 := h
   omega
theorem cmpR_yes {A B : Aut} {op : Int} {q : List PrS × List (List Nat)} {i : Nat} (h : idx (fun x => x == true) (q.1.map (prodF A B op)) = (i : Int)) : cmpR A B op q = (false, wayP (q.1.map (·.2)) i) := by
 rw [idxB] at h
 unfold cmpR
 cases h1 : (q.1.map (prodF A B op)).idxOf? true with
 | none =>
   rw [h1] at h
   have h' : (-1 : Int) = ((i : Nat) : Int) := h
   omega
 | some j =>
   rw [h1] at h
   dsimp only at h ⊢
   rw [show j = i by omega]; rfl
theorem idx_cases {A B : Aut} {op : Int} (o : List PrS) {v : Int} (h : idx (fun x => x == true) (o.map (prodF A B op)) = v) : v = -1 ∨ ∃ i : Nat, v = (i : Int) ∧ i < o.length := by
 rcases idx_nat (p := fun x => x == true) (l := o.map (prodF A B op)) with ⟨h1, _⟩ | ⟨i, x, h1, h2, _⟩
 · exact .inl (by rw [← h, h1])
 · exact .inr ⟨i, by rw [← h, h1], by have := lt_of_get h2; rwa [List.length_map] at this⟩
theorem aFirst_e (A B : Aut) (op : Int) (o : List PrS) (rows : List (List Nat)) (hu : (prodW A B).upto ((0, 0), (-1, -1)) 2000 = some (o, rows)) (h0 : o[0]? = some ((0, 0), (-1, -1))) (hcap : o.length ≤ 2000) : AF Tryd.prog 38 [pPairs A B op (o, rows)] (· = .tup [pInts (cmpR A B op (o, rows)).2, pBool (!(cmpR A B op (o, rows)).1)]) := by
 obtain ⟨v, hv⟩ : ∃ v, idx (fun x => x == true) (o.map (prodF A B op)) = v := ⟨_, rfl⟩
 have hix := sIndexBool_e (o.map (prodF A B op))
 rw [hv] at hix
 have hvc := idx_cases o hv
 have hbk := prod_back hu h0
 refine AF.of_body 34 Tryd.func38 rfl Tryd.ntmps38 (Nat.le_of_ble_eq_true rfl) ?_
 intro w0 M0 vs hl hv
 obtain ⟨v0, rfl⟩ := len1 hl
 clear hl hv
 refine nav ?_
 (refine aC_region ?_ <;> refine s_boxa 1 5 fun h1 => ?_ <;> refine xL 2 q_assign ?_ <;> refine xL 3 q_assign ?_ <;> refine aL_end (nav ?_) <;> try dsimp only)
 (refine aC_region ?_ <;> refine xL 6 (q_fldo 1 tFl69_0_LfP) ?_ <;> refine xL 7 (q_fldo 1 tFl63_2_LfB) ?_ <;> (refine yL 8 (q_ldo 1 tNa61_LdJ) fun v8 hv8 => ?_; cases hv8) <;> (refine cS 9 (cA Tryd.call52 (hix)) fun v9 hv9 => ?_; cases hv9) <;> refine xL 4 q_assign ?_ <;> refine aL_end (nav ?_) <;> try dsimp only)
 (refine aC_region ?_ <;> refine xL 10 q_move ?_ <;> refine xL 11 q_lss ?_ <;> refine aL_end (nav ?_) <;> try dsimp only)
 (first | refine cCd ?_ ?_ | refine cC ?_ ?_) <;> intro hb11
 · first
   | exact Bool.noConfusion hb11
   | (
    have hv1 : v = -1 := by omega
    subst hv1
    have hcr := cmpR_no (q := (o, rows)) hv
    refine nav ?_
    (refine aC_region ?_ <;> refine xL 2 q_assign ?_ <;> refine xL 3 q_assign ?_ <;> refine aL_end (nav ?_) <;> try dsimp only)
    refine aR_ent (nilSlD (t := 2) rfl) fun _ => ?_
    refine ret_ss (Tryd.results38) rfl rfl ?_
    rw [hcr]; rfl)
 · first
   | exact Bool.noConfusion hb11
   | (
    obtain ⟨i0, rfl, hi0⟩ : ∃ i : Nat, v = (i : Int) ∧ i < o.length := by
     rcases hvc with h | h
     · omega
     · exact h
    have hcr := cmpR_yes (q := (o, rows)) hv
    dsimp only at hcr
    refine nav ?_
    (refine aC_region ?_ <;> refine xL 5 q_assign ?_ <;> refine aL_end (nav ?_) <;> try dsimp only)
    refine aC_ent (nilOwn 200 3 1 rfl) fun _ => ?_
    refine aC_loop (ι := { k : Nat × List Int × Value // wayP (o.map (·.2)) i0 = wayP (o.map (·.2)) k.1 ++ k.2.1.reverse ∧ k.1 < o.length ∧ k.2.1.length + k.1 ≤ i0 ∧ k.2.2.oneCell' = true }) (fun k => ⟨[(1, _, _), (2, _, _), (3, _, _), (4, .int .i64 k.1.1, pInt k.1.1), (5, k.1.2.2, .val k.1.2.2)], [(1, _, _), (200, k.1.2.2, .own 3 1 k.1.2.1.length (k.1.2.1.map pInt))]⟩) (fun k => k.1.1) ⟨(i0, [], .slice none 0 0), by simp, hi0, by simp, rfl⟩ (fun a w H => H.weaken ⟨rfl, rfl, rfl, rfl, rfl, trivial⟩ ⟨rfl, rfl, trivial⟩) ?_
    rintro ⟨⟨cur, out, r⟩, hw, hc, hl, hr⟩
    dsimp only
    dsimp only at hw hc hl hr
    obtain ⟨⟨pq, f, s⟩, hx⟩ := get_some hc
    have hpf : (pFrom o).length = o.length := by unfold pFrom; rw [List.length_map]
    have hps : (pSym o).length = o.length := by unfold pSym; rw [List.length_map]
    have e1 : ((pFrom o).map pInt)[cur * 1]? = some (pInt f) := map_at (by unfold pFrom; rw [List.getElem?_map, hx]; rfl)
    have e2 : ((pSym o).map pInt)[cur * 1]? = some (pInt s) := map_at (by unfold pSym; rw [List.getElem?_map, hx]; rfl)
    have e3 : (o.map (·.2))[cur]? = some (f, s) := by rw [List.getElem?_map, hx]; rfl
    have hfc := hbk cur (f, s) e3
    refine nav ?_
    (refine aC_region ?_ <;> refine xL 12 (q_fldo 1 tFl69_1_LfP) ?_ <;> (refine yL 13 (q_ldo 1 tNa22_LdI) fun v13 hv13 => ?_; cases hv13) <;> refine xL 14 q_move ?_ <;> refine xL 15 (q_idxN tSl22_LbB) ?_ <;> (refine yL 16 (q_ld tNa3_LbB) fun v16 hv16 => ?_; cases hv16) <;> refine xL 17 q_geq ?_ <;> refine aL_end (nav ?_) <;> try dsimp only)
    (first | refine cCd ?_ ?_ | refine cC ?_ ?_) <;> intro hb17
    · first
      | exact Bool.noConfusion hb17
      | (
       obtain ⟨j, rfl⟩ : ∃ j : Nat, f = (j : Int) := ⟨f.toNat, by omega⟩
       dsimp only at hfc
       have hwn := wayP_on hbk e3 (by dsimp only; omega)
       dsimp only at hwn
       rw [Int.toNat_natCast] at hwn
       refine nav ?_
       (refine aC_region ?_ <;> refine xL 23 q_move ?_ <;> refine xL 24 (q_fldo 1 tFl69_2_LfP) ?_ <;> (refine yL 25 (q_ldo 1 tNa22_LdI) fun v25 hv25 => ?_; cases hv25) <;> refine xL 26 q_move ?_ <;> refine xL 27 (q_idxN tSl22_LbB) ?_ <;> (refine yL 28 (q_ld tNa3_LbB) fun v28 hv28 => ?_; cases hv28) <;> refine s_lit1 (kk := 1) 29 tEl22_LdI fun h29 ho29 => ?_ <;> refine s_app 200 29 30 tEl22_LdI fun h30 ho30 => ?_ <;> refine xL 5 q_assign ?_ <;> refine aL_end (nav ?_) <;> try dsimp only)
       refine aC_ent (relabel (l := 30) 200 rfl rfl) fun _ => ?_
       refine aC_ent (recast (l := 200) rfl (own_ints _ out s)) fun _ => ?_
       (refine aC_region ?_ <;> refine xL 18 (q_fldo 1 tFl69_1_LfP) ?_ <;> (refine yL 19 (q_ldo 1 tNa22_LdI) fun v19 hv19 => ?_; cases hv19) <;> refine xL 20 q_move ?_ <;> refine xL 21 (q_idxN tSl22_LbB) ?_ <;> (refine yL 22 (q_ld tNa3_LbB) fun v22 hv22 => ?_; cases hv22) <;> refine xL 4 q_assign ?_ <;> refine aL_end (nav ?_) <;> try dsimp only)
       refine aN_again (
        ⟨(j, out ++ [s], h30), by dsimp only; rw [hw, hwn, List.reverse_append]; simp, by dsimp only; omega, by dsimp only; rw [List.length_append, List.length_singleton]; omega, ho30⟩
        ) (by dsimp only; omega) ⟨rfl, rfl, rfl, rfl, rfl, trivial⟩ ⟨rfl, rfl, trivial⟩)
    · first
      | exact Bool.noConfusion hb17
      | (
       have hwn := wayP_end e3 (by dsimp only; omega)
       rw [hwn, List.nil_append] at hw
       refine nav ?_
       (refine aC_region ?_ <;> refine xL 31 q_move ?_ <;> (rcases Nat.eq_zero_or_pos out.length with h0' | h0' <;> first | (refine aL_ent (recast (l := 200) (p' := .own 3 1 0 []) rfl (by rw [List.eq_nil_of_length_eq_zero h0']; rfl)) fun _ => ?_; refine s_sortI0 200 revI0 (Tryd.call53) ?_; refine aL_ent (recast (l := 200) (p' := .own 3 1 out.length (out.reverse.map pInt)) rfl (by rw [List.eq_nil_of_length_eq_zero h0']; rfl)) fun _ => ?_) | (refine s_revI 200 revI (Tryd.call53) ?_ h0')) <;> refine aL_end (nav ?_) <;> try dsimp only) <;> (
        refine aC_ent (En.freeze (l := 200) (t := 5) rfl rfl) fun _ => ?_
        rw [show share (PV.own 3 1 out.length (out.reverse.map pInt)) = pInts out.reverse by rw [← List.length_reverse]; exact share_ints _ _ _ rfl]
        (refine aC_region ?_ <;> refine xL 33 q_move ?_ <;> refine xL 2 q_assign ?_ <;> refine xL 3 q_assign ?_ <;> refine aL_end (nav ?_) <;> try dsimp only)
        refine ret_ss (Tryd.results38) rfl rfl ?_
        rw [hcr, hw]; rfl)))
end Go.Proofs.YtgigclnaicbiaaaDoor
