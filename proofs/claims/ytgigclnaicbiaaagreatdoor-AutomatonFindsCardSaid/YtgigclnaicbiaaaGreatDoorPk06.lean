/-
  Plain laws: how what a search has met was met; ways back; turning round. No program in sight.
  Walks: automata: the first word of a product.
  Walks: automata: both, compare, Equivalent, Included, Product.
  Walks: automata: Product.
  The engine: a struct that lies in cells and two values are handed back. No program in sight.
  Walks: the reference's automata: the table of the pairs of two automata.
  Walks: the reference's automata: the pairs of two least automata.
  Walks: the reference's automata: Product.
  Walks: the reference's automata: differ, Equivalent, Included.
  Plain laws: the shortest word of an automaton, as the program finds it and as the reference does. No program in sight.
  Walks: automata: the shortest word.
  Walks: words, moves, automata are compared; the law's bounds (layer 7).
  Plain laws: the words of an automaton, in a form that is evaluated. No program in sight.
  Plain laws: the chapter's automaton is evaluated. No program in sight.
  Walks: automata are compared; the law's bounds; the chapter's automaton (layer 7).
  Plain laws: the chapter's automaton, its star, what they are compared with, evaluated. No program in sight.
  Walks: awake (layer 7).
-/
import Derived.Test.YtgigclnaicbiaaaGreatDoorPk05
import Derived.Test.YtgigclnaicbiaaaGreatDoorMShelfG
import Derived.Test.YtgigclnaicbiaaaGreatDoorPk03
import Derived.Test.YtgigclnaicbiaaaGreatDoorPk04
namespace Go.Proofs.YtgigclnaicbiaaaGreatDoor
open Go.RowKit Go.Cb Go.En
set_option linter.all false
section
variable {α κ : Type} [DecidableEq κ] {W : Srch α κ}
def Srch.Born (W : Srch α κ) (o : List α) : Prop := ∀ j x, 0 < j → o[j]? = some x → ∃ i y s, i < j ∧ o[i]? = some y ∧ s < W.m ∧ x = W.step i y s
theorem Srch.Born.visit {o o' : List α} {i s n : Nat} {y : α} (h : W.Born o) (hy : o[i]? = some y) (hs : s < W.m) (hv : visit W.key W.cap o (W.step i y s) = some (o', n)) : W.Born o' := by
 unfold Go.Proofs.YtgigclnaicbiaaaGreatDoor.visit at hv
 split at hv
 · cases hv; exact h
 · split at hv
   · cases hv
   · cases hv
     intro j x hj hx
     rw [List.getElem?_append] at hx
     split at hx
     · obtain ⟨i', y', s', h1, h2, h3, h4⟩ := h j x hj hx
       exact ⟨i', y', s', h1, preG_get (List.prefix_append ..) h2, h3, h4⟩
     · rename_i hjl
       have h1 := lt_of_get hx
       rw [List.length_singleton] at h1
       rw [show j - o.length = 0 by omega, List.getElem?_cons_zero] at hx
       cases hx
       exact ⟨i, y, s, by have := lt_of_get hy; omega, preG_get (List.prefix_append ..) hy, hs, rfl⟩
theorem Srch.Born.row {o : List α} {i : Nat} {y : α} (h : W.Born o) (hy : o[i]? = some y) : ∀ {s : Nat} {o' : List α} {r : List Nat}, s ≤ W.m → W.row i y o s = some (o', r) → W.Born o' ∧ o <+: o'
 | 0, o', r, _, hr => by
   rw [Srch.row] at hr; cases hr
   exact ⟨h, List.prefix_refl _⟩
 | s + 1, o', r, hs, hr => by
   rw [Srch.row, Option.bind_eq_some_iff] at hr
   obtain ⟨⟨o1, r1⟩, h1, h2⟩ := hr
   obtain ⟨⟨o2, n⟩, h3, h4⟩ := Option.map_eq_some_iff.1 h2
   cases h4
   obtain ⟨h5, h6⟩ := Srch.Born.row h hy (by omega) h1
   exact ⟨h5.visit (preG_get h6 hy) (by omega) h3, h6.trans (visit_pre h3).1⟩
theorem Srch.born {x0 : α} : ∀ {i : Nat} {o : List α} {rows : List (List Nat)}, W.upto x0 i = some (o, rows) → W.Born o
 | 0, o, rows, h => by
   rw [Srch.upto] at h; cases h
   intro j x hj hx
   have := lt_of_get hx
   rw [List.length_singleton] at this; omega
 | i + 1, o, rows, h => by
   rw [Srch.upto, Option.bind_eq_some_iff] at h
   obtain ⟨⟨o1, rows1⟩, h1, h2⟩ := h
   have h3 := Srch.born h1
   dsimp only at h2
   cases hx : o1[i]? with
   | none => rw [hx] at h2; cases h2; exact h3
   | some x =>
     rw [hx] at h2
     obtain ⟨⟨o2, r⟩, h5, h6⟩ := Option.map_eq_some_iff.1 h2
     cases h6
     exact (h3.row hx (Nat.le_refl _) h5).1
end
def Back (par : List (Int × Int)) : Prop := ∀ (j : Nat) (x : Int × Int), par[j]? = some x → x.1 < (j : Int)
theorem pathP_fuel {par : List (Int × Int)} (h : Back par) : ∀ (f g i : Nat), i < f → i < g → pathP par f i = pathP par g i
 | 0, _, _, h1, _ => by omega
 | f + 1, 0, _, _, h2 => by omega
 | f + 1, g + 1, i, h1, h2 => by
   rw [pathP, pathP]
   cases hx : par[i]? with
   | none => rfl
   | some x =>
     dsimp only
     have := h i x hx
     by_cases h0 : x.1 < 0
     · rw [if_pos h0, if_pos h0]
     · rw [if_neg h0, if_neg h0, pathP_fuel h f g x.1.toNat (by omega) (by omega)]
def wayP (par : List (Int × Int)) (i : Nat) : List Int := pathP par (i + 1) i
theorem wayP_end {par : List (Int × Int)} {i : Nat} {x : Int × Int} (hx : par[i]? = some x) (h0 : x.1 < 0) : wayP par i = [] := by
 unfold wayP; rw [pathP, hx]; dsimp only; rw [if_pos h0]
theorem wayP_on {par : List (Int × Int)} (h : Back par) {i : Nat} {x : Int × Int} (hx : par[i]? = some x) (h0 : ¬ x.1 < 0) : wayP par i = wayP par x.1.toNat ++ [x.2] := by
 unfold wayP; rw [pathP, hx]; dsimp only; rw [if_neg h0, pathP_fuel h i (x.1.toNat + 1) x.1.toNat (by have := h i x hx; omega) (by omega)]
theorem prod_back {A B : Aut} {i : Nat} {o : List ((Nat × Nat) × (Int × Int))} {rows : List (List Nat)} (hu : (prodW A B).upto ((0, 0), (-1, -1)) i = some (o, rows)) (h0 : o[0]? = some ((0, 0), (-1, -1))) : Back (o.map (·.2)) := fun j x hx => by
 rw [List.getElem?_map] at hx
 obtain ⟨y, hy, rfl⟩ := Option.map_eq_some_iff.1 hx
 rcases Nat.eq_zero_or_pos j with rfl | hj
 · rw [h0] at hy; cases hy; decide
 · obtain ⟨i', y', s, h1, _, _, rfl⟩ := Srch.born hu j y hj hy
   show ((i' : Nat) : Int) < _
   omega
theorem idxB (l : List Bool) : idx (fun x => x == true) l = match l.idxOf? true with | some i => (i : Int) | none => -1 := rfl
set_option maxRecDepth 100000
theorem sIndexBool_e (l : List Bool) : AF Tryz.prog 123 [.sl l.length (l.map pBool), pBool true] (· = pInt (idx (fun x => x == true) l)) := by
 refine AF.of_body 19 Tryz.func123 rfl Tryz.ntmps123 (Nat.le_of_ble_eq_true rfl) ?_
 intro w0 M0 vs hl hv
 obtain ⟨v0, v1, rfl⟩ := len2 hl
 obtain rfl := hv 1 _ _ rfl rfl
 clear hl hv
 refine aC_slen 0 rfl fun hlen => ?_
 refine nav ?_
 (refine aC_region ?_ <;> refine xL 4 q_assign ?_ <;> refine aL_end (nav ?_) <;> try dsimp only)
 (refine aC_region ?_ <;> refine xL 6 q_move ?_ <;> refine xL 7 (q_len tSl66_LdJ) ?_ <;> refine xL 8 q_move ?_ <;> refine aL_end (nav ?_) <;> try dsimp only)
 refine aC_loop (ι := { k : Nat // k ≤ l.length ∧ ∀ i y, i < k → l[i]? = some y → (y == true) = false }) (fun k => ⟨[(0, _, _), (1, _, _), (7, _, _), (8, .int .i64 k.1, pInt k.1)], []⟩) (fun k => l.length - k.1) ⟨0, by omega, by omega⟩ (fun a w H => H.weaken ⟨rfl, rfl, rfl, rfl, trivial⟩ trivial) ?_
 rintro ⟨k, hk, hp⟩
 dsimp only
 refine nav ?_
 (refine aC_region ?_ <;> refine xL 9 q_lss ?_ <;> refine aL_end (nav ?_) <;> try dsimp only)
 (first | refine cCd ?_ ?_ | refine cC ?_ ?_) <;> intro hb9
 · first
   | exact Bool.noConfusion hb9
   | (
    obtain ⟨x, hx⟩ := get_some (show k < l.length by omega)
    have e1 := map_at (f := pBool) hx
    refine nav ?_
    (refine aC_region ?_ <;> refine xL 10 q_move ?_ <;> refine xL 5 q_assign ?_ <;> refine aL_end (nav ?_) <;> try dsimp only)
    (refine aC_region ?_ <;> refine xL 11 q_move ?_ <;> refine xL 12 q_move ?_ <;> refine xL 13 q_move ?_ <;> refine xL 14 (q_idxN tSl66_LdJ) ?_ <;> (refine yL 15 (q_ld tNa4_LdJ) fun v15 hv15 => ?_; cases hv15) <;> refine xL 16 (q_beql Tryz.underlying4) ?_ <;> refine aL_end (nav ?_) <;> try dsimp only)
    (first | refine cCd ?_ ?_ | refine cC ?_ ?_) <;> intro hb16
    · first
      | exact Bool.noConfusion hb16
      | (
       have hx1 : (x == true) = true := by cases x <;> simp_all
       refine nav ?_
       (refine aC_region ?_ <;> refine xL 17 q_move ?_ <;> refine xL 4 q_assign ?_ <;> refine aL_end (nav ?_) <;> try dsimp only)
       refine ret_shr (Tryz.results123) rfl ?_
       rw [idx_here hp hx hx1])
    · first
      | exact Bool.noConfusion hb16
      | (
       have hx1 : (x == true) = false := by cases x <;> simp_all
       refine nav ?_
       (refine aC_region ?_ <;> refine xL 18 q_add ?_ <;> refine xL 8 q_move ?_ <;> refine aL_end (nav ?_) <;> try dsimp only)
       refine aN_again (
        ⟨k + 1, by omega, fun i y hi hy => by
         by_cases e : i = k
         · subst e; rw [hx] at hy; cases hy; exact hx1
         · exact hp i y (by omega) hy⟩
        ) (by dsimp only; omega) ⟨rfl, rfl, rfl, rfl, trivial⟩ trivial))
 · first
   | exact Bool.noConfusion hb9
   | (
    refine nav ?_
    (refine aC_region ?_ <;> refine xL 4 q_assign ?_ <;> refine aL_end (nav ?_) <;> try dsimp only)
    refine ret_shr (Tryz.results123) rfl ?_
    rw [idx_none fun i y hi hy => hp i y (by omega) hy])
theorem revI : RevI Tryz.prog 52 := fun blk cap zs w hH _ hsz => (Tryz.slices_Reverse_int blk 0 cap zs w hH (by omega)).mono fun e w' ⟨h1, n, h2⟩ => ⟨h1, n, #[], by rw [h2]; simp [Go.Sort.grow]; rfl⟩
theorem revI0 : SortI0 Tryz.prog 52 := fun p cap w => Tryz.slices_Reverse_int_empty p cap w
theorem cmpR_no {A B : Aut} {op : Int} {q : List PrS × List (List Nat)} (h : idx (fun x => x == true) (q.1.map (prodF A B op)) = -1) : cmpR A B op q = (true, []) := by
 rw [idxB] at h
 unfold cmpR
 cases h1 : (q.1.map (prodF A B op)).idxOf? true with
 | none => rfl
 | some i =>
   rw [h1] at h
   have h' : ((i : Nat) : Int) = -1 := h
   omega
theorem cmpR_yes {A B : Aut} {op : Int} {q : List PrS × List (List Nat)} {i : Nat} (h : idx (fun x => x == true) (q.1.map (prodF A B op)) = (i : Int)) : cmpR A B op q = (false, wayP (q.1.map (·.2)) i) := by
 rw [idxB] at h
 unfold cmpR
 cases h1 : (q.1.map (prodF A B op)).idxOf? true with
 | none =>
   rw [h1] at h
   have h' : (-1 : Int) = ((i : Nat) : Int) := h
   omega
 | some j =>
   rw [h1] at h
   dsimp only at h ⊢
   rw [show j = i by omega]; rfl
theorem idx_cases {A B : Aut} {op : Int} (o : List PrS) {v : Int} (h : idx (fun x => x == true) (o.map (prodF A B op)) = v) : v = -1 ∨ ∃ i : Nat, v = (i : Int) ∧ i < o.length := by
 rcases idx_nat (p := fun x => x == true) (l := o.map (prodF A B op)) with ⟨h1, _⟩ | ⟨i, x, h1, h2, _⟩
 · exact .inl (by rw [← h, h1])
 · exact .inr ⟨i, by rw [← h, h1], by have := lt_of_get h2; rwa [List.length_map] at this⟩
theorem aFirst_e (A B : Aut) (op : Int) (o : List PrS) (rows : List (List Nat)) (hu : (prodW A B).upto ((0, 0), (-1, -1)) 2000 = some (o, rows)) (h0 : o[0]? = some ((0, 0), (-1, -1))) (hcap : o.length ≤ 2000) : AF Tryz.prog 115 [pPairs A B op (o, rows)] (· = .tup [pInts (cmpR A B op (o, rows)).2, pBool (!(cmpR A B op (o, rows)).1)]) := by
 obtain ⟨v, hv⟩ : ∃ v, idx (fun x => x == true) (o.map (prodF A B op)) = v := ⟨_, rfl⟩
 have hix := sIndexBool_e (o.map (prodF A B op))
 rw [hv] at hix
 have hvc := idx_cases o hv
 have hbk := prod_back hu h0
 refine AF.of_body 34 Tryz.func115 rfl Tryz.ntmps115 (Nat.le_of_ble_eq_true rfl) ?_
 intro w0 M0 vs hl hv
 obtain ⟨v0, rfl⟩ := len1 hl
 clear hl hv
 refine nav ?_
 (refine aC_region ?_ <;> refine s_boxa 1 5 fun h1 => ?_ <;> refine xL 2 q_assign ?_ <;> refine xL 3 q_assign ?_ <;> refine aL_end (nav ?_) <;> try dsimp only)
 (refine aC_region ?_ <;> refine xL 6 (q_fldo 1 tFl95_0_LfP) ?_ <;> refine xL 7 (q_fldo 1 tFl93_2_LfB) ?_ <;> (refine yL 8 (q_ldo 1 tNa66_LdJ) fun v8 hv8 => ?_; cases hv8) <;> (refine cS 9 (cA Tryz.call123 (hix)) fun v9 hv9 => ?_; cases hv9) <;> refine xL 4 q_assign ?_ <;> refine aL_end (nav ?_) <;> try dsimp only)
 (refine aC_region ?_ <;> refine xL 10 q_move ?_ <;> refine xL 11 q_lss ?_ <;> refine aL_end (nav ?_) <;> try dsimp only)
 (first | refine cCd ?_ ?_ | refine cC ?_ ?_) <;> intro hb11
 · first
   | exact Bool.noConfusion hb11
   | (
    have hv1 : v = -1 := by omega
    subst hv1
    have hcr := cmpR_no (q := (o, rows)) hv
    refine nav ?_
    (refine aC_region ?_ <;> refine xL 2 q_assign ?_ <;> refine xL 3 q_assign ?_ <;> refine aL_end (nav ?_) <;> try dsimp only)
    refine aR_ent (nilSlD (t := 2) rfl) fun _ => ?_
    refine ret_ss (Tryz.results115) rfl rfl ?_
    rw [hcr]; rfl)
 · first
   | exact Bool.noConfusion hb11
   | (
    obtain ⟨i0, rfl, hi0⟩ : ∃ i : Nat, v = (i : Int) ∧ i < o.length := by
     rcases hvc with h | h
     · omega
     · exact h
    have hcr := cmpR_yes (q := (o, rows)) hv
    dsimp only at hcr
    refine nav ?_
    (refine aC_region ?_ <;> refine xL 5 q_assign ?_ <;> refine aL_end (nav ?_) <;> try dsimp only)
    refine aC_ent (nilOwn 200 3 1 rfl) fun _ => ?_
    refine aC_loop (ι := { k : Nat × List Int × Value // wayP (o.map (·.2)) i0 = wayP (o.map (·.2)) k.1 ++ k.2.1.reverse ∧ k.1 < o.length ∧ k.2.1.length + k.1 ≤ i0 ∧ k.2.2.oneCell' = true }) (fun k => ⟨[(1, _, _), (2, _, _), (3, _, _), (4, .int .i64 k.1.1, pInt k.1.1), (5, k.1.2.2, .val k.1.2.2)], [(1, _, _), (200, k.1.2.2, .own 3 1 k.1.2.1.length (k.1.2.1.map pInt))]⟩) (fun k => k.1.1) ⟨(i0, [], .slice none 0 0), by simp, hi0, by simp, rfl⟩ (fun a w H => H.weaken ⟨rfl, rfl, rfl, rfl, rfl, trivial⟩ ⟨rfl, rfl, trivial⟩) ?_
    rintro ⟨⟨cur, out, r⟩, hw, hc, hl, hr⟩
    dsimp only
    dsimp only at hw hc hl hr
    obtain ⟨⟨pq, f, s⟩, hx⟩ := get_some hc
    have hpf : (pFrom o).length = o.length := by unfold pFrom; rw [List.length_map]
    have hps : (pSym o).length = o.length := by unfold pSym; rw [List.length_map]
    have e1 : ((pFrom o).map pInt)[cur * 1]? = some (pInt f) := map_at (by unfold pFrom; rw [List.getElem?_map, hx]; rfl)
    have e2 : ((pSym o).map pInt)[cur * 1]? = some (pInt s) := map_at (by unfold pSym; rw [List.getElem?_map, hx]; rfl)
    have e3 : (o.map (·.2))[cur]? = some (f, s) := by rw [List.getElem?_map, hx]; rfl
    have hfc := hbk cur (f, s) e3
    refine nav ?_
    (refine aC_region ?_ <;> refine xL 12 (q_fldo 1 tFl95_1_LfP) ?_ <;> (refine yL 13 (q_ldo 1 tNa22_LdI) fun v13 hv13 => ?_; cases hv13) <;> refine xL 14 q_move ?_ <;> refine xL 15 (q_idxN tSl22_LbB) ?_ <;> (refine yL 16 (q_ld tNa3_LbB) fun v16 hv16 => ?_; cases hv16) <;> refine xL 17 q_geq ?_ <;> refine aL_end (nav ?_) <;> try dsimp only)
    (first | refine cCd ?_ ?_ | refine cC ?_ ?_) <;> intro hb17
    · first
      | exact Bool.noConfusion hb17
      | (
       obtain ⟨j, rfl⟩ : ∃ j : Nat, f = (j : Int) := ⟨f.toNat, by omega⟩
       dsimp only at hfc
       have hwn := wayP_on hbk e3 (by dsimp only; omega)
       dsimp only at hwn
       rw [Int.toNat_natCast] at hwn
       refine nav ?_
       (refine aC_region ?_ <;> refine xL 23 q_move ?_ <;> refine xL 24 (q_fldo 1 tFl95_2_LfP) ?_ <;> (refine yL 25 (q_ldo 1 tNa22_LdI) fun v25 hv25 => ?_; cases hv25) <;> refine xL 26 q_move ?_ <;> refine xL 27 (q_idxN tSl22_LbB) ?_ <;> (refine yL 28 (q_ld tNa3_LbB) fun v28 hv28 => ?_; cases hv28) <;> refine s_lit1 (kk := 1) 29 tEl22_LdI fun h29 ho29 => ?_ <;> refine s_app 200 29 30 tEl22_LdI fun h30 ho30 => ?_ <;> refine xL 5 q_assign ?_ <;> refine aL_end (nav ?_) <;> try dsimp only)
       refine aC_ent (relabel (l := 30) 200 rfl rfl) fun _ => ?_
       refine aC_ent (recast (l := 200) rfl (own_ints _ out s)) fun _ => ?_
       (refine aC_region ?_ <;> refine xL 18 (q_fldo 1 tFl95_1_LfP) ?_ <;> (refine yL 19 (q_ldo 1 tNa22_LdI) fun v19 hv19 => ?_; cases hv19) <;> refine xL 20 q_move ?_ <;> refine xL 21 (q_idxN tSl22_LbB) ?_ <;> (refine yL 22 (q_ld tNa3_LbB) fun v22 hv22 => ?_; cases hv22) <;> refine xL 4 q_assign ?_ <;> refine aL_end (nav ?_) <;> try dsimp only)
       refine aN_again (
        ⟨(j, out ++ [s], h30), by dsimp only; rw [hw, hwn, List.reverse_append]; simp, by dsimp only; omega, by dsimp only; rw [List.length_append, List.length_singleton]; omega, ho30⟩
        ) (by dsimp only; omega) ⟨rfl, rfl, rfl, rfl, rfl, trivial⟩ ⟨rfl, rfl, trivial⟩)
    · first
      | exact Bool.noConfusion hb17
      | (
       have hwn := wayP_end e3 (by dsimp only; omega)
       rw [hwn, List.nil_append] at hw
       refine nav ?_
       (refine aC_region ?_ <;> refine xL 31 q_move ?_ <;> (rcases Nat.eq_zero_or_pos out.length with h0' | h0' <;> first | (refine aL_ent (recast (l := 200) (p' := .own 3 1 0 []) rfl (by rw [List.eq_nil_of_length_eq_zero h0']; rfl)) fun _ => ?_; refine s_sortI0 200 revI0 (Tryz.call52) ?_; refine aL_ent (recast (l := 200) (p' := .own 3 1 out.length (out.reverse.map pInt)) rfl (by rw [List.eq_nil_of_length_eq_zero h0']; rfl)) fun _ => ?_) | (refine s_revI 200 revI (Tryz.call52) ?_ h0')) <;> refine aL_end (nav ?_) <;> try dsimp only) <;> (
        refine aC_ent (En.freeze (l := 200) (t := 5) rfl rfl) fun _ => ?_
        rw [show share (PV.own 3 1 out.length (out.reverse.map pInt)) = pInts out.reverse by rw [← List.length_reverse]; exact share_ints _ _ _ rfl]
        (refine aC_region ?_ <;> refine xL 33 q_move ?_ <;> refine xL 2 q_assign ?_ <;> refine xL 3 q_assign ?_ <;> refine aL_end (nav ?_) <;> try dsimp only)
        refine ret_ss (Tryz.results115) rfl rfl ?_
        rw [hcr, hw]; rfl)))
theorem fit_no1 {a b : Aut} (h : autOk a = false) : fitX a b = 1 := by unfold fitX; rw [if_pos (.inl h)]
theorem fit_no2 {a b : Aut} (h : autOk b = false) : fitX a b = 1 := by unfold fitX; rw [if_pos (.inr h)]
theorem fit_ne {a b : Aut} (h1 : autOk a = true) (h2 : autOk b = true) (h : ¬ a.syms = b.syms) : fitX a b = 29 := by unfold fitX; rw [if_neg (by rw [h1, h2]; simp), if_pos h]
theorem fit_ok {a b : Aut} (h1 : autOk a = true) (h2 : autOk b = true) (h : a.syms = b.syms) : fitX a b = 0 := by unfold fitX; rw [if_neg (by rw [h1, h2]; simp), if_neg (fun e => e h)]
theorem fit_zero {a b : Aut} (h : fitX a b = 0) : autOk a = true ∧ autOk b = true ∧ a.syms = b.syms := by
 unfold fitX at h
 split at h
 · omega
 · rename_i h1
   split at h
   · omega
   · rename_i h2
     refine ⟨?_, ?_, ?_⟩
     · cases e : autOk a with
       | true => rfl
       | false => exact absurd (.inl e) h1
     · cases e : autOk b with
       | true => rfl
       | false => exact absurd (.inr e) h1
     · exact Decidable.not_not.1 h2
def pPZ : PV := .agg [pInt 0, .val (.slice none 0 0), .val (.slice none 0 0), .val (.slice none 0 0), .val (.slice none 0 0)]
def resB (a b : Aut) (op : Int) : PV := match bothX a b with
 | .ok (A, B, q) => .tup [pPairs A B op q, pInt 0]
 | .error e => .tup [pPZ, pInt e]
theorem aFit_ff (a b : Aut) (ha : autOk a = false) (hb : autOk b = false) (hs : True) : AF Tryz.prog 70 [pAut a, pAut b] (· = pInt 1) := by
 have hva := aValid_e a
 have hvb := aValid_e b
 rw [ha] at hva
 rw [hb] at hvb
 refine AF.of_body 20 Tryz.func70 rfl Tryz.ntmps70 (Nat.le_of_ble_eq_true rfl) ?_
 intro w0 M0 vs hl hv
 obtain ⟨v0, v1, rfl⟩ := len2 hl
 clear hl hv
 refine nav ?_
 (refine aC_region ?_ <;> refine s_boxa 2 5 fun h2 => ?_ <;> refine s_boxa 3 5 fun h3 => ?_ <;> refine xL 4 q_assign ?_ <;> refine aL_end (nav ?_) <;> try dsimp only)
 (refine aC_region ?_ <;> (refine yL 6 (q_ldao 2 tAgg25_LdS) fun v6 hv6 => ?_; cases hv6) <;> (refine cS 7 (cA Tryz.call24 (hva)) fun v7 hv7 => ?_; cases hv7) <;> refine xL 8 q_not ?_ <;> refine xL 9 q_move ?_ <;> refine kL 10 ?_ <;> refine kL 11 ?_ <;> refine kL 12 ?_ <;> refine xL 13 q_pick ?_ <;> refine xL 5 q_assign ?_ <;> refine aL_end (nav ?_) <;> try dsimp only) <;> (
  (first | refine cCd ?_ ?_ | refine cC ?_ ?_) <;> intro hb5
  · first
    | exact Bool.noConfusion hb5
    | (
     refine nav ?_
     (refine aC_region ?_ <;> refine xL 4 q_assign ?_ <;> refine aL_end (nav ?_) <;> try dsimp only)
     exact ret_shr (Tryz.results70) rfl rfl)
  · first
    | exact Bool.noConfusion hb5
    | skip)
theorem aFit_ft (a b : Aut) (ha : autOk a = false) (hb : autOk b = true) (hs : True) : AF Tryz.prog 70 [pAut a, pAut b] (· = pInt 1) := by
 have hva := aValid_e a
 have hvb := aValid_e b
 rw [ha] at hva
 rw [hb] at hvb
 refine AF.of_body 20 Tryz.func70 rfl Tryz.ntmps70 (Nat.le_of_ble_eq_true rfl) ?_
 intro w0 M0 vs hl hv
 obtain ⟨v0, v1, rfl⟩ := len2 hl
 clear hl hv
 refine nav ?_
 (refine aC_region ?_ <;> refine s_boxa 2 5 fun h2 => ?_ <;> refine s_boxa 3 5 fun h3 => ?_ <;> refine xL 4 q_assign ?_ <;> refine aL_end (nav ?_) <;> try dsimp only)
 (refine aC_region ?_ <;> (refine yL 6 (q_ldao 2 tAgg25_LdS) fun v6 hv6 => ?_; cases hv6) <;> (refine cS 7 (cA Tryz.call24 (hva)) fun v7 hv7 => ?_; cases hv7) <;> refine xL 8 q_not ?_ <;> refine xL 9 q_move ?_ <;> refine kL 10 ?_ <;> refine kL 11 ?_ <;> refine kL 12 ?_ <;> refine xL 13 q_pick ?_ <;> refine xL 5 q_assign ?_ <;> refine aL_end (nav ?_) <;> try dsimp only) <;> (
  (first | refine cCd ?_ ?_ | refine cC ?_ ?_) <;> intro hb5
  · first
    | exact Bool.noConfusion hb5
    | (
     refine nav ?_
     (refine aC_region ?_ <;> refine xL 4 q_assign ?_ <;> refine aL_end (nav ?_) <;> try dsimp only)
     exact ret_shr (Tryz.results70) rfl rfl)
  · first
    | exact Bool.noConfusion hb5
    | skip)
theorem aFit_tf (a b : Aut) (ha : autOk a = true) (hb : autOk b = false) (hs : True) : AF Tryz.prog 70 [pAut a, pAut b] (· = pInt 1) := by
 have hva := aValid_e a
 have hvb := aValid_e b
 rw [ha] at hva
 rw [hb] at hvb
 refine AF.of_body 20 Tryz.func70 rfl Tryz.ntmps70 (Nat.le_of_ble_eq_true rfl) ?_
 intro w0 M0 vs hl hv
 obtain ⟨v0, v1, rfl⟩ := len2 hl
 clear hl hv
 refine nav ?_
 (refine aC_region ?_ <;> refine s_boxa 2 5 fun h2 => ?_ <;> refine s_boxa 3 5 fun h3 => ?_ <;> refine xL 4 q_assign ?_ <;> refine aL_end (nav ?_) <;> try dsimp only)
 (refine aC_region ?_ <;> (refine yL 6 (q_ldao 2 tAgg25_LdS) fun v6 hv6 => ?_; cases hv6) <;> (refine cS 7 (cA Tryz.call24 (hva)) fun v7 hv7 => ?_; cases hv7) <;> refine xL 8 q_not ?_ <;> refine xL 9 q_move ?_ <;> (refine yL 10 (q_ldao 3 tAgg25_LdS) fun v10 hv10 => ?_; cases hv10) <;> (refine cS 11 (cA Tryz.call24 (hvb)) fun v11 hv11 => ?_; cases hv11) <;> refine xL 12 q_not ?_ <;> refine xL 13 q_pick ?_ <;> refine xL 5 q_assign ?_ <;> refine aL_end (nav ?_) <;> try dsimp only) <;> (
  (first | refine cCd ?_ ?_ | refine cC ?_ ?_) <;> intro hb5
  · first
    | exact Bool.noConfusion hb5
    | (
     refine nav ?_
     (refine aC_region ?_ <;> refine xL 4 q_assign ?_ <;> refine aL_end (nav ?_) <;> try dsimp only)
     exact ret_shr (Tryz.results70) rfl rfl)
  · first
    | exact Bool.noConfusion hb5
    | skip)
theorem aFit_tn (a b : Aut) (ha : autOk a = true) (hb : autOk b = true) (hs : ¬ a.syms = b.syms) : AF Tryz.prog 70 [pAut a, pAut b] (· = pInt 29) := by
 have hva := aValid_e a
 have hvb := aValid_e b
 rw [ha] at hva
 rw [hb] at hvb
 refine AF.of_body 20 Tryz.func70 rfl Tryz.ntmps70 (Nat.le_of_ble_eq_true rfl) ?_
 intro w0 M0 vs hl hv
 obtain ⟨v0, v1, rfl⟩ := len2 hl
 clear hl hv
 refine nav ?_
 (refine aC_region ?_ <;> refine s_boxa 2 5 fun h2 => ?_ <;> refine s_boxa 3 5 fun h3 => ?_ <;> refine xL 4 q_assign ?_ <;> refine aL_end (nav ?_) <;> try dsimp only)
 (refine aC_region ?_ <;> (refine yL 6 (q_ldao 2 tAgg25_LdS) fun v6 hv6 => ?_; cases hv6) <;> (refine cS 7 (cA Tryz.call24 (hva)) fun v7 hv7 => ?_; cases hv7) <;> refine xL 8 q_not ?_ <;> refine xL 9 q_move ?_ <;> (refine yL 10 (q_ldao 3 tAgg25_LdS) fun v10 hv10 => ?_; cases hv10) <;> (refine cS 11 (cA Tryz.call24 (hvb)) fun v11 hv11 => ?_; cases hv11) <;> refine xL 12 q_not ?_ <;> refine xL 13 q_pick ?_ <;> refine xL 5 q_assign ?_ <;> refine aL_end (nav ?_) <;> try dsimp only) <;> (
  (first | refine cCd ?_ ?_ | refine cC ?_ ?_) <;> intro hb5
  · first
    | exact Bool.noConfusion hb5
    | (
     refine nav ?_
     (refine aC_region ?_ <;> refine xL 4 q_assign ?_ <;> refine aL_end (nav ?_) <;> try dsimp only)
     exact ret_shr (Tryz.results70) rfl rfl)
  · first
    | exact Bool.noConfusion hb5
    | (
     refine nav ?_
     (refine aC_region ?_ <;> refine xL 15 (q_fldo 2 tFl25_1_LdI) ?_ <;> (refine yL 16 (q_ldo 2 tNa3_LbB) fun v16 hv16 => ?_; cases hv16) <;> refine xL 17 (q_fldo 3 tFl25_1_LdI) ?_ <;> (refine yL 18 (q_ldo 3 tNa3_LbB) fun v18 hv18 => ?_; cases hv18) <;> refine xL 19 q_neq ?_ <;> refine xL 14 q_assign ?_ <;> refine aL_end (nav ?_) <;> try dsimp only)
     (first | refine cCd ?_ ?_ | refine cC ?_ ?_) <;> intro hb14
     · first
       | exact Bool.noConfusion hb14
       | (
        refine nav ?_
        (refine aC_region ?_ <;> refine xL 4 q_assign ?_ <;> refine aL_end (nav ?_) <;> try dsimp only)
        first | exact ret_shr (Tryz.results70) rfl rfl | exact absurd hs (by simpa using hb14))
     · first
       | exact Bool.noConfusion hb14
       | (
        refine nav ?_
        (refine aC_region ?_ <;> refine xL 4 q_assign ?_ <;> refine aL_end (nav ?_) <;> try dsimp only)
        first | exact ret_shr (Tryz.results70) rfl rfl | exact absurd (by simpa using hb14) hs)))
theorem aFit_tt (a b : Aut) (ha : autOk a = true) (hb : autOk b = true) (hs : a.syms = b.syms) : AF Tryz.prog 70 [pAut a, pAut b] (· = pInt 0) := by
 have hva := aValid_e a
 have hvb := aValid_e b
 rw [ha] at hva
 rw [hb] at hvb
 refine AF.of_body 20 Tryz.func70 rfl Tryz.ntmps70 (Nat.le_of_ble_eq_true rfl) ?_
 intro w0 M0 vs hl hv
 obtain ⟨v0, v1, rfl⟩ := len2 hl
 clear hl hv
 refine nav ?_
 (refine aC_region ?_ <;> refine s_boxa 2 5 fun h2 => ?_ <;> refine s_boxa 3 5 fun h3 => ?_ <;> refine xL 4 q_assign ?_ <;> refine aL_end (nav ?_) <;> try dsimp only)
 (refine aC_region ?_ <;> (refine yL 6 (q_ldao 2 tAgg25_LdS) fun v6 hv6 => ?_; cases hv6) <;> (refine cS 7 (cA Tryz.call24 (hva)) fun v7 hv7 => ?_; cases hv7) <;> refine xL 8 q_not ?_ <;> refine xL 9 q_move ?_ <;> (refine yL 10 (q_ldao 3 tAgg25_LdS) fun v10 hv10 => ?_; cases hv10) <;> (refine cS 11 (cA Tryz.call24 (hvb)) fun v11 hv11 => ?_; cases hv11) <;> refine xL 12 q_not ?_ <;> refine xL 13 q_pick ?_ <;> refine xL 5 q_assign ?_ <;> refine aL_end (nav ?_) <;> try dsimp only) <;> (
  (first | refine cCd ?_ ?_ | refine cC ?_ ?_) <;> intro hb5
  · first
    | exact Bool.noConfusion hb5
    | (
     refine nav ?_
     (refine aC_region ?_ <;> refine xL 4 q_assign ?_ <;> refine aL_end (nav ?_) <;> try dsimp only)
     exact ret_shr (Tryz.results70) rfl rfl)
  · first
    | exact Bool.noConfusion hb5
    | (
     refine nav ?_
     (refine aC_region ?_ <;> refine xL 15 (q_fldo 2 tFl25_1_LdI) ?_ <;> (refine yL 16 (q_ldo 2 tNa3_LbB) fun v16 hv16 => ?_; cases hv16) <;> refine xL 17 (q_fldo 3 tFl25_1_LdI) ?_ <;> (refine yL 18 (q_ldo 3 tNa3_LbB) fun v18 hv18 => ?_; cases hv18) <;> refine xL 19 q_neq ?_ <;> refine xL 14 q_assign ?_ <;> refine aL_end (nav ?_) <;> try dsimp only)
     (first | refine cCd ?_ ?_ | refine cC ?_ ?_) <;> intro hb14
     · first
       | exact Bool.noConfusion hb14
       | (
        refine nav ?_
        (refine aC_region ?_ <;> refine xL 4 q_assign ?_ <;> refine aL_end (nav ?_) <;> try dsimp only)
        first | exact ret_shr (Tryz.results70) rfl rfl | exact absurd hs (by simpa using hb14))
     · first
       | exact Bool.noConfusion hb14
       | (
        refine nav ?_
        (refine aC_region ?_ <;> refine xL 4 q_assign ?_ <;> refine aL_end (nav ?_) <;> try dsimp only)
        first | exact ret_shr (Tryz.results70) rfl rfl | exact absurd (by simpa using hb14) hs)))
theorem aFit_e (a b : Aut) : AF Tryz.prog 70 [pAut a, pAut b] (· = pInt (fitX a b)) := by
 cases ha : autOk a
 · rw [fit_no1 ha]
   cases hb : autOk b
   · exact aFit_ff a b ha hb trivial
   · exact aFit_ft a b ha hb trivial
 · cases hb : autOk b
   · rw [fit_no2 hb]; exact aFit_tf a b ha hb trivial
   · by_cases hs : a.syms = b.syms
     · rw [fit_ok ha hb hs]; exact aFit_tt a b ha hb hs
     · rw [fit_ne ha hb hs]; exact aFit_tn a b ha hb hs
theorem aBoth_oe (a b : Aut) (op : Int) {A : Aut} (ha : AF Tryz.prog 83 [pAut a] (· = .tup [pAut A, pInt 0])) (hb : AF Tryz.prog 83 [pAut b] (· = .tup [rawZ, pInt 13])) : AF Tryz.prog 71 [pAut a, pAut b, pInt op] (· = .tup [pPZ, pInt 13]) := by
 refine AF.of_body 42 Tryz.func71 rfl Tryz.ntmps71 (Nat.le_of_ble_eq_true rfl) ?_
 intro w0 M0 vs hl hv
 obtain ⟨v0, v1, v2, rfl⟩ := len3 hl
 obtain rfl := hv 2 _ _ rfl rfl
 clear hl hv
 refine nav ?_
 (refine aC_region ?_ <;> refine s_boxa 3 5 fun h3 => ?_ <;> refine s_boxa 4 5 fun h4 => ?_ <;> refine s_alloc [(.int .i64 0), (.slice none 0 0), (.slice none 0 0), (.slice none 0 0), (.slice none 0 0)] 5 6 tZr95_LfP fun h6 => ?_ <;> refine xL 7 q_assign ?_ <;> refine aL_end (nav ?_) <;> try dsimp only)
 (refine aC_region ?_ <;> (refine yL 15 (q_ldao 3 tAgg25_LdS) fun v15 hv15 => ?_; cases hv15) <;> (refine cP 16 (cA Tryz.call83 (ha)) fun va16 vb16 hva16 hvb16 => ?_; cases hvb16) <;> refine xL 14 q_move ?_ <;> refine xL 17 q_extract ?_ <;> refine xL 18 q_extract ?_ <;> refine s_alloc [(.int .i64 0), (.int .i64 0), (.slice none 0 0), (.slice none 0 0), (.slice none 0 0)] 5 8 tZr25_LfD fun h8 => ?_ <;> refine s_sta 8 tAgg25_LdS ?_ <;> refine xL 9 q_assign ?_ <;> refine aL_end (nav ?_) <;> try dsimp only)
 (refine aC_region ?_ <;> (refine yL 20 (q_ldao 4 tAgg25_LdS) fun v20 hv20 => ?_; cases hv20) <;> (refine cP 21 (cA Tryz.call83 (hb)) fun va21 vb21 hva21 hvb21 => ?_; cases hvb21) <;> refine xL 19 q_move ?_ <;> refine xL 22 q_extract ?_ <;> refine xL 23 q_extract ?_ <;> refine s_alloc [(.int .i64 0), (.int .i64 0), (.slice none 0 0), (.slice none 0 0), (.slice none 0 0)] 5 10 tZr25_LfD fun h10 => ?_ <;> refine s_sta 10 tAgg25_LdS ?_ <;> refine xL 11 q_assign ?_ <;> refine aL_end (nav ?_) <;> try dsimp only)
 (refine aC_region ?_ <;> refine xL 24 q_move ?_ <;> refine xL 25 q_neq ?_ <;> refine xL 26 q_move ?_ <;> refine xL 27 q_move ?_ <;> refine xL 28 q_neq ?_ <;> refine xL 29 q_pick ?_ <;> refine aL_end (nav ?_) <;> try dsimp only) <;> (
  (first | refine cCd ?_ ?_ | refine cC ?_ ?_) <;> intro hb29
  · refine nav ?_
    (refine aC_region ?_ <;> refine xL 30 (q_build0 stPairs rfl) ?_ <;> refine s_sta 6 tAgg95_LfP ?_ <;> refine xL 7 q_assign ?_ <;> refine aL_end (nav ?_) <;> try dsimp only)
    exact ret_cs (k := 5) 6 (by kernel_rfl) (Tryz.results71) rfl rfl rfl (Nat.le_of_ble_eq_true rfl) (by decide) rfl rfl
  · first | omega | exact absurd (by decide) hb29 | exact Bool.noConfusion hb29)
theorem aBoth_eo (a b : Aut) (op : Int) {A : Aut} (ha : AF Tryz.prog 83 [pAut a] (· = .tup [rawZ, pInt 13])) (hb : AF Tryz.prog 83 [pAut b] (· = .tup [pAut A, pInt 0])) : AF Tryz.prog 71 [pAut a, pAut b, pInt op] (· = .tup [pPZ, pInt 13]) := by
 refine AF.of_body 42 Tryz.func71 rfl Tryz.ntmps71 (Nat.le_of_ble_eq_true rfl) ?_
 intro w0 M0 vs hl hv
 obtain ⟨v0, v1, v2, rfl⟩ := len3 hl
 obtain rfl := hv 2 _ _ rfl rfl
 clear hl hv
 refine nav ?_
 (refine aC_region ?_ <;> refine s_boxa 3 5 fun h3 => ?_ <;> refine s_boxa 4 5 fun h4 => ?_ <;> refine s_alloc [(.int .i64 0), (.slice none 0 0), (.slice none 0 0), (.slice none 0 0), (.slice none 0 0)] 5 6 tZr95_LfP fun h6 => ?_ <;> refine xL 7 q_assign ?_ <;> refine aL_end (nav ?_) <;> try dsimp only)
 (refine aC_region ?_ <;> (refine yL 15 (q_ldao 3 tAgg25_LdS) fun v15 hv15 => ?_; cases hv15) <;> (refine cP 16 (cA Tryz.call83 (ha)) fun va16 vb16 hva16 hvb16 => ?_; cases hvb16) <;> refine xL 14 q_move ?_ <;> refine xL 17 q_extract ?_ <;> refine xL 18 q_extract ?_ <;> refine s_alloc [(.int .i64 0), (.int .i64 0), (.slice none 0 0), (.slice none 0 0), (.slice none 0 0)] 5 8 tZr25_LfD fun h8 => ?_ <;> refine s_sta 8 tAgg25_LdS ?_ <;> refine xL 9 q_assign ?_ <;> refine aL_end (nav ?_) <;> try dsimp only)
 (refine aC_region ?_ <;> (refine yL 20 (q_ldao 4 tAgg25_LdS) fun v20 hv20 => ?_; cases hv20) <;> (refine cP 21 (cA Tryz.call83 (hb)) fun va21 vb21 hva21 hvb21 => ?_; cases hvb21) <;> refine xL 19 q_move ?_ <;> refine xL 22 q_extract ?_ <;> refine xL 23 q_extract ?_ <;> refine s_alloc [(.int .i64 0), (.int .i64 0), (.slice none 0 0), (.slice none 0 0), (.slice none 0 0)] 5 10 tZr25_LfD fun h10 => ?_ <;> refine s_sta 10 tAgg25_LdS ?_ <;> refine xL 11 q_assign ?_ <;> refine aL_end (nav ?_) <;> try dsimp only)
 (refine aC_region ?_ <;> refine xL 24 q_move ?_ <;> refine xL 25 q_neq ?_ <;> refine xL 26 q_move ?_ <;> refine kL 27 ?_ <;> refine kL 28 ?_ <;> refine xL 29 q_pick ?_ <;> refine aL_end (nav ?_) <;> try dsimp only) <;> (
  (first | refine cCd ?_ ?_ | refine cC ?_ ?_) <;> intro hb29
  · refine nav ?_
    (refine aC_region ?_ <;> refine xL 30 (q_build0 stPairs rfl) ?_ <;> refine s_sta 6 tAgg95_LfP ?_ <;> refine xL 7 q_assign ?_ <;> refine aL_end (nav ?_) <;> try dsimp only)
    exact ret_cs (k := 5) 6 (by kernel_rfl) (Tryz.results71) rfl rfl rfl (Nat.le_of_ble_eq_true rfl) (by decide) rfl rfl
  · first | omega | exact absurd (by decide) hb29 | exact Bool.noConfusion hb29)
theorem aBoth_ee (a b : Aut) (op : Int)  (ha : AF Tryz.prog 83 [pAut a] (· = .tup [rawZ, pInt 13])) (hb : AF Tryz.prog 83 [pAut b] (· = .tup [rawZ, pInt 13])) : AF Tryz.prog 71 [pAut a, pAut b, pInt op] (· = .tup [pPZ, pInt 13]) := by
 refine AF.of_body 42 Tryz.func71 rfl Tryz.ntmps71 (Nat.le_of_ble_eq_true rfl) ?_
 intro w0 M0 vs hl hv
 obtain ⟨v0, v1, v2, rfl⟩ := len3 hl
 obtain rfl := hv 2 _ _ rfl rfl
 clear hl hv
 refine nav ?_
 (refine aC_region ?_ <;> refine s_boxa 3 5 fun h3 => ?_ <;> refine s_boxa 4 5 fun h4 => ?_ <;> refine s_alloc [(.int .i64 0), (.slice none 0 0), (.slice none 0 0), (.slice none 0 0), (.slice none 0 0)] 5 6 tZr95_LfP fun h6 => ?_ <;> refine xL 7 q_assign ?_ <;> refine aL_end (nav ?_) <;> try dsimp only)
 (refine aC_region ?_ <;> (refine yL 15 (q_ldao 3 tAgg25_LdS) fun v15 hv15 => ?_; cases hv15) <;> (refine cP 16 (cA Tryz.call83 (ha)) fun va16 vb16 hva16 hvb16 => ?_; cases hvb16) <;> refine xL 14 q_move ?_ <;> refine xL 17 q_extract ?_ <;> refine xL 18 q_extract ?_ <;> refine s_alloc [(.int .i64 0), (.int .i64 0), (.slice none 0 0), (.slice none 0 0), (.slice none 0 0)] 5 8 tZr25_LfD fun h8 => ?_ <;> refine s_sta 8 tAgg25_LdS ?_ <;> refine xL 9 q_assign ?_ <;> refine aL_end (nav ?_) <;> try dsimp only)
 (refine aC_region ?_ <;> (refine yL 20 (q_ldao 4 tAgg25_LdS) fun v20 hv20 => ?_; cases hv20) <;> (refine cP 21 (cA Tryz.call83 (hb)) fun va21 vb21 hva21 hvb21 => ?_; cases hvb21) <;> refine xL 19 q_move ?_ <;> refine xL 22 q_extract ?_ <;> refine xL 23 q_extract ?_ <;> refine s_alloc [(.int .i64 0), (.int .i64 0), (.slice none 0 0), (.slice none 0 0), (.slice none 0 0)] 5 10 tZr25_LfD fun h10 => ?_ <;> refine s_sta 10 tAgg25_LdS ?_ <;> refine xL 11 q_assign ?_ <;> refine aL_end (nav ?_) <;> try dsimp only)
 (refine aC_region ?_ <;> refine xL 24 q_move ?_ <;> refine xL 25 q_neq ?_ <;> refine xL 26 q_move ?_ <;> refine kL 27 ?_ <;> refine kL 28 ?_ <;> refine xL 29 q_pick ?_ <;> refine aL_end (nav ?_) <;> try dsimp only) <;> (
  (first | refine cCd ?_ ?_ | refine cC ?_ ?_) <;> intro hb29
  · refine nav ?_
    (refine aC_region ?_ <;> refine xL 30 (q_build0 stPairs rfl) ?_ <;> refine s_sta 6 tAgg95_LfP ?_ <;> refine xL 7 q_assign ?_ <;> refine aL_end (nav ?_) <;> try dsimp only)
    exact ret_cs (k := 5) 6 (by kernel_rfl) (Tryz.results71) rfl rfl rfl (Nat.le_of_ble_eq_true rfl) (by decide) rfl rfl
  · first | omega | exact absurd (by decide) hb29 | exact Bool.noConfusion hb29)
theorem aBoth_yes (a b A B : Aut) (op : Int) (q : List PrS × List (List Nat)) (ha : AF Tryz.prog 83 [pAut a] (· = .tup [pAut A, pInt 0])) (hb : AF Tryz.prog 83 [pAut b] (· = .tup [pAut B, pInt 0])) (hp : AF Tryz.prog 104 [pAut A, pAut B, pInt op] (· = .tup [pPairs A B op q, pBool true])) : AF Tryz.prog 71 [pAut a, pAut b, pInt op] (· = .tup [pPairs A B op q, pInt 0]) := by
 refine AF.of_body 42 Tryz.func71 rfl Tryz.ntmps71 (Nat.le_of_ble_eq_true rfl) ?_
 intro w0 M0 vs hl hv
 obtain ⟨v0, v1, v2, rfl⟩ := len3 hl
 obtain rfl := hv 2 _ _ rfl rfl
 clear hl hv
 refine nav ?_
 (refine aC_region ?_ <;> refine s_boxa 3 5 fun h3 => ?_ <;> refine s_boxa 4 5 fun h4 => ?_ <;> refine s_alloc [(.int .i64 0), (.slice none 0 0), (.slice none 0 0), (.slice none 0 0), (.slice none 0 0)] 5 6 tZr95_LfP fun h6 => ?_ <;> refine xL 7 q_assign ?_ <;> refine aL_end (nav ?_) <;> try dsimp only)
 (refine aC_region ?_ <;> (refine yL 15 (q_ldao 3 tAgg25_LdS) fun v15 hv15 => ?_; cases hv15) <;> (refine cP 16 (cA Tryz.call83 (ha)) fun va16 vb16 hva16 hvb16 => ?_; cases hvb16) <;> refine xL 14 q_move ?_ <;> refine xL 17 q_extract ?_ <;> refine xL 18 q_extract ?_ <;> refine s_alloc [(.int .i64 0), (.int .i64 0), (.slice none 0 0), (.slice none 0 0), (.slice none 0 0)] 5 8 tZr25_LfD fun h8 => ?_ <;> refine s_sta 8 tAgg25_LdS ?_ <;> refine xL 9 q_assign ?_ <;> refine aL_end (nav ?_) <;> try dsimp only)
 (refine aC_region ?_ <;> (refine yL 20 (q_ldao 4 tAgg25_LdS) fun v20 hv20 => ?_; cases hv20) <;> (refine cP 21 (cA Tryz.call83 (hb)) fun va21 vb21 hva21 hvb21 => ?_; cases hvb21) <;> refine xL 19 q_move ?_ <;> refine xL 22 q_extract ?_ <;> refine xL 23 q_extract ?_ <;> refine s_alloc [(.int .i64 0), (.int .i64 0), (.slice none 0 0), (.slice none 0 0), (.slice none 0 0)] 5 10 tZr25_LfD fun h10 => ?_ <;> refine s_sta 10 tAgg25_LdS ?_ <;> refine xL 11 q_assign ?_ <;> refine aL_end (nav ?_) <;> try dsimp only)
 (refine aC_region ?_ <;> refine xL 24 q_move ?_ <;> refine xL 25 q_neq ?_ <;> refine xL 26 q_move ?_ <;> refine xL 27 q_move ?_ <;> refine xL 28 q_neq ?_ <;> refine xL 29 q_pick ?_ <;> refine aL_end (nav ?_) <;> try dsimp only) <;> (
  (first | refine cCd ?_ ?_ | refine cC ?_ ?_) <;> intro hb29
  · first | omega | exact absurd rfl hb29 | exact Bool.noConfusion hb29
  · refine nav ?_
    (refine aC_region ?_ <;> (refine yL 32 (q_ldao 8 tAgg25_LdS) fun v32 hv32 => ?_; cases hv32) <;> (refine yL 33 (q_ldao 10 tAgg25_LdS) fun v33 hv33 => ?_; cases hv33) <;> refine xL 34 q_move ?_ <;> (refine cP 35 (cA Tryz.call104 (hp)) fun va35 vb35 hva35 hvb35 => ?_; cases hvb35) <;> refine xL 31 q_move ?_ <;> refine xL 36 q_extract ?_ <;> refine xL 37 q_extract ?_ <;> refine s_alloc [(.int .i64 0), (.slice none 0 0), (.slice none 0 0), (.slice none 0 0), (.slice none 0 0)] 5 12 tZr95_LfP fun h12 => ?_ <;> refine s_sta 12 tAgg95_LfP ?_ <;> refine xL 13 q_assign ?_ <;> refine aL_end (nav ?_) <;> try dsimp only)
    (refine aC_region ?_ <;> refine xL 38 q_move ?_ <;> refine xL 39 q_not ?_ <;> refine aL_end (nav ?_) <;> try dsimp only)
    (first | refine cCd ?_ ?_ | refine cC ?_ ?_) <;> intro hb39
    · first
      | exact Bool.noConfusion hb39
      | skip
    · first
      | exact Bool.noConfusion hb39
      | (
       refine nav ?_
       (refine aC_region ?_ <;> (refine yL 41 (q_ldao 12 tAgg95_LfP) fun v41 hv41 => ?_; cases hv41) <;> refine s_sta 6 tAgg95_LfP ?_ <;> refine xL 7 q_assign ?_ <;> refine aL_end (nav ?_) <;> try dsimp only)
       exact ret_cs (k := 5) 6 (by kernel_rfl) (Tryz.results71) rfl rfl rfl (Nat.le_of_ble_eq_true rfl) (by decide) rfl rfl))
abbrev V5 := { u : Value × Value × Value × Value × Value // En.one (PV.val u.1) = true ∧ En.one (PV.val u.2.1) = true ∧ En.one (PV.val u.2.2.1) = true ∧ En.one (PV.val u.2.2.2.1) = true ∧ En.one (PV.val u.2.2.2.2) = true }
theorem aBoth_no (a b A B : Aut) (op : Int) (ha : AF Tryz.prog 83 [pAut a] (· = .tup [pAut A, pInt 0])) (hb : AF Tryz.prog 83 [pAut b] (· = .tup [pAut B, pInt 0])) (hp : AF Tryz.prog 104 [pAut A, pAut B, pInt op] (fun p => ∃ i : V5, p = .tup [.agg [.val i.1.1, .val i.1.2.1, .val i.1.2.2.1, .val i.1.2.2.2.1, .val i.1.2.2.2.2], pBool false])) : AF Tryz.prog 71 [pAut a, pAut b, pInt op] (· = .tup [pPZ, pInt 13]) := by
 refine AF.of_body 42 Tryz.func71 rfl Tryz.ntmps71 (Nat.le_of_ble_eq_true rfl) ?_
 intro w0 M0 vs hl hv
 obtain ⟨v0, v1, v2, rfl⟩ := len3 hl
 obtain rfl := hv 2 _ _ rfl rfl
 clear hl hv
 refine nav ?_
 (refine aC_region ?_ <;> refine s_boxa 3 5 fun h3 => ?_ <;> refine s_boxa 4 5 fun h4 => ?_ <;> refine s_alloc [(.int .i64 0), (.slice none 0 0), (.slice none 0 0), (.slice none 0 0), (.slice none 0 0)] 5 6 tZr95_LfP fun h6 => ?_ <;> refine xL 7 q_assign ?_ <;> refine aL_end (nav ?_) <;> try dsimp only)
 (refine aC_region ?_ <;> (refine yL 15 (q_ldao 3 tAgg25_LdS) fun v15 hv15 => ?_; cases hv15) <;> (refine cP 16 (cA Tryz.call83 (ha)) fun va16 vb16 hva16 hvb16 => ?_; cases hvb16) <;> refine xL 14 q_move ?_ <;> refine xL 17 q_extract ?_ <;> refine xL 18 q_extract ?_ <;> refine s_alloc [(.int .i64 0), (.int .i64 0), (.slice none 0 0), (.slice none 0 0), (.slice none 0 0)] 5 8 tZr25_LfD fun h8 => ?_ <;> refine s_sta 8 tAgg25_LdS ?_ <;> refine xL 9 q_assign ?_ <;> refine aL_end (nav ?_) <;> try dsimp only)
 (refine aC_region ?_ <;> (refine yL 20 (q_ldao 4 tAgg25_LdS) fun v20 hv20 => ?_; cases hv20) <;> (refine cP 21 (cA Tryz.call83 (hb)) fun va21 vb21 hva21 hvb21 => ?_; cases hvb21) <;> refine xL 19 q_move ?_ <;> refine xL 22 q_extract ?_ <;> refine xL 23 q_extract ?_ <;> refine s_alloc [(.int .i64 0), (.int .i64 0), (.slice none 0 0), (.slice none 0 0), (.slice none 0 0)] 5 10 tZr25_LfD fun h10 => ?_ <;> refine s_sta 10 tAgg25_LdS ?_ <;> refine xL 11 q_assign ?_ <;> refine aL_end (nav ?_) <;> try dsimp only)
 (refine aC_region ?_ <;> refine xL 24 q_move ?_ <;> refine xL 25 q_neq ?_ <;> refine xL 26 q_move ?_ <;> refine xL 27 q_move ?_ <;> refine xL 28 q_neq ?_ <;> refine xL 29 q_pick ?_ <;> refine aL_end (nav ?_) <;> try dsimp only) <;> (
  (first | refine cCd ?_ ?_ | refine cC ?_ ?_) <;> intro hb29
  · first | omega | exact absurd rfl hb29 | exact Bool.noConfusion hb29
  · refine nav ?_
    (refine aC_region ?_ <;> (refine yL 32 (q_ldao 8 tAgg25_LdS) fun v32 hv32 => ?_; cases hv32) <;> (refine yL 33 (q_ldao 10 tAgg25_LdS) fun v33 hv33 => ?_; cases hv33) <;> refine xL 34 q_move ?_ <;> (refine cPx 35 (cA Tryz.call104 hp) (fun i35 v1 v2 hv1 hv2 => ?_) (fun _ => rfl); cases hv2; obtain ⟨⟨u0, u1, u2, u3, u4⟩, n0, n1, n2, n3, n4⟩ := i35; dsimp only at n0 n1 n2 n3 n4) <;> refine xL 31 q_move ?_ <;> refine xL 36 q_extract ?_ <;> refine xL 37 q_extract ?_ <;> refine s_alloc [(.int .i64 0), (.slice none 0 0), (.slice none 0 0), (.slice none 0 0), (.slice none 0 0)] 5 12 tZr95_LfP fun h12 => ?_ <;> refine s_sta 12 tAgg95_LfP ?_ <;> refine xL 13 q_assign ?_ <;> refine aL_end (nav ?_) <;> try dsimp only)
    (refine aC_region ?_ <;> refine xL 38 q_move ?_ <;> refine xL 39 q_not ?_ <;> refine aL_end (nav ?_) <;> try dsimp only)
    (first | refine cCd ?_ ?_ | refine cC ?_ ?_) <;> intro hb39
    · first
      | exact Bool.noConfusion hb39
      | (
       refine nav ?_
       (refine aC_region ?_ <;> refine xL 40 (q_build0 stPairs rfl) ?_ <;> refine s_sta 6 tAgg95_LfP ?_ <;> refine xL 7 q_assign ?_ <;> refine aL_end (nav ?_) <;> try dsimp only)
       exact ret_cs (k := 5) 6 (by kernel_rfl) (Tryz.results71) rfl rfl rfl (Nat.le_of_ble_eq_true rfl) (by decide) rfl rfl)
    · first
      | exact Bool.noConfusion hb39
      | skip)
theorem lim_err {x : Option Aut} {e : Int} (h : lim x = .error e) : e = 13 := by
 cases x with
 | some a => cases h
 | none => cases h; rfl
theorem redX_err {a : Aut} {e : Int} (h : redX a = .error e) : e = 13 := by
 unfold redX at h
 split at h
 · exact lim_err h
 · cases h; rfl
theorem aBoth_e (a b : Aut) (op : Int) (hf : fitX a b = 0) : AF Tryz.prog 71 [pAut a, pAut b, pInt op] (· = resB a b op) := by
 obtain ⟨h1, h2, h3⟩ := fit_zero hf
 have ha := aReduced_x a (aok_of h1)
 have hb := aReduced_x b (aok_of h2)
 unfold resB bothX
 cases ea : redX a with
 | error e =>
   obtain rfl := redX_err ea
   rw [ea] at ha
   cases eb : redX b with
   | error f =>
     obtain rfl := redX_err eb
     rw [eb] at hb
     exact aBoth_ee a b op ha hb
   | ok B => rw [eb] at hb; exact aBoth_eo a b op ha hb
 | ok A =>
   rw [ea] at ha
   cases eb : redX b with
   | error f =>
     obtain rfl := redX_err eb
     rw [eb] at hb
     exact aBoth_oe a b op ha hb
   | ok B =>
     rw [eb] at hb
     obtain ⟨dA, sA⟩ := redX_det (aok_of h1) ea
     obtain ⟨dB, sB⟩ := redX_det (aok_of h2) eb
     have hp := aProduct_e A B op dA dB (by rw [sA, sB, h3])
     dsimp only
     cases eq : prodQ A B with
     | some q => exact aBoth_yes a b A B op q ha hb (hp.mono fun p hr => by
        rcases hr with ⟨q', h4, h5⟩ | ⟨h4, _⟩
        · rw [eq] at h4; cases h4; exact h5
        · rw [eq] at h4; cases h4)
     | none => exact aBoth_no a b A B op ha hb (hp.mono fun p hr => by
        rcases hr with ⟨q', h4, h5⟩ | ⟨_, u0, u1, u2, u3, u4, n0, n1, n2, n3, n4, h5⟩
        · rw [eq] at h4; cases h4
        · exact ⟨⟨(u0, u1, u2, u3, u4), n0, n1, n2, n3, n4⟩, h5⟩)
theorem aCompare_bad (a b : Aut) (op e : Int) (he : ¬ e = 0) (hf : AF Tryz.prog 70 [pAut a, pAut b] (· = pInt e)) : AF Tryz.prog 85 [pAut a, pAut b, pInt op] (· = .tup [pBool false, pInts [], pInt e]) := by
 refine AF.of_body 38 Tryz.func85 rfl Tryz.ntmps85 (Nat.le_of_ble_eq_true rfl) ?_
 intro w0 M0 vs hl hv
 obtain ⟨v0, v1, v2, rfl⟩ := len3 hl
 obtain rfl := hv 2 _ _ rfl rfl
 clear hl hv
 refine nav ?_
 (refine aC_region ?_ <;> refine s_boxa 3 5 fun h3 => ?_ <;> refine s_boxa 4 5 fun h4 => ?_ <;> refine xL 6 q_assign ?_ <;> refine xL 7 q_assign ?_ <;> refine xL 8 q_assign ?_ <;> refine aL_end (nav ?_) <;> try dsimp only)
 (refine aC_region ?_ <;> (refine yL 14 (q_ldao 3 tAgg25_LdS) fun v14 hv14 => ?_; cases hv14) <;> (refine yL 15 (q_ldao 4 tAgg25_LdS) fun v15 hv15 => ?_; cases hv15) <;> (refine cS 16 (cA Tryz.call70 (hf)) fun v16 hv16 => ?_; cases hv16) <;> refine xL 9 q_assign ?_ <;> refine aL_end (nav ?_) <;> try dsimp only)
 (refine aC_region ?_ <;> refine xL 17 q_move ?_ <;> refine xL 18 q_neq ?_ <;> refine aL_end (nav ?_) <;> try dsimp only)
 (first | refine cCd ?_ ?_ | refine cC ?_ ?_) <;> intro hb18
 · refine nav ?_
   (refine aC_region ?_ <;> refine xL 19 q_move ?_ <;> refine xL 6 q_assign ?_ <;> refine xL 7 q_assign ?_ <;> refine xL 8 q_assign ?_ <;> refine aL_end (nav ?_) <;> try dsimp only)
   refine aR_ent (nilSlD (t := 7) rfl) fun _ => ?_
   exact ret_sss (Tryz.results85) rfl rfl rfl rfl
 · exact absurd (by simpa using hb18) he
theorem aCompare_err (a b : Aut) (op e : Int) (he : ¬ e = 0) (hf : AF Tryz.prog 70 [pAut a, pAut b] (· = pInt 0)) (hb : AF Tryz.prog 71 [pAut a, pAut b, pInt op] (· = .tup [pPZ, pInt e])) : AF Tryz.prog 85 [pAut a, pAut b, pInt op] (· = .tup [pBool false, pInts [], pInt e]) := by
 refine AF.of_body 38 Tryz.func85 rfl Tryz.ntmps85 (Nat.le_of_ble_eq_true rfl) ?_
 intro w0 M0 vs hl hv
 obtain ⟨v0, v1, v2, rfl⟩ := len3 hl
 obtain rfl := hv 2 _ _ rfl rfl
 clear hl hv
 refine nav ?_
 (refine aC_region ?_ <;> refine s_boxa 3 5 fun h3 => ?_ <;> refine s_boxa 4 5 fun h4 => ?_ <;> refine xL 6 q_assign ?_ <;> refine xL 7 q_assign ?_ <;> refine xL 8 q_assign ?_ <;> refine aL_end (nav ?_) <;> try dsimp only)
 (refine aC_region ?_ <;> (refine yL 14 (q_ldao 3 tAgg25_LdS) fun v14 hv14 => ?_; cases hv14) <;> (refine yL 15 (q_ldao 4 tAgg25_LdS) fun v15 hv15 => ?_; cases hv15) <;> (refine cS 16 (cA Tryz.call70 (hf)) fun v16 hv16 => ?_; cases hv16) <;> refine xL 9 q_assign ?_ <;> refine aL_end (nav ?_) <;> try dsimp only)
 (refine aC_region ?_ <;> refine xL 17 q_move ?_ <;> refine xL 18 q_neq ?_ <;> refine aL_end (nav ?_) <;> try dsimp only)
 (first | refine cCd ?_ ?_ | refine cC ?_ ?_) <;> intro hb18
 · first | omega | exact absurd rfl hb18 | exact Bool.noConfusion hb18
 · refine nav ?_
   (refine aC_region ?_ <;> (refine yL 21 (q_ldao 3 tAgg25_LdS) fun v21 hv21 => ?_; cases hv21) <;> (refine yL 22 (q_ldao 4 tAgg25_LdS) fun v22 hv22 => ?_; cases hv22) <;> refine xL 23 q_move ?_ <;> (refine cP 24 (cA Tryz.call71 (hb)) fun va24 vb24 hva24 hvb24 => ?_; cases hvb24) <;> refine xL 20 q_move ?_ <;> refine xL 25 q_extract ?_ <;> refine xL 26 q_extract ?_ <;> refine s_alloc [(.int .i64 0), (.slice none 0 0), (.slice none 0 0), (.slice none 0 0), (.slice none 0 0)] 5 10 tZr95_LfP fun h10 => ?_ <;> refine s_sta 10 tAgg95_LfP ?_ <;> refine xL 11 q_assign ?_ <;> refine aL_end (nav ?_) <;> try dsimp only)
   (refine aC_region ?_ <;> refine xL 27 q_move ?_ <;> refine xL 28 q_neq ?_ <;> refine aL_end (nav ?_) <;> try dsimp only)
   (first | refine cCd ?_ ?_ | refine cC ?_ ?_) <;> intro hb28
   · refine nav ?_
     (refine aC_region ?_ <;> refine xL 29 q_move ?_ <;> refine xL 6 q_assign ?_ <;> refine xL 7 q_assign ?_ <;> refine xL 8 q_assign ?_ <;> refine aL_end (nav ?_) <;> try dsimp only)
     refine aR_ent (nilSlD (t := 7) rfl) fun _ => ?_
     exact ret_sss (Tryz.results85) rfl rfl rfl rfl
   · exact absurd (by simpa using hb28) he
theorem aCompare_ok (a b A B : Aut) (op : Int) (q : List PrS × List (List Nat)) (x : List Int) (t : Bool) (hf : AF Tryz.prog 70 [pAut a, pAut b] (· = pInt 0)) (hb : AF Tryz.prog 71 [pAut a, pAut b, pInt op] (· = .tup [pPairs A B op q, pInt 0])) (hg : AF Tryz.prog 115 [pPairs A B op q] (· = .tup [pInts x, pBool t])) : AF Tryz.prog 85 [pAut a, pAut b, pInt op] (· = .tup [pBool (!t), pInts x, pInt 0]) := by
 refine AF.of_body 38 Tryz.func85 rfl Tryz.ntmps85 (Nat.le_of_ble_eq_true rfl) ?_
 intro w0 M0 vs hl hv
 obtain ⟨v0, v1, v2, rfl⟩ := len3 hl
 obtain rfl := hv 2 _ _ rfl rfl
 clear hl hv
 refine nav ?_
 (refine aC_region ?_ <;> refine s_boxa 3 5 fun h3 => ?_ <;> refine s_boxa 4 5 fun h4 => ?_ <;> refine xL 6 q_assign ?_ <;> refine xL 7 q_assign ?_ <;> refine xL 8 q_assign ?_ <;> refine aL_end (nav ?_) <;> try dsimp only)
 (refine aC_region ?_ <;> (refine yL 14 (q_ldao 3 tAgg25_LdS) fun v14 hv14 => ?_; cases hv14) <;> (refine yL 15 (q_ldao 4 tAgg25_LdS) fun v15 hv15 => ?_; cases hv15) <;> (refine cS 16 (cA Tryz.call70 (hf)) fun v16 hv16 => ?_; cases hv16) <;> refine xL 9 q_assign ?_ <;> refine aL_end (nav ?_) <;> try dsimp only)
 (refine aC_region ?_ <;> refine xL 17 q_move ?_ <;> refine xL 18 q_neq ?_ <;> refine aL_end (nav ?_) <;> try dsimp only)
 (first | refine cCd ?_ ?_ | refine cC ?_ ?_) <;> intro hb18
 · first | omega | exact absurd rfl hb18 | exact Bool.noConfusion hb18
 · refine nav ?_
   (refine aC_region ?_ <;> (refine yL 21 (q_ldao 3 tAgg25_LdS) fun v21 hv21 => ?_; cases hv21) <;> (refine yL 22 (q_ldao 4 tAgg25_LdS) fun v22 hv22 => ?_; cases hv22) <;> refine xL 23 q_move ?_ <;> (refine cP 24 (cA Tryz.call71 (hb)) fun va24 vb24 hva24 hvb24 => ?_; cases hvb24) <;> refine xL 20 q_move ?_ <;> refine xL 25 q_extract ?_ <;> refine xL 26 q_extract ?_ <;> refine s_alloc [(.int .i64 0), (.slice none 0 0), (.slice none 0 0), (.slice none 0 0), (.slice none 0 0)] 5 10 tZr95_LfP fun h10 => ?_ <;> refine s_sta 10 tAgg95_LfP ?_ <;> refine xL 11 q_assign ?_ <;> refine aL_end (nav ?_) <;> try dsimp only)
   (refine aC_region ?_ <;> refine xL 27 q_move ?_ <;> refine xL 28 q_neq ?_ <;> refine aL_end (nav ?_) <;> try dsimp only)
   (first | refine cCd ?_ ?_ | refine cC ?_ ?_) <;> intro hb28
   · first | omega | exact absurd rfl hb28 | exact Bool.noConfusion hb28
   · refine nav ?_
     (refine aC_region ?_ <;> (refine yL 31 (q_ldao 10 tAgg95_LfP) fun v31 hv31 => ?_; cases hv31) <;> (refine cP 32 (cA Tryz.call115 (hg)) fun va32 vb32 hva32 hvb32 => ?_; cases hvb32) <;> refine xL 30 q_move ?_ <;> refine xL 33 q_extract ?_ <;> refine xL 34 q_extract ?_ <;> refine xL 12 q_assign ?_ <;> refine xL 13 q_assign ?_ <;> refine aL_end (nav ?_) <;> try dsimp only)
     (refine aC_region ?_ <;> refine xL 35 q_move ?_ <;> refine xL 36 q_not ?_ <;> refine xL 37 q_move ?_ <;> refine xL 6 q_assign ?_ <;> refine xL 7 q_assign ?_ <;> refine xL 8 q_assign ?_ <;> refine aL_end (nav ?_) <;> try dsimp only)
     exact ret_sss (Tryz.results85) rfl rfl rfl rfl
def resC (x : Bool × List Int × Int) : PV := .tup [pBool x.1, pInts x.2.1, pInt x.2.2]
theorem aCompare_e (a b : Aut) (op : Int) : AF Tryz.prog 85 [pAut a, pAut b, pInt op] (· = resC (cmpX a b op)) := by
 have hf := aFit_e a b
 unfold cmpX
 by_cases h0 : fitX a b = 0
 · rw [if_neg (fun h => h h0)]
   have hb := aBoth_e a b op h0
   rw [h0] at hf
   unfold resB at hb
   cases e : bothX a b with
   | error f =>
     rw [e] at hb
     refine aCompare_err a b op f (fun hf0 => ?_) hf hb
     unfold bothX at e
     split at e
     · split at e <;> cases e
       omega
     · cases e; omega
   | ok x =>
     obtain ⟨A, B, o, rows⟩ := x
     rw [e] at hb
     obtain ⟨h1, h2, h3⟩ := fit_zero h0
     unfold bothX at e
     split at e
     · rename_i A' B' ea eb
       split at e
       · rename_i q' eq
         cases e
         obtain ⟨dA, sA⟩ := redX_det (aok_of h1) ea
         obtain ⟨dB, sB⟩ := redX_det (aok_of h2) eb
         have hok := (prod_ok dA dB (by rw [sA, sB, h3]) eq).1
         have hg := aFirst_e A B op o rows eq hok.zero hok.cap
         have := aCompare_ok a b A B op (o, rows) _ _ hf hb hg
         rw [Bool.not_not] at this
         exact this
       · cases e
     · cases e
 · rw [if_pos h0]
   exact aCompare_bad a b op _ h0 hf
theorem aEquivalent_c (a b : Aut) (t : Bool) (l : List Int) (e : Int) (h : AF Tryz.prog 85 [pAut a, pAut b, pInt 4] (· = .tup [pBool t, pInts l, pInt e])) : AF Tryz.prog 33 [pAut a, pAut b] (· = .tup [pBool t, pInts l, pInt e]) := by
 refine AF.of_body 13 Tryz.func33 rfl Tryz.ntmps33 (Nat.le_of_ble_eq_true rfl) ?_
 intro w0 M0 vs hl hv
 obtain ⟨v0, v1, rfl⟩ := len2 hl
 clear hl hv
 refine nav ?_
 (refine aC_region ?_ <;> refine s_boxa 2 5 fun h2 => ?_ <;> refine s_boxa 3 5 fun h3 => ?_ <;> refine xL 4 q_assign ?_ <;> refine xL 5 q_assign ?_ <;> refine xL 6 q_assign ?_ <;> refine aL_end (nav ?_) <;> try dsimp only)
 (refine aC_region ?_ <;> (refine yL 7 (q_ldao 2 tAgg25_LdS) fun v7 hv7 => ?_; cases hv7) <;> (refine yL 8 (q_ldao 3 tAgg25_LdS) fun v8 hv8 => ?_; cases hv8) <;> (refine cPx3 9 (cA Tryz.call85 h) fun va9 vb9 vc9 hva9 hvb9 hvc9 => ?_; cases hva9; cases hvc9) <;> refine xL 10 q_extract ?_ <;> refine xL 11 q_extract ?_ <;> refine xL 12 q_extract ?_ <;> refine xL 4 q_assign ?_ <;> refine xL 5 q_assign ?_ <;> refine xL 6 q_assign ?_ <;> refine aL_end (nav ?_) <;> try dsimp only)
 exact ret_sss (Tryz.results33) rfl rfl rfl rfl
theorem aEquivalent_e (a b : Aut) : AF Tryz.prog 33 [pAut a, pAut b] (· = resC (cmpX a b 4)) := aEquivalent_c a b _ _ _ (aCompare_e a b 4)
theorem aIncluded_c (a b : Aut) (t : Bool) (l : List Int) (e : Int) (h : AF Tryz.prog 85 [pAut a, pAut b, pInt 3] (· = .tup [pBool t, pInts l, pInt e])) : AF Tryz.prog 35 [pAut a, pAut b] (· = .tup [pBool t, pInts l, pInt e]) := by
 refine AF.of_body 13 Tryz.func35 rfl Tryz.ntmps35 (Nat.le_of_ble_eq_true rfl) ?_
 intro w0 M0 vs hl hv
 obtain ⟨v0, v1, rfl⟩ := len2 hl
 clear hl hv
 refine nav ?_
 (refine aC_region ?_ <;> refine s_boxa 2 5 fun h2 => ?_ <;> refine s_boxa 3 5 fun h3 => ?_ <;> refine xL 4 q_assign ?_ <;> refine xL 5 q_assign ?_ <;> refine xL 6 q_assign ?_ <;> refine aL_end (nav ?_) <;> try dsimp only)
 (refine aC_region ?_ <;> (refine yL 7 (q_ldao 2 tAgg25_LdS) fun v7 hv7 => ?_; cases hv7) <;> (refine yL 8 (q_ldao 3 tAgg25_LdS) fun v8 hv8 => ?_; cases hv8) <;> (refine cPx3 9 (cA Tryz.call85 h) fun va9 vb9 vc9 hva9 hvb9 hvc9 => ?_; cases hva9; cases hvc9) <;> refine xL 10 q_extract ?_ <;> refine xL 11 q_extract ?_ <;> refine xL 12 q_extract ?_ <;> refine xL 4 q_assign ?_ <;> refine xL 5 q_assign ?_ <;> refine xL 6 q_assign ?_ <;> refine aL_end (nav ?_) <;> try dsimp only)
 exact ret_sss (Tryz.results35) rfl rfl rfl rfl
theorem aIncluded_e (a b : Aut) : AF Tryz.prog 35 [pAut a, pAut b] (· = resC (cmpX a b 3)) := aIncluded_c a b _ _ _ (aCompare_e a b 3)
theorem bothX_ok {a b A B : Aut} {q : List PrS × List (List Nat)} (h : bothX a b = .ok (A, B, q)) : redX a = .ok A ∧ redX b = .ok B ∧ prodQ A B = some q := by
 unfold bothX at h
 split at h
 · rename_i A' B' ea eb
   split at h
   · rename_i q' eq
     cases h
     exact ⟨ea, eb, eq⟩
   · cases h
 · cases h
theorem bothX_err {a b : Aut} {e : Int} (h : bothX a b = .error e) : e = 13 := by
 unfold bothX at h
 split at h
 · split at h <;> cases h
   rfl
 · cases h; rfl
theorem both_tok {a b A B : Aut} {q : List PrS × List (List Nat)} (op : Int) (hf : fitX a b = 0) (h : bothX a b = .ok (A, B, q)) : TOk (prodT A B op q) := by
 obtain ⟨h1, h2, h3⟩ := fit_zero hf
 obtain ⟨ea, eb, eq⟩ := bothX_ok h
 obtain ⟨dA, sA⟩ := redX_det (aok_of h1) ea
 obtain ⟨dB, sB⟩ := redX_det (aok_of h2) eb
 exact prod_tok dA dB (by rw [sA, sB, h3]) op eq
end Go.Proofs.YtgigclnaicbiaaaGreatDoor
namespace Go.En
open Go.RowKit Go.Cb
set_option linter.all false
section
variable {P : Program} {c : Ctx} {sL hP : List (Nat × Ent)}
theorem ret_css {fn : Func} {R : PV → Prop} {t ty s r k e k' n : Nat} {h u x : Value} {q p g : PV} {cs : List PV} (l : Nat) (hT : AggT P ty k = true) (hr : fn.results = #[.cell t ty, .tmp s, .tmp r]) (ht : lk sL t = some (padd (sbase h) 0, q)) (hl : lk hP l = some (h, .own e k' n cs)) (hs : lk sL s = some (u, p)) (hx : lk sL r = some (x, g)) (hp : k ≤ cs.length) (hk : 0 < k) (hsh : (cs.take k).all isSh = true) (hR : R (.tup [.agg (cs.take k), p, g])) (hN : ∀ b, ¬ c.N0 b := by intro _ h; exact h) : aR c (bodyPost P fn (RetAF c R)) (⟨sL, hP⟩ : St) := fun a w ⟨F, H⟩ => by
 obtain ⟨V, A, h0, h1, h2⟩ := cell_run H hT ht hl hp hk hsh
 obtain ⟨h3, h4⟩ := H.sl s _ _ hs
 obtain ⟨h5, h6⟩ := H.sl r _ _ hx
 have hM : ∀ b, b < w.heap.size → (c.M0 b ∨ False) → mof c hP F b := fun b _ hb => by
  rcases hb with hb | hb
  · exact .inl hb
  · exact hb.elim
 refine ⟨H.df, .tuple #[V, u, x], ?_, .tuple #[V, u, x], _, fun _ => False, rfl, hR, H.ext.ext (fun b _ => hN b), .shr (.tup [V, u, x] _ rfl fun i v q' hv hq' => ?_) (fun _ h => h), fun _ h => h.elim, H.dw⟩
 · simp only [results, hr]
   simp at h0
   simp [h0, h1, Array.getD_eq_getD_getElem?, h3, h5]
 · match i with
   | 0 => simp at hv hq'; subst hv hq'; exact h2.anti hM
   | 1 => simp at hv hq'; subst hv hq'; exact h4.anti hM
   | 2 => simp at hv hq'; subst hv hq'; exact h6.anti hM
   | i + 3 => simp at hv
end
end Go.En
namespace Go.Proofs.YtgigclnaicbiaaaGreatDoor
open Go.RowKit Go.Cb Go.En
set_option linter.all false
set_option maxRecDepth 100000
def pairS (x : PrS) : List Nat := [x.1.1, x.1.2]
def keyD (x : PrS) : ByteArray := digN (pairS x)
def mvB (x : PrS) : Mv := if x.2.1 < 0 then ⟨0, 0, 0⟩ else ⟨x.2.1, 0, x.2.2⟩
def pTZ : PV := .agg [pInt 0, .val (.slice none 0 0), .val (.slice none 0 0)]
def pairX (a b : Aut) (op : Int) : Except Int (Aut × Aut × List PrS × List (List Nat)) := if ¬ fitX a b = 0 then .error (fitX a b) else if op < 1 ∨ 4 < op then .error 2 else bothX a b
def resP (a b : Aut) (op : Int) : PV := match pairX a b op with
 | .ok (A, B, q) => .tup [pTabR (prodT A B op q), pMvs (q.1.map mvB), pInt 0]
 | .error e => .tup [pTZ, pMvs [], pInt e]
theorem pairs_bd {A B : Aut} (hA : DetA A) (hB : DetA B) {x : PrS} (h : PairOk A B x) : ∀ y ∈ toI (pairS x), 0 ≤ y ∧ y ≤ 2000 := fun y hy => by
 have h1 : x.1.1 < A.n.toNat := h.1
 have h2 : x.1.2 < B.n.toNat := h.2
 have n1 := hA.ok.n1
 have n2 := hB.ok.n1
 unfold toI pairS at hy
 simp only [List.map_cons, List.map_nil, List.mem_cons, List.not_mem_nil, or_false] at hy
 rcases hy with rfl | rfl <;> omega
theorem keyD_id {A B : Aut} (hA : DetA A) (hB : DetA B) {o : List PrS} (ho : ∀ x ∈ o, PairOk A B x) {x : PrS} (hx : PairOk A B x) : posK keyD o (keyD x) = posK Prod.fst o x.1 := posK_inj fun y hy => by
 unfold keyD digN
 rw [digB_inj (pairs_bd hA hB (ho y hy)) (pairs_bd hA hB hx), toI_inj]
 unfold pairS
 rw [Prod.ext_iff]
 simp
theorem snoc_pr2 (e : Nat) (L : List PrS) (y : PrS) : PV.own e 1 (L.length + 1) (L.map (fun x => pNats (pairS x)) ++ [pNats (pairS y)]) = .own e 1 (L ++ [y]).length ((L ++ [y]).map fun x => pNats (pairS x)) := by simp
theorem snoc_mvB (e : Nat) (L : List PrS) (y : PrS) : PV.own e 3 (L.length + 1) ((L.map mvB).flatMap cMv ++ cMv (mvB y)) = .own e 3 (L ++ [y]).length (((L ++ [y]).map mvB).flatMap cMv) := by simp
theorem r07holds_e (op : Int) (x y : Bool) : AF Tryz.prog 108 [pInt op, pBool x, pBool y] (· = pBool (decB op x y)) := by
 refine AF.of_body 30 Tryz.func108 rfl Tryz.ntmps108 (Nat.le_of_ble_eq_true rfl) ?_
 intro w0 M0 vs hl hv
 obtain ⟨v0, v1, v2, rfl⟩ := len3 hl
 obtain rfl := hv 0 _ _ rfl rfl
 obtain rfl := hv 1 _ _ rfl rfl
 obtain rfl := hv 2 _ _ rfl rfl
 clear hl hv
 refine nav ?_
 (refine aC_region ?_ <;> refine xL 6 q_assign ?_ <;> refine aL_end (nav ?_) <;> try dsimp only)
 (refine aC_region ?_ <;> refine xL 7 q_move ?_ <;> refine aL_end (nav ?_) <;> try dsimp only)
 (refine aC_region ?_ <;> refine xL 9 q_eql ?_ <;> refine xL 8 q_assign ?_ <;> refine aL_end (nav ?_) <;> try dsimp only)
 (first | refine cCd ?_ ?_ | refine cC ?_ ?_) <;> intro hb8
 · first
   | exact Bool.noConfusion hb8
   | (
    refine nav ?_
    (refine aC_region ?_ <;> refine xL 10 q_move ?_ <;> refine xL 11 q_move ?_ <;> (refine bL 11 (fun hb11 => ?_) (fun hb11 => ?_) <;> (first | refine kL 12 ?_ | refine xL 12 q_move ?_)) <;> refine xL 13 q_pick ?_ <;> refine xL 6 q_assign ?_ <;> refine aL_end (nav ?_) <;> try dsimp only) <;> (
     refine ret_shr (Tryz.results108) rfl ?_
     unfold decB
     rw [if_pos (by omega)]
     cases x <;> cases y <;> first | rfl | (exfalso; simp_all; done)))
 · first
   | exact Bool.noConfusion hb8
   | (
    refine nav ?_
    (refine aC_region ?_ <;> refine xL 15 q_eql ?_ <;> refine xL 14 q_assign ?_ <;> refine aL_end (nav ?_) <;> try dsimp only)
    (first | refine cCd ?_ ?_ | refine cC ?_ ?_) <;> intro hb14
    · first
      | exact Bool.noConfusion hb14
      | (
       refine nav ?_
       (refine aC_region ?_ <;> refine xL 16 q_move ?_ <;> refine xL 17 q_move ?_ <;> (refine bL 17 (fun hb17 => ?_) (fun hb17 => ?_) <;> (first | refine kL 18 ?_ | refine xL 18 q_move ?_)) <;> refine xL 19 q_pick ?_ <;> refine xL 6 q_assign ?_ <;> refine aL_end (nav ?_) <;> try dsimp only) <;> (
        refine ret_shr (Tryz.results108) rfl ?_
        unfold decB
        rw [if_neg (by omega), if_pos (by omega)]
        cases x <;> cases y <;> first | rfl | (exfalso; simp_all; done)))
    · first
      | exact Bool.noConfusion hb14
      | (
       refine nav ?_
       (refine aC_region ?_ <;> refine xL 21 q_eql ?_ <;> refine xL 20 q_assign ?_ <;> refine aL_end (nav ?_) <;> try dsimp only)
       (first | refine cCd ?_ ?_ | refine cC ?_ ?_) <;> intro hb20
       · first
         | exact Bool.noConfusion hb20
         | (
          refine nav ?_
          (refine aC_region ?_ <;> refine xL 22 q_move ?_ <;> refine xL 23 q_move ?_ <;> (refine bL 23 (fun hb23 => ?_) (fun hb23 => ?_) <;> (first | refine kL 24 ?_ | refine xL 24 q_move ?_)) <;> (first | refine kL 25 ?_ | refine xL 25 q_not ?_) <;> refine xL 26 q_pick ?_ <;> refine xL 6 q_assign ?_ <;> refine aL_end (nav ?_) <;> try dsimp only) <;> (
           refine ret_shr (Tryz.results108) rfl ?_
           unfold decB
           rw [if_neg (by omega), if_neg (by omega), if_pos (by omega)]
           cases x <;> cases y <;> first | rfl | (exfalso; simp_all; done)))
       · first
         | exact Bool.noConfusion hb20
         | (
          refine nav ?_
          (refine aC_region ?_ <;> refine xL 27 q_move ?_ <;> refine xL 28 q_move ?_ <;> refine xL 29 (q_bneq Tryz.underlying4) ?_ <;> refine xL 6 q_assign ?_ <;> refine aL_end (nav ?_) <;> try dsimp only)
          refine ret_shr (Tryz.results108) rfl ?_
          unfold decB
          rw [if_neg (by omega), if_neg (by omega), if_neg (by omega)]
          cases x <;> cases y <;> first | rfl | (exfalso; simp_all; done))))
theorem r07pairs_ff (a b : Aut) (op : Int) (hma : a.moves.length ≤ 1000000) (hmb : b.moves.length ≤ 1000000) (ha : autOk a = false) (hb : autOk b = false) (hs : True) (ho : True) : AF Tryz.prog 73 [pAut a, pAut b, pInt op] (· = .tup [pTZ, pMvs [], pInt 1]) := by
 have hva := r07Valid_e a hma
 have hvb := r07Valid_e b hmb
 rw [ha] at hva
 rw [hb] at hvb
 refine AF.of_body 186 Tryz.func73 rfl Tryz.ntmps73 (Nat.le_of_ble_eq_true rfl) ?_
 intro w0 M0 vs hl hv
 obtain ⟨v0, v1, v2, rfl⟩ := len3 hl
 obtain rfl := hv 2 _ _ rfl rfl
 clear hl hv
 refine nav ?_
 (refine aC_region ?_ <;> refine s_boxa 3 5 fun h3 => ?_ <;> refine s_boxa 4 5 fun h4 => ?_ <;> refine s_alloc [(.int .i64 0), (.slice none 0 0), (.slice none 0 0)] 3 6 tZr100_LfH fun h6 => ?_ <;> refine xL 7 q_assign ?_ <;> refine xL 8 q_assign ?_ <;> refine aL_end (nav ?_) <;> try dsimp only)
 (refine aC_region ?_ <;> (refine yL 23 (q_ldao 3 tAgg25_LdS) fun v23 hv23 => ?_; cases hv23) <;> (refine cS 24 (cA Tryz.call25 (hva)) fun v24 hv24 => ?_; cases hv24) <;> refine xL 25 q_not ?_ <;> refine xL 26 q_move ?_ <;> refine kL 27 ?_ <;> refine kL 28 ?_ <;> refine kL 29 ?_ <;> refine xL 30 q_pick ?_ <;> refine aL_end (nav ?_) <;> try dsimp only) <;> (
  (first | refine cCd ?_ ?_ | refine cC ?_ ?_) <;> intro hb30
  · first
    | exact Bool.noConfusion hb30
    | (
     refine nav ?_
     (refine aC_region ?_ <;> refine xL 31 (q_build0 stTab rfl) ?_ <;> refine s_sta 6 tAgg100_LfH ?_ <;> refine xL 7 q_assign ?_ <;> refine xL 8 q_assign ?_ <;> refine aL_end (nav ?_) <;> try dsimp only)
     refine aR_ent (nilSlD (t := 7) rfl) fun _ => ?_
     exact ret_css (k := 3) 6 (by kernel_rfl) (Tryz.results73) rfl rfl rfl rfl (Nat.le_of_ble_eq_true rfl) (by decide) rfl rfl)
  · first
    | exact Bool.noConfusion hb30
    | skip)
theorem r07pairs_ft (a b : Aut) (op : Int) (hma : a.moves.length ≤ 1000000) (hmb : b.moves.length ≤ 1000000) (ha : autOk a = false) (hb : autOk b = true) (hs : True) (ho : True) : AF Tryz.prog 73 [pAut a, pAut b, pInt op] (· = .tup [pTZ, pMvs [], pInt 1]) := by
 have hva := r07Valid_e a hma
 have hvb := r07Valid_e b hmb
 rw [ha] at hva
 rw [hb] at hvb
 refine AF.of_body 186 Tryz.func73 rfl Tryz.ntmps73 (Nat.le_of_ble_eq_true rfl) ?_
 intro w0 M0 vs hl hv
 obtain ⟨v0, v1, v2, rfl⟩ := len3 hl
 obtain rfl := hv 2 _ _ rfl rfl
 clear hl hv
 refine nav ?_
 (refine aC_region ?_ <;> refine s_boxa 3 5 fun h3 => ?_ <;> refine s_boxa 4 5 fun h4 => ?_ <;> refine s_alloc [(.int .i64 0), (.slice none 0 0), (.slice none 0 0)] 3 6 tZr100_LfH fun h6 => ?_ <;> refine xL 7 q_assign ?_ <;> refine xL 8 q_assign ?_ <;> refine aL_end (nav ?_) <;> try dsimp only)
 (refine aC_region ?_ <;> (refine yL 23 (q_ldao 3 tAgg25_LdS) fun v23 hv23 => ?_; cases hv23) <;> (refine cS 24 (cA Tryz.call25 (hva)) fun v24 hv24 => ?_; cases hv24) <;> refine xL 25 q_not ?_ <;> refine xL 26 q_move ?_ <;> refine kL 27 ?_ <;> refine kL 28 ?_ <;> refine kL 29 ?_ <;> refine xL 30 q_pick ?_ <;> refine aL_end (nav ?_) <;> try dsimp only) <;> (
  (first | refine cCd ?_ ?_ | refine cC ?_ ?_) <;> intro hb30
  · first
    | exact Bool.noConfusion hb30
    | (
     refine nav ?_
     (refine aC_region ?_ <;> refine xL 31 (q_build0 stTab rfl) ?_ <;> refine s_sta 6 tAgg100_LfH ?_ <;> refine xL 7 q_assign ?_ <;> refine xL 8 q_assign ?_ <;> refine aL_end (nav ?_) <;> try dsimp only)
     refine aR_ent (nilSlD (t := 7) rfl) fun _ => ?_
     exact ret_css (k := 3) 6 (by kernel_rfl) (Tryz.results73) rfl rfl rfl rfl (Nat.le_of_ble_eq_true rfl) (by decide) rfl rfl)
  · first
    | exact Bool.noConfusion hb30
    | skip)
theorem r07pairs_tf (a b : Aut) (op : Int) (hma : a.moves.length ≤ 1000000) (hmb : b.moves.length ≤ 1000000) (ha : autOk a = true) (hb : autOk b = false) (hs : True) (ho : True) : AF Tryz.prog 73 [pAut a, pAut b, pInt op] (· = .tup [pTZ, pMvs [], pInt 1]) := by
 have hva := r07Valid_e a hma
 have hvb := r07Valid_e b hmb
 rw [ha] at hva
 rw [hb] at hvb
 refine AF.of_body 186 Tryz.func73 rfl Tryz.ntmps73 (Nat.le_of_ble_eq_true rfl) ?_
 intro w0 M0 vs hl hv
 obtain ⟨v0, v1, v2, rfl⟩ := len3 hl
 obtain rfl := hv 2 _ _ rfl rfl
 clear hl hv
 refine nav ?_
 (refine aC_region ?_ <;> refine s_boxa 3 5 fun h3 => ?_ <;> refine s_boxa 4 5 fun h4 => ?_ <;> refine s_alloc [(.int .i64 0), (.slice none 0 0), (.slice none 0 0)] 3 6 tZr100_LfH fun h6 => ?_ <;> refine xL 7 q_assign ?_ <;> refine xL 8 q_assign ?_ <;> refine aL_end (nav ?_) <;> try dsimp only)
 (refine aC_region ?_ <;> (refine yL 23 (q_ldao 3 tAgg25_LdS) fun v23 hv23 => ?_; cases hv23) <;> (refine cS 24 (cA Tryz.call25 (hva)) fun v24 hv24 => ?_; cases hv24) <;> refine xL 25 q_not ?_ <;> refine xL 26 q_move ?_ <;> (refine yL 27 (q_ldao 4 tAgg25_LdS) fun v27 hv27 => ?_; cases hv27) <;> (refine cS 28 (cA Tryz.call25 (hvb)) fun v28 hv28 => ?_; cases hv28) <;> refine xL 29 q_not ?_ <;> refine xL 30 q_pick ?_ <;> refine aL_end (nav ?_) <;> try dsimp only) <;> (
  (first | refine cCd ?_ ?_ | refine cC ?_ ?_) <;> intro hb30
  · first
    | exact Bool.noConfusion hb30
    | (
     refine nav ?_
     (refine aC_region ?_ <;> refine xL 31 (q_build0 stTab rfl) ?_ <;> refine s_sta 6 tAgg100_LfH ?_ <;> refine xL 7 q_assign ?_ <;> refine xL 8 q_assign ?_ <;> refine aL_end (nav ?_) <;> try dsimp only)
     refine aR_ent (nilSlD (t := 7) rfl) fun _ => ?_
     exact ret_css (k := 3) 6 (by kernel_rfl) (Tryz.results73) rfl rfl rfl rfl (Nat.le_of_ble_eq_true rfl) (by decide) rfl rfl)
  · first
    | exact Bool.noConfusion hb30
    | skip)
theorem r07pairs_tn (a b : Aut) (op : Int) (hma : a.moves.length ≤ 1000000) (hmb : b.moves.length ≤ 1000000) (ha : autOk a = true) (hb : autOk b = true) (hs : ¬ a.syms = b.syms) (ho : True) : AF Tryz.prog 73 [pAut a, pAut b, pInt op] (· = .tup [pTZ, pMvs [], pInt 29]) := by
 have hva := r07Valid_e a hma
 have hvb := r07Valid_e b hmb
 rw [ha] at hva
 rw [hb] at hvb
 refine AF.of_body 186 Tryz.func73 rfl Tryz.ntmps73 (Nat.le_of_ble_eq_true rfl) ?_
 intro w0 M0 vs hl hv
 obtain ⟨v0, v1, v2, rfl⟩ := len3 hl
 obtain rfl := hv 2 _ _ rfl rfl
 clear hl hv
 refine nav ?_
 (refine aC_region ?_ <;> refine s_boxa 3 5 fun h3 => ?_ <;> refine s_boxa 4 5 fun h4 => ?_ <;> refine s_alloc [(.int .i64 0), (.slice none 0 0), (.slice none 0 0)] 3 6 tZr100_LfH fun h6 => ?_ <;> refine xL 7 q_assign ?_ <;> refine xL 8 q_assign ?_ <;> refine aL_end (nav ?_) <;> try dsimp only)
 (refine aC_region ?_ <;> (refine yL 23 (q_ldao 3 tAgg25_LdS) fun v23 hv23 => ?_; cases hv23) <;> (refine cS 24 (cA Tryz.call25 (hva)) fun v24 hv24 => ?_; cases hv24) <;> refine xL 25 q_not ?_ <;> refine xL 26 q_move ?_ <;> (refine yL 27 (q_ldao 4 tAgg25_LdS) fun v27 hv27 => ?_; cases hv27) <;> (refine cS 28 (cA Tryz.call25 (hvb)) fun v28 hv28 => ?_; cases hv28) <;> refine xL 29 q_not ?_ <;> refine xL 30 q_pick ?_ <;> refine aL_end (nav ?_) <;> try dsimp only) <;> (
  (first | refine cCd ?_ ?_ | refine cC ?_ ?_) <;> intro hb30
  · first
    | exact Bool.noConfusion hb30
    | skip
  · first
    | exact Bool.noConfusion hb30
    | (
     refine nav ?_
     (refine aC_region ?_ <;> refine xL 32 (q_fldo 3 tFl25_1_LdI) ?_ <;> (refine yL 33 (q_ldo 3 tNa3_LbB) fun v33 hv33 => ?_; cases hv33) <;> refine xL 34 (q_fldo 4 tFl25_1_LdI) ?_ <;> (refine yL 35 (q_ldo 4 tNa3_LbB) fun v35 hv35 => ?_; cases hv35) <;> refine xL 36 q_neq ?_ <;> refine aL_end (nav ?_) <;> try dsimp only)
     (first | refine cCd ?_ ?_ | refine cC ?_ ?_) <;> intro hb36
     · first | exact absurd hs hb36 | skip
       refine nav ?_
       (refine aC_region ?_ <;> refine xL 37 (q_build0 stTab rfl) ?_ <;> refine s_sta 6 tAgg100_LfH ?_ <;> refine xL 7 q_assign ?_ <;> refine xL 8 q_assign ?_ <;> refine aL_end (nav ?_) <;> try dsimp only)
       refine aR_ent (nilSlD (t := 7) rfl) fun _ => ?_
       first | exact ret_css (k := 3) 6 (by kernel_rfl) (Tryz.results73) rfl rfl rfl rfl (Nat.le_of_ble_eq_true rfl) (by decide) rfl rfl | exact absurd hs hb36
     · first | exact absurd (by omega) hs | (exfalso; simp at hb30; done) | (exfalso; simp_all; done) | skip))
theorem r07pairs_to (a b : Aut) (op : Int) (hma : a.moves.length ≤ 1000000) (hmb : b.moves.length ≤ 1000000) (ha : autOk a = true) (hb : autOk b = true) (hs : a.syms = b.syms) (ho : op < 1 ∨ 4 < op) : AF Tryz.prog 73 [pAut a, pAut b, pInt op] (· = .tup [pTZ, pMvs [], pInt 2]) := by
 have hva := r07Valid_e a hma
 have hvb := r07Valid_e b hmb
 rw [ha] at hva
 rw [hb] at hvb
 refine AF.of_body 186 Tryz.func73 rfl Tryz.ntmps73 (Nat.le_of_ble_eq_true rfl) ?_
 intro w0 M0 vs hl hv
 obtain ⟨v0, v1, v2, rfl⟩ := len3 hl
 obtain rfl := hv 2 _ _ rfl rfl
 clear hl hv
 refine nav ?_
 (refine aC_region ?_ <;> refine s_boxa 3 5 fun h3 => ?_ <;> refine s_boxa 4 5 fun h4 => ?_ <;> refine s_alloc [(.int .i64 0), (.slice none 0 0), (.slice none 0 0)] 3 6 tZr100_LfH fun h6 => ?_ <;> refine xL 7 q_assign ?_ <;> refine xL 8 q_assign ?_ <;> refine aL_end (nav ?_) <;> try dsimp only)
 (refine aC_region ?_ <;> (refine yL 23 (q_ldao 3 tAgg25_LdS) fun v23 hv23 => ?_; cases hv23) <;> (refine cS 24 (cA Tryz.call25 (hva)) fun v24 hv24 => ?_; cases hv24) <;> refine xL 25 q_not ?_ <;> refine xL 26 q_move ?_ <;> (refine yL 27 (q_ldao 4 tAgg25_LdS) fun v27 hv27 => ?_; cases hv27) <;> (refine cS 28 (cA Tryz.call25 (hvb)) fun v28 hv28 => ?_; cases hv28) <;> refine xL 29 q_not ?_ <;> refine xL 30 q_pick ?_ <;> refine aL_end (nav ?_) <;> try dsimp only) <;> (
  (first | refine cCd ?_ ?_ | refine cC ?_ ?_) <;> intro hb30
  · first
    | exact Bool.noConfusion hb30
    | skip
  · first
    | exact Bool.noConfusion hb30
    | (
     refine nav ?_
     (refine aC_region ?_ <;> refine xL 32 (q_fldo 3 tFl25_1_LdI) ?_ <;> (refine yL 33 (q_ldo 3 tNa3_LbB) fun v33 hv33 => ?_; cases hv33) <;> refine xL 34 (q_fldo 4 tFl25_1_LdI) ?_ <;> (refine yL 35 (q_ldo 4 tNa3_LbB) fun v35 hv35 => ?_; cases hv35) <;> refine xL 36 q_neq ?_ <;> refine aL_end (nav ?_) <;> try dsimp only)
     (first | refine cCd ?_ ?_ | refine cC ?_ ?_) <;> intro hb36
     · first | exact absurd hs hb36 | skip
     · first | exact absurd (by omega) hs | (exfalso; simp at hb30; done) | (exfalso; simp_all; done) | skip
       refine nav ?_
       (refine aC_region ?_ <;> refine xL 38 q_move ?_ <;> refine xL 39 q_lss ?_ <;> refine xL 40 q_move ?_ <;> (refine bLd 40 (fun hb40 => ?_) (fun hb40 => ?_) <;> (first | refine kL 41 ?_ | refine xL 41 q_move ?_)) <;> (first | refine kL 42 ?_ | refine xL 42 q_gtr ?_) <;> refine xL 43 q_pick ?_ <;> refine aL_end (nav ?_) <;> try dsimp only) <;> (
        (first | refine cCd ?_ ?_ | refine cC ?_ ?_) <;> intro hb43
        · refine nav ?_
          (refine aC_region ?_ <;> refine xL 44 (q_build0 stTab rfl) ?_ <;> refine s_sta 6 tAgg100_LfH ?_ <;> refine xL 7 q_assign ?_ <;> refine xL 8 q_assign ?_ <;> refine aL_end (nav ?_) <;> try dsimp only)
          refine aR_ent (nilSlD (t := 7) rfl) fun _ => ?_
          exact ret_css (k := 3) 6 (by kernel_rfl) (Tryz.results73) rfl rfl rfl rfl (Nat.le_of_ble_eq_true rfl) (by decide) rfl rfl
        · exfalso; first | omega | (simp_all; done) | (simp_all; omega))))
theorem r07pairs_ma (a b : Aut) (op e : Int) (hma : a.moves.length ≤ 1000000) (hmb : b.moves.length ≤ 1000000) (ha : autOk a = true) (hb : autOk b = true) (hs : a.syms = b.syms) (ho : ¬ (op < 1 ∨ 4 < op)) (he : ¬ e = 0) (hm : AF Tryz.prog 27 [pAut a] (· = .tup [rawZ, pInt e])) : AF Tryz.prog 73 [pAut a, pAut b, pInt op] (· = .tup [pTZ, pMvs [], pInt e]) := by
 have hva := r07Valid_e a hma
 have hvb := r07Valid_e b hmb
 rw [ha] at hva
 rw [hb] at hvb
 refine AF.of_body 186 Tryz.func73 rfl Tryz.ntmps73 (Nat.le_of_ble_eq_true rfl) ?_
 intro w0 M0 vs hl hv
 obtain ⟨v0, v1, v2, rfl⟩ := len3 hl
 obtain rfl := hv 2 _ _ rfl rfl
 clear hl hv
 refine nav ?_
 (refine aC_region ?_ <;> refine s_boxa 3 5 fun h3 => ?_ <;> refine s_boxa 4 5 fun h4 => ?_ <;> refine s_alloc [(.int .i64 0), (.slice none 0 0), (.slice none 0 0)] 3 6 tZr100_LfH fun h6 => ?_ <;> refine xL 7 q_assign ?_ <;> refine xL 8 q_assign ?_ <;> refine aL_end (nav ?_) <;> try dsimp only)
 (refine aC_region ?_ <;> (refine yL 23 (q_ldao 3 tAgg25_LdS) fun v23 hv23 => ?_; cases hv23) <;> (refine cS 24 (cA Tryz.call25 (hva)) fun v24 hv24 => ?_; cases hv24) <;> refine xL 25 q_not ?_ <;> refine xL 26 q_move ?_ <;> (refine yL 27 (q_ldao 4 tAgg25_LdS) fun v27 hv27 => ?_; cases hv27) <;> (refine cS 28 (cA Tryz.call25 (hvb)) fun v28 hv28 => ?_; cases hv28) <;> refine xL 29 q_not ?_ <;> refine xL 30 q_pick ?_ <;> refine aL_end (nav ?_) <;> try dsimp only) <;> (
  (first | refine cCd ?_ ?_ | refine cC ?_ ?_) <;> intro hb30
  · first
    | exact Bool.noConfusion hb30
    | skip
  · first
    | exact Bool.noConfusion hb30
    | (
     refine nav ?_
     (refine aC_region ?_ <;> refine xL 32 (q_fldo 3 tFl25_1_LdI) ?_ <;> (refine yL 33 (q_ldo 3 tNa3_LbB) fun v33 hv33 => ?_; cases hv33) <;> refine xL 34 (q_fldo 4 tFl25_1_LdI) ?_ <;> (refine yL 35 (q_ldo 4 tNa3_LbB) fun v35 hv35 => ?_; cases hv35) <;> refine xL 36 q_neq ?_ <;> refine aL_end (nav ?_) <;> try dsimp only)
     (first | refine cCd ?_ ?_ | refine cC ?_ ?_) <;> intro hb36
     · exact absurd hs hb36
     · refine nav ?_
       (refine aC_region ?_ <;> refine xL 38 q_move ?_ <;> refine xL 39 q_lss ?_ <;> refine xL 40 q_move ?_ <;> (refine bLd 40 (fun hb40 => ?_) (fun hb40 => ?_) <;> (first | refine kL 41 ?_ | refine xL 41 q_move ?_)) <;> (first | refine kL 42 ?_ | refine xL 42 q_gtr ?_) <;> refine xL 43 q_pick ?_ <;> refine aL_end (nav ?_) <;> try dsimp only) <;> (
        (first | refine cCd ?_ ?_ | refine cC ?_ ?_) <;> intro hb43
        · exfalso; first | omega | (simp_all; done) | (simp_all; omega)
        · refine nav ?_
          (refine aC_region ?_ <;> (refine yL 46 (q_ldao 3 tAgg25_LdS) fun v46 hv46 => ?_; cases hv46) <;> (refine cP 47 (cA Tryz.call27 (hm)) fun va47 vb47 hva47 hvb47 => ?_; cases hvb47) <;> refine xL 45 q_move ?_ <;> refine xL 48 q_extract ?_ <;> refine xL 49 q_extract ?_ <;> refine s_alloc [(.int .i64 0), (.int .i64 0), (.slice none 0 0), (.slice none 0 0), (.slice none 0 0)] 5 9 tZr25_LfD fun h9 => ?_ <;> refine s_sta 9 tAgg25_LdS ?_ <;> refine xL 10 q_assign ?_ <;> refine aL_end (nav ?_) <;> try dsimp only)
          (refine aC_region ?_ <;> refine xL 50 q_move ?_ <;> refine xL 51 q_neq ?_ <;> refine aL_end (nav ?_) <;> try dsimp only)
          (first | refine cCd ?_ ?_ | refine cC ?_ ?_) <;> intro hb51
          · refine nav ?_
            (refine aC_region ?_ <;> refine xL 52 (q_build0 stTab rfl) ?_ <;> refine xL 53 q_move ?_ <;> refine s_sta 6 tAgg100_LfH ?_ <;> refine xL 7 q_assign ?_ <;> refine xL 8 q_assign ?_ <;> refine aL_end (nav ?_) <;> try dsimp only)
            refine aR_ent (nilSlD (t := 7) rfl) fun _ => ?_
            exact ret_css (k := 3) 6 (by kernel_rfl) (Tryz.results73) rfl rfl rfl rfl (Nat.le_of_ble_eq_true rfl) (by decide) rfl rfl
          · exact absurd (by simpa using hb51) he)))
theorem r07pairs_mb (a b A : Aut) (op e : Int) (hma : a.moves.length ≤ 1000000) (hmb : b.moves.length ≤ 1000000) (ha : autOk a = true) (hb : autOk b = true) (hs : a.syms = b.syms) (ho : ¬ (op < 1 ∨ 4 < op)) (he : ¬ e = 0) (hmA : AF Tryz.prog 27 [pAut a] (· = .tup [pAut A, pInt 0])) (hm : AF Tryz.prog 27 [pAut b] (· = .tup [rawZ, pInt e])) : AF Tryz.prog 73 [pAut a, pAut b, pInt op] (· = .tup [pTZ, pMvs [], pInt e]) := by
 have hva := r07Valid_e a hma
 have hvb := r07Valid_e b hmb
 rw [ha] at hva
 rw [hb] at hvb
 refine AF.of_body 186 Tryz.func73 rfl Tryz.ntmps73 (Nat.le_of_ble_eq_true rfl) ?_
 intro w0 M0 vs hl hv
 obtain ⟨v0, v1, v2, rfl⟩ := len3 hl
 obtain rfl := hv 2 _ _ rfl rfl
 clear hl hv
 refine nav ?_
 (refine aC_region ?_ <;> refine s_boxa 3 5 fun h3 => ?_ <;> refine s_boxa 4 5 fun h4 => ?_ <;> refine s_alloc [(.int .i64 0), (.slice none 0 0), (.slice none 0 0)] 3 6 tZr100_LfH fun h6 => ?_ <;> refine xL 7 q_assign ?_ <;> refine xL 8 q_assign ?_ <;> refine aL_end (nav ?_) <;> try dsimp only)
 (refine aC_region ?_ <;> (refine yL 23 (q_ldao 3 tAgg25_LdS) fun v23 hv23 => ?_; cases hv23) <;> (refine cS 24 (cA Tryz.call25 (hva)) fun v24 hv24 => ?_; cases hv24) <;> refine xL 25 q_not ?_ <;> refine xL 26 q_move ?_ <;> (refine yL 27 (q_ldao 4 tAgg25_LdS) fun v27 hv27 => ?_; cases hv27) <;> (refine cS 28 (cA Tryz.call25 (hvb)) fun v28 hv28 => ?_; cases hv28) <;> refine xL 29 q_not ?_ <;> refine xL 30 q_pick ?_ <;> refine aL_end (nav ?_) <;> try dsimp only) <;> (
  (first | refine cCd ?_ ?_ | refine cC ?_ ?_) <;> intro hb30
  · first
    | exact Bool.noConfusion hb30
    | skip
  · first
    | exact Bool.noConfusion hb30
    | (
     refine nav ?_
     (refine aC_region ?_ <;> refine xL 32 (q_fldo 3 tFl25_1_LdI) ?_ <;> (refine yL 33 (q_ldo 3 tNa3_LbB) fun v33 hv33 => ?_; cases hv33) <;> refine xL 34 (q_fldo 4 tFl25_1_LdI) ?_ <;> (refine yL 35 (q_ldo 4 tNa3_LbB) fun v35 hv35 => ?_; cases hv35) <;> refine xL 36 q_neq ?_ <;> refine aL_end (nav ?_) <;> try dsimp only)
     (first | refine cCd ?_ ?_ | refine cC ?_ ?_) <;> intro hb36
     · exact absurd hs hb36
     · refine nav ?_
       (refine aC_region ?_ <;> refine xL 38 q_move ?_ <;> refine xL 39 q_lss ?_ <;> refine xL 40 q_move ?_ <;> (refine bLd 40 (fun hb40 => ?_) (fun hb40 => ?_) <;> (first | refine kL 41 ?_ | refine xL 41 q_move ?_)) <;> (first | refine kL 42 ?_ | refine xL 42 q_gtr ?_) <;> refine xL 43 q_pick ?_ <;> refine aL_end (nav ?_) <;> try dsimp only) <;> (
        (first | refine cCd ?_ ?_ | refine cC ?_ ?_) <;> intro hb43
        · exfalso; first | omega | (simp_all; done) | (simp_all; omega)
        · refine nav ?_
          (refine aC_region ?_ <;> (refine yL 46 (q_ldao 3 tAgg25_LdS) fun v46 hv46 => ?_; cases hv46) <;> (refine cP 47 (cA Tryz.call27 (hmA)) fun va47 vb47 hva47 hvb47 => ?_; cases hvb47) <;> refine xL 45 q_move ?_ <;> refine xL 48 q_extract ?_ <;> refine xL 49 q_extract ?_ <;> refine s_alloc [(.int .i64 0), (.int .i64 0), (.slice none 0 0), (.slice none 0 0), (.slice none 0 0)] 5 9 tZr25_LfD fun h9 => ?_ <;> refine s_sta 9 tAgg25_LdS ?_ <;> refine xL 10 q_assign ?_ <;> refine aL_end (nav ?_) <;> try dsimp only)
          (refine aC_region ?_ <;> refine xL 50 q_move ?_ <;> refine xL 51 q_neq ?_ <;> refine aL_end (nav ?_) <;> try dsimp only)
          (first | refine cCd ?_ ?_ | refine cC ?_ ?_) <;> intro hb51
          · first | omega | exact absurd rfl hb51 | exact Bool.noConfusion hb51
          · refine nav ?_
            (refine aC_region ?_ <;> (refine yL 55 (q_ldao 4 tAgg25_LdS) fun v55 hv55 => ?_; cases hv55) <;> (refine cP 56 (cA Tryz.call27 (hm)) fun va56 vb56 hva56 hvb56 => ?_; cases hvb56) <;> refine xL 54 q_move ?_ <;> refine xL 57 q_extract ?_ <;> refine xL 58 q_extract ?_ <;> refine s_alloc [(.int .i64 0), (.int .i64 0), (.slice none 0 0), (.slice none 0 0), (.slice none 0 0)] 5 11 tZr25_LfD fun h11 => ?_ <;> refine s_sta 11 tAgg25_LdS ?_ <;> refine xL 10 q_assign ?_ <;> refine aL_end (nav ?_) <;> try dsimp only)
            (refine aC_region ?_ <;> refine xL 59 q_move ?_ <;> refine xL 60 q_neq ?_ <;> refine aL_end (nav ?_) <;> try dsimp only)
            (first | refine cCd ?_ ?_ | refine cC ?_ ?_) <;> intro hb60
            · refine nav ?_
              (refine aC_region ?_ <;> refine xL 61 (q_build0 stTab rfl) ?_ <;> refine xL 62 q_move ?_ <;> refine s_sta 6 tAgg100_LfH ?_ <;> refine xL 7 q_assign ?_ <;> refine xL 8 q_assign ?_ <;> refine aL_end (nav ?_) <;> try dsimp only)
              refine aR_ent (nilSlD (t := 7) rfl) fun _ => ?_
              exact ret_css (k := 3) 6 (by kernel_rfl) (Tryz.results73) rfl rfl rfl rfl (Nat.le_of_ble_eq_true rfl) (by decide) rfl rfl
            · exact absurd (by simpa using hb60) he)))
def x0P : PrS := ((0, 0), (-1, -1))
def RPairs (A B : Aut) (op : Int) (p : PV) : Prop := (∃ q, prodQ A B = some q ∧ p = .tup [pTabR (prodT A B op q), pMvs (q.1.map mvB), pInt 0]) ∨ (prodQ A B = none ∧ p = .tup [pTZ, pMvs [], pInt 13])
theorem own_nats_at (e : Nat) (L : List Nat) (z : Int) (n : Nat) (h : z = (n : Int)) : PV.own e 1 (L.length + 1) ((toI L).map pInt ++ [pInt z]) = .own e 1 (L ++ [n]).length ((toI (L ++ [n])).map pInt) := by rw [h]; exact own_nats e L n
set_option maxHeartbeats 8000000 in
theorem r07pairs_main (a b A B : Aut) (op : Int) (hma : a.moves.length ≤ 1000000) (hmb : b.moves.length ≤ 1000000) (ha : autOk a = true) (hb : autOk b = true) (hs : a.syms = b.syms) (ho : ¬ (op < 1 ∨ 4 < op)) (hmA : AF Tryz.prog 27 [pAut a] (· = .tup [pAut A, pInt 0])) (hmB : AF Tryz.prog 27 [pAut b] (· = .tup [pAut B, pInt 0])) (dA : DetA A) (dB : DetA B) (sA : A.syms = a.syms) (sB : B.syms = b.syms) : AF Tryz.prog 73 [pAut a, pAut b, pInt op] (RPairs A B op) := by
 have hva := r07Valid_e a hma
 have hvb := r07Valid_e b hmb
 rw [ha] at hva
 rw [hb] at hvb
 have hAB : A.syms = B.syms := by rw [sA, sB, hs]
 have hAn1 := dA.ok.n1
 have hBn1 := dB.ok.n1
 have hs0 := dA.ok.s0
 have hs1 := dA.ok.s1
 have hsN : ((A.syms.toNat : Nat) : Int) = a.syms := by omega
 have hsB : B.syms.toNat = A.syms.toNat := by rw [hAB]
 have lA := rowsA_len A A.n.toNat
 have lB := rowsA_len B B.n.toNat
 have fA := finsA_len A A.n.toNat
 have fB := finsA_len B B.n.toNat
 refine AF.of_body 186 Tryz.func73 rfl Tryz.ntmps73 (Nat.le_of_ble_eq_true rfl) ?_
 intro w0 M0 vs hl hv
 obtain ⟨v0, v1, v2, rfl⟩ := len3 hl
 obtain rfl := hv 2 _ _ rfl rfl
 clear hl hv
 refine nav ?_
 (refine aC_region ?_ <;> refine s_boxa 3 5 fun h3 => ?_ <;> refine s_boxa 4 5 fun h4 => ?_ <;> refine s_alloc [(.int .i64 0), (.slice none 0 0), (.slice none 0 0)] 3 6 tZr100_LfH fun h6 => ?_ <;> refine xL 7 q_assign ?_ <;> refine xL 8 q_assign ?_ <;> refine aL_end (nav ?_) <;> try dsimp only)
 (refine aC_region ?_ <;> (refine yL 23 (q_ldao 3 tAgg25_LdS) fun v23 hv23 => ?_; cases hv23) <;> (refine cS 24 (cA Tryz.call25 (hva)) fun v24 hv24 => ?_; cases hv24) <;> refine xL 25 q_not ?_ <;> refine xL 26 q_move ?_ <;> (refine yL 27 (q_ldao 4 tAgg25_LdS) fun v27 hv27 => ?_; cases hv27) <;> (refine cS 28 (cA Tryz.call25 (hvb)) fun v28 hv28 => ?_; cases hv28) <;> refine xL 29 q_not ?_ <;> refine xL 30 q_pick ?_ <;> refine aL_end (nav ?_) <;> try dsimp only) <;> (
  (first | refine cCd ?_ ?_ | refine cC ?_ ?_) <;> intro hb30
  · first
    | exact Bool.noConfusion hb30
    | skip
  · first
    | exact Bool.noConfusion hb30
    | (
     refine nav ?_
     (refine aC_region ?_ <;> refine xL 32 (q_fldo 3 tFl25_1_LdI) ?_ <;> (refine yL 33 (q_ldo 3 tNa3_LbB) fun v33 hv33 => ?_; cases hv33) <;> refine xL 34 (q_fldo 4 tFl25_1_LdI) ?_ <;> (refine yL 35 (q_ldo 4 tNa3_LbB) fun v35 hv35 => ?_; cases hv35) <;> refine xL 36 q_neq ?_ <;> refine aL_end (nav ?_) <;> try dsimp only)
     (first | refine cCd ?_ ?_ | refine cC ?_ ?_) <;> intro hb36
     · exact absurd hs hb36
     · refine nav ?_
       (refine aC_region ?_ <;> refine xL 38 q_move ?_ <;> refine xL 39 q_lss ?_ <;> refine xL 40 q_move ?_ <;> (refine bLd 40 (fun hb40 => ?_) (fun hb40 => ?_) <;> (first | refine kL 41 ?_ | refine xL 41 q_move ?_)) <;> (first | refine kL 42 ?_ | refine xL 42 q_gtr ?_) <;> refine xL 43 q_pick ?_ <;> refine aL_end (nav ?_) <;> try dsimp only) <;> (
        (first | refine cCd ?_ ?_ | refine cC ?_ ?_) <;> intro hb43
        · exfalso; first | omega | (simp_all; done) | (simp_all; omega)
        · refine nav ?_
          (refine aC_region ?_ <;> (refine yL 46 (q_ldao 3 tAgg25_LdS) fun v46 hv46 => ?_; cases hv46) <;> (refine cP 47 (cA Tryz.call27 (hmA)) fun va47 vb47 hva47 hvb47 => ?_; cases hvb47) <;> refine xL 45 q_move ?_ <;> refine xL 48 q_extract ?_ <;> refine xL 49 q_extract ?_ <;> refine s_alloc [(.int .i64 0), (.int .i64 0), (.slice none 0 0), (.slice none 0 0), (.slice none 0 0)] 5 9 tZr25_LfD fun h9 => ?_ <;> refine s_sta 9 tAgg25_LdS ?_ <;> refine xL 10 q_assign ?_ <;> refine aL_end (nav ?_) <;> try dsimp only)
          (refine aC_region ?_ <;> refine xL 50 q_move ?_ <;> refine xL 51 q_neq ?_ <;> refine aL_end (nav ?_) <;> try dsimp only)
          (first | refine cCd ?_ ?_ | refine cC ?_ ?_) <;> intro hb51
          · first | omega | exact absurd rfl hb51 | exact Bool.noConfusion hb51
          · refine nav ?_
            (refine aC_region ?_ <;> (refine yL 55 (q_ldao 4 tAgg25_LdS) fun v55 hv55 => ?_; cases hv55) <;> (refine cP 56 (cA Tryz.call27 (hmB)) fun va56 vb56 hva56 hvb56 => ?_; cases hvb56) <;> refine xL 54 q_move ?_ <;> refine xL 57 q_extract ?_ <;> refine xL 58 q_extract ?_ <;> refine s_alloc [(.int .i64 0), (.int .i64 0), (.slice none 0 0), (.slice none 0 0), (.slice none 0 0)] 5 11 tZr25_LfD fun h11 => ?_ <;> refine s_sta 11 tAgg25_LdS ?_ <;> refine xL 10 q_assign ?_ <;> refine aL_end (nav ?_) <;> try dsimp only)
            (refine aC_region ?_ <;> refine xL 59 q_move ?_ <;> refine xL 60 q_neq ?_ <;> refine aL_end (nav ?_) <;> try dsimp only)
            (first | refine cCd ?_ ?_ | refine cC ?_ ?_) <;> intro hb60
            · first | omega | exact absurd rfl hb60 | exact Bool.noConfusion hb60
            · refine nav ?_
              refine aC_mid (fun z : Value × Value => ⟨[(2, .int .i64 op, pInt op), (3, padd (sbase h3) 0, .val (padd (sbase h3) 0)), (4, padd (sbase h4) 0, .val (padd (sbase h4) 0)), (6, padd (sbase h6) 0, .val (padd (sbase h6) 0)), (7, .slice none 0 0, .val (.slice none 0 0)), (8, .int .i64 0, pInt 0), (12, padd (sbase z.1) 0, .val (padd (sbase z.1) 0)), (13, padd (sbase z.2) 0, .val (padd (sbase z.2) 0))], [(3, h3, .own 25 5 1 [pInt a.n, pInt a.syms, pInts a.start, pInts a.fin, pMvs a.moves]), (4, h4, .own 25 5 1 [pInt b.n, pInt b.syms, pInts b.start, pInts b.fin, pMvs b.moves]), (6, h6, .own 100 3 1 [pInt 0, .val (.slice none 0 0), .val (.slice none 0 0)]), (12, z.1, .own 100 3 1 [pInt (A.syms.toNat : Nat), .sl (finsA A A.n.toNat).length ((finsA A A.n.toNat).map pBool), .sl (rowsA A A.n.toNat).length ((rowsA A A.n.toNat).map pNats)]), (13, z.2, .own 100 3 1 [pInt (B.syms.toNat : Nat), .sl (finsA B B.n.toNat).length ((finsA B B.n.toNat).map pBool), .sl (rowsA B B.n.toNat).length ((rowsA B B.n.toNat).map pNats)])]⟩) ?_ ?_
              · (refine aC_draw (fun i => ([] : List Nat).elem i) [9, 11] (by kernel_rfl) ?_ <;> (refine yD 0 63 rfl (q_ldao 9 tAgg25_LdS) fun v63 hv63 => ?_; cases hv63) <;> (refine yD 2 65 rfl (q_ldao 11 tAgg25_LdS) fun v65 hv65 => ?_; cases hv65) <;> (refine aD_three 1 4 5 (by kernel_rfl) ?_ ?_ ?_; rotate_right; (focus ((refine aW_run rfl fun w9 M9 N9 DQ back => ?_) <;> refine s_alloc [(.int .i64 0), (.slice none 0 0), (.slice none 0 0)] 3 13 tZr100_LfH fun h13 => ?_ <;> refine aL_end (back _ (nrm ?_)) <;> (refine aD_two 1 4 (by kernel_rfl) ?_ ?_; rotate_right; (focus ((refine aW_run rfl fun w9 M9 N9 DQ back => ?_) <;> refine s_alloc [(.int .i64 0), (.slice none 0 0), (.slice none 0 0)] 3 12 tZr100_LfH fun h12 => ?_ <;> refine aL_end (back _ (nrm ?_)) <;> (refine aD_one 1 (by kernel_rfl) ?_) <;> (refine aW_call (d := 64) rfl (cA Tryz.call106 (r07table_e A dA)) fun v64 hv64 => ?_; cases hv64) <;> (refine aD_one 3 (by kernel_rfl) ?_) <;> (refine aW_call (d := 66) rfl (cA Tryz.call106 (r07table_e B dB)) fun v66 hv66 => ?_; cases hv66) <;> (refine aD_one 6 (by kernel_rfl) ?_) <;> (refine aW_run rfl fun w9 M9 N9 DQ back => ?_) <;> refine s_sta 12 tAgg100_LfH ?_ <;> refine aL_end (back _ (nrm ?_)) <;> (refine aD_one 7 (by kernel_rfl) ?_) <;> (refine aW_run rfl fun w9 M9 N9 DQ back => ?_) <;> refine s_sta 13 tAgg100_LfH ?_ <;> refine aL_end (back _ (nrm ?_)))); rotate_right; (focus ((refine aW_call (d := 64) rfl (cA Tryz.call106 (r07table_e A dA)) fun v64 hv64 => ?_; cases hv64) <;> (refine aD_two 3 4 (by kernel_rfl) ?_ ?_; rotate_right; (focus ((refine aW_run rfl fun w9 M9 N9 DQ back => ?_) <;> refine s_alloc [(.int .i64 0), (.slice none 0 0), (.slice none 0 0)] 3 12 tZr100_LfH fun h12 => ?_ <;> refine aL_end (back _ (nrm ?_)) <;> (refine aD_one 3 (by kernel_rfl) ?_) <;> (refine aW_call (d := 66) rfl (cA Tryz.call106 (r07table_e B dB)) fun v66 hv66 => ?_; cases hv66) <;> (refine aD_one 6 (by kernel_rfl) ?_) <;> (refine aW_run rfl fun w9 M9 N9 DQ back => ?_) <;> refine s_sta 12 tAgg100_LfH ?_ <;> refine aL_end (back _ (nrm ?_)) <;> (refine aD_one 7 (by kernel_rfl) ?_) <;> (refine aW_run rfl fun w9 M9 N9 DQ back => ?_) <;> refine s_sta 13 tAgg100_LfH ?_ <;> refine aL_end (back _ (nrm ?_)))); rotate_right; (focus ((refine aW_call (d := 66) rfl (cA Tryz.call106 (r07table_e B dB)) fun v66 hv66 => ?_; cases hv66) <;> (refine aD_one 4 (by kernel_rfl) ?_) <;> (refine aW_run rfl fun w9 M9 N9 DQ back => ?_) <;> refine s_alloc [(.int .i64 0), (.slice none 0 0), (.slice none 0 0)] 3 12 tZr100_LfH fun h12 => ?_ <;> refine aL_end (back _ (nrm ?_)) <;> (refine aD_one 6 (by kernel_rfl) ?_) <;> (refine aW_run rfl fun w9 M9 N9 DQ back => ?_) <;> refine s_sta 12 tAgg100_LfH ?_ <;> refine aL_end (back _ (nrm ?_)) <;> (refine aD_one 7 (by kernel_rfl) ?_) <;> (refine aW_run rfl fun w9 M9 N9 DQ back => ?_) <;> refine s_sta 13 tAgg100_LfH ?_ <;> refine aL_end (back _ (nrm ?_)))))))))); rotate_right; (focus ((refine aW_run rfl fun w9 M9 N9 DQ back => ?_) <;> refine s_alloc [(.int .i64 0), (.slice none 0 0), (.slice none 0 0)] 3 12 tZr100_LfH fun h12 => ?_ <;> refine aL_end (back _ (nrm ?_)) <;> (refine aD_two 1 5 (by kernel_rfl) ?_ ?_; rotate_right; (focus ((refine aW_run rfl fun w9 M9 N9 DQ back => ?_) <;> refine s_alloc [(.int .i64 0), (.slice none 0 0), (.slice none 0 0)] 3 13 tZr100_LfH fun h13 => ?_ <;> refine aL_end (back _ (nrm ?_)) <;> (refine aD_one 1 (by kernel_rfl) ?_) <;> (refine aW_call (d := 64) rfl (cA Tryz.call106 (r07table_e A dA)) fun v64 hv64 => ?_; cases hv64) <;> (refine aD_one 3 (by kernel_rfl) ?_) <;> (refine aW_call (d := 66) rfl (cA Tryz.call106 (r07table_e B dB)) fun v66 hv66 => ?_; cases hv66) <;> (refine aD_one 6 (by kernel_rfl) ?_) <;> (refine aW_run rfl fun w9 M9 N9 DQ back => ?_) <;> refine s_sta 12 tAgg100_LfH ?_ <;> refine aL_end (back _ (nrm ?_)) <;> (refine aD_one 7 (by kernel_rfl) ?_) <;> (refine aW_run rfl fun w9 M9 N9 DQ back => ?_) <;> refine s_sta 13 tAgg100_LfH ?_ <;> refine aL_end (back _ (nrm ?_)))); rotate_right; (focus ((refine aW_call (d := 64) rfl (cA Tryz.call106 (r07table_e A dA)) fun v64 hv64 => ?_; cases hv64) <;> (refine aD_two 3 5 (by kernel_rfl) ?_ ?_; rotate_right; (focus ((refine aW_run rfl fun w9 M9 N9 DQ back => ?_) <;> refine s_alloc [(.int .i64 0), (.slice none 0 0), (.slice none 0 0)] 3 13 tZr100_LfH fun h13 => ?_ <;> refine aL_end (back _ (nrm ?_)) <;> (refine aD_one 3 (by kernel_rfl) ?_) <;> (refine aW_call (d := 66) rfl (cA Tryz.call106 (r07table_e B dB)) fun v66 hv66 => ?_; cases hv66) <;> (refine aD_one 6 (by kernel_rfl) ?_) <;> (refine aW_run rfl fun w9 M9 N9 DQ back => ?_) <;> refine s_sta 12 tAgg100_LfH ?_ <;> refine aL_end (back _ (nrm ?_)) <;> (refine aD_one 7 (by kernel_rfl) ?_) <;> (refine aW_run rfl fun w9 M9 N9 DQ back => ?_) <;> refine s_sta 13 tAgg100_LfH ?_ <;> refine aL_end (back _ (nrm ?_)))); rotate_right; (focus ((refine aW_call (d := 66) rfl (cA Tryz.call106 (r07table_e B dB)) fun v66 hv66 => ?_; cases hv66) <;> (refine aD_one 5 (by kernel_rfl) ?_) <;> (refine aW_run rfl fun w9 M9 N9 DQ back => ?_) <;> refine s_alloc [(.int .i64 0), (.slice none 0 0), (.slice none 0 0)] 3 13 tZr100_LfH fun h13 => ?_ <;> refine aL_end (back _ (nrm ?_)) <;> (refine aD_one 6 (by kernel_rfl) ?_) <;> (refine aW_run rfl fun w9 M9 N9 DQ back => ?_) <;> refine s_sta 12 tAgg100_LfH ?_ <;> refine aL_end (back _ (nrm ?_)) <;> (refine aD_one 7 (by kernel_rfl) ?_) <;> (refine aW_run rfl fun w9 M9 N9 DQ back => ?_) <;> refine s_sta 13 tAgg100_LfH ?_ <;> refine aL_end (back _ (nrm ?_)))))))))); rotate_right; (focus ((refine aW_call (d := 64) rfl (cA Tryz.call106 (r07table_e A dA)) fun v64 hv64 => ?_; cases hv64) <;> (refine aD_three 3 4 5 (by kernel_rfl) ?_ ?_ ?_; rotate_right; (focus ((refine aW_run rfl fun w9 M9 N9 DQ back => ?_) <;> refine s_alloc [(.int .i64 0), (.slice none 0 0), (.slice none 0 0)] 3 13 tZr100_LfH fun h13 => ?_ <;> refine aL_end (back _ (nrm ?_)) <;> (refine aD_two 3 4 (by kernel_rfl) ?_ ?_; rotate_right; (focus ((refine aW_run rfl fun w9 M9 N9 DQ back => ?_) <;> refine s_alloc [(.int .i64 0), (.slice none 0 0), (.slice none 0 0)] 3 12 tZr100_LfH fun h12 => ?_ <;> refine aL_end (back _ (nrm ?_)) <;> (refine aD_one 3 (by kernel_rfl) ?_) <;> (refine aW_call (d := 66) rfl (cA Tryz.call106 (r07table_e B dB)) fun v66 hv66 => ?_; cases hv66) <;> (refine aD_one 6 (by kernel_rfl) ?_) <;> (refine aW_run rfl fun w9 M9 N9 DQ back => ?_) <;> refine s_sta 12 tAgg100_LfH ?_ <;> refine aL_end (back _ (nrm ?_)) <;> (refine aD_one 7 (by kernel_rfl) ?_) <;> (refine aW_run rfl fun w9 M9 N9 DQ back => ?_) <;> refine s_sta 13 tAgg100_LfH ?_ <;> refine aL_end (back _ (nrm ?_)))); rotate_right; (focus ((refine aW_call (d := 66) rfl (cA Tryz.call106 (r07table_e B dB)) fun v66 hv66 => ?_; cases hv66) <;> (refine aD_one 4 (by kernel_rfl) ?_) <;> (refine aW_run rfl fun w9 M9 N9 DQ back => ?_) <;> refine s_alloc [(.int .i64 0), (.slice none 0 0), (.slice none 0 0)] 3 12 tZr100_LfH fun h12 => ?_ <;> refine aL_end (back _ (nrm ?_)) <;> (refine aD_one 6 (by kernel_rfl) ?_) <;> (refine aW_run rfl fun w9 M9 N9 DQ back => ?_) <;> refine s_sta 12 tAgg100_LfH ?_ <;> refine aL_end (back _ (nrm ?_)) <;> (refine aD_one 7 (by kernel_rfl) ?_) <;> (refine aW_run rfl fun w9 M9 N9 DQ back => ?_) <;> refine s_sta 13 tAgg100_LfH ?_ <;> refine aL_end (back _ (nrm ?_))))))); rotate_right; (focus ((refine aW_run rfl fun w9 M9 N9 DQ back => ?_) <;> refine s_alloc [(.int .i64 0), (.slice none 0 0), (.slice none 0 0)] 3 12 tZr100_LfH fun h12 => ?_ <;> refine aL_end (back _ (nrm ?_)) <;> (refine aD_two 3 5 (by kernel_rfl) ?_ ?_; rotate_right; (focus ((refine aW_run rfl fun w9 M9 N9 DQ back => ?_) <;> refine s_alloc [(.int .i64 0), (.slice none 0 0), (.slice none 0 0)] 3 13 tZr100_LfH fun h13 => ?_ <;> refine aL_end (back _ (nrm ?_)) <;> (refine aD_one 3 (by kernel_rfl) ?_) <;> (refine aW_call (d := 66) rfl (cA Tryz.call106 (r07table_e B dB)) fun v66 hv66 => ?_; cases hv66) <;> (refine aD_one 6 (by kernel_rfl) ?_) <;> (refine aW_run rfl fun w9 M9 N9 DQ back => ?_) <;> refine s_sta 12 tAgg100_LfH ?_ <;> refine aL_end (back _ (nrm ?_)) <;> (refine aD_one 7 (by kernel_rfl) ?_) <;> (refine aW_run rfl fun w9 M9 N9 DQ back => ?_) <;> refine s_sta 13 tAgg100_LfH ?_ <;> refine aL_end (back _ (nrm ?_)))); rotate_right; (focus ((refine aW_call (d := 66) rfl (cA Tryz.call106 (r07table_e B dB)) fun v66 hv66 => ?_; cases hv66) <;> (refine aD_one 5 (by kernel_rfl) ?_) <;> (refine aW_run rfl fun w9 M9 N9 DQ back => ?_) <;> refine s_alloc [(.int .i64 0), (.slice none 0 0), (.slice none 0 0)] 3 13 tZr100_LfH fun h13 => ?_ <;> refine aL_end (back _ (nrm ?_)) <;> (refine aD_one 6 (by kernel_rfl) ?_) <;> (refine aW_run rfl fun w9 M9 N9 DQ back => ?_) <;> refine s_sta 12 tAgg100_LfH ?_ <;> refine aL_end (back _ (nrm ?_)) <;> (refine aD_one 7 (by kernel_rfl) ?_) <;> (refine aW_run rfl fun w9 M9 N9 DQ back => ?_) <;> refine s_sta 13 tAgg100_LfH ?_ <;> refine aL_end (back _ (nrm ?_))))))); rotate_right; (focus ((refine aW_call (d := 66) rfl (cA Tryz.call106 (r07table_e B dB)) fun v66 hv66 => ?_; cases hv66) <;> (refine aD_two 4 5 (by kernel_rfl) ?_ ?_; rotate_right; (focus ((refine aW_run rfl fun w9 M9 N9 DQ back => ?_) <;> refine s_alloc [(.int .i64 0), (.slice none 0 0), (.slice none 0 0)] 3 13 tZr100_LfH fun h13 => ?_ <;> refine aL_end (back _ (nrm ?_)) <;> (refine aD_one 4 (by kernel_rfl) ?_) <;> (refine aW_run rfl fun w9 M9 N9 DQ back => ?_) <;> refine s_alloc [(.int .i64 0), (.slice none 0 0), (.slice none 0 0)] 3 12 tZr100_LfH fun h12 => ?_ <;> refine aL_end (back _ (nrm ?_)) <;> (refine aD_one 6 (by kernel_rfl) ?_) <;> (refine aW_run rfl fun w9 M9 N9 DQ back => ?_) <;> refine s_sta 12 tAgg100_LfH ?_ <;> refine aL_end (back _ (nrm ?_)) <;> (refine aD_one 7 (by kernel_rfl) ?_) <;> (refine aW_run rfl fun w9 M9 N9 DQ back => ?_) <;> refine s_sta 13 tAgg100_LfH ?_ <;> refine aL_end (back _ (nrm ?_)))); rotate_right; (focus ((refine aW_run rfl fun w9 M9 N9 DQ back => ?_) <;> refine s_alloc [(.int .i64 0), (.slice none 0 0), (.slice none 0 0)] 3 12 tZr100_LfH fun h12 => ?_ <;> refine aL_end (back _ (nrm ?_)) <;> (refine aD_one 5 (by kernel_rfl) ?_) <;> (refine aW_run rfl fun w9 M9 N9 DQ back => ?_) <;> refine s_alloc [(.int .i64 0), (.slice none 0 0), (.slice none 0 0)] 3 13 tZr100_LfH fun h13 => ?_ <;> refine aL_end (back _ (nrm ?_)) <;> (refine aD_one 6 (by kernel_rfl) ?_) <;> (refine aW_run rfl fun w9 M9 N9 DQ back => ?_) <;> refine s_sta 12 tAgg100_LfH ?_ <;> refine aL_end (back _ (nrm ?_)) <;> (refine aD_one 7 (by kernel_rfl) ?_) <;> (refine aW_run rfl fun w9 M9 N9 DQ back => ?_) <;> refine s_sta 13 tAgg100_LfH ?_ <;> refine aL_end (back _ (nrm ?_))))))))))) <;> refine aD_end (by kernel_rfl) (nav ?_) <;> try dsimp only) <;> (
                 exact aN_join (h12, h13) ⟨rfl, rfl, rfl, rfl, rfl, rfl, rfl, rfl, trivial⟩ ⟨rfl, rfl, rfl, rfl, rfl, trivial⟩)
              · rintro ⟨r12, r13⟩
                dsimp only
                refine nav ?_
                (refine aC_region ?_ <;> refine xL 67 (q_fldo 3 tFl25_1_LdI) ?_ <;> (refine yL 68 (q_ldo 3 tNa3_LbB) fun v68 hv68 => ?_; cases hv68) <;> refine xL 69 (q_build tSt100_LfH) ?_ <;> refine s_alloc [(.int .i64 0), (.slice none 0 0), (.slice none 0 0)] 3 14 tZr100_LfH fun h14 => ?_ <;> refine s_sta 14 tAgg100_LfH ?_ <;> refine aL_end (nav ?_) <;> try dsimp only)
                refine aC_ent (nilCells (l := 14) [pInt a.syms, .own 4 1 0 [], .own 22 1 0 []] rfl rfl (fun i p p' h1 h2 => by
                 match i with
                 | 0 => cases h1; cases h2; exact .inl rfl
                 | 1 => cases h1; cases h2; exact .inr ⟨rfl, _, _, rfl⟩
                 | 2 => cases h1; cases h2; exact .inr ⟨rfl, _, _, rfl⟩
                 | i + 3 => simp at h2)) fun _ => ?_
                refine aC_ent (focusO (l := 14) (l' := 302) (j := 1) rfl rfl rfl rfl) fun i => ?_
                obtain ⟨v302, ho302⟩ := i
                refine aC_ent (focusO (l := 14) (l' := 301) (j := 2) rfl rfl rfl rfl) fun i => ?_
                obtain ⟨v301, ho301⟩ := i
                dsimp only [List.set]
                (refine aC_region ?_ <;> (refine s_litn (xs := [_, _]) 70 tEl22_LdI fun h70 ho70 => ?_; refine aL_ent (En.freeze (l := 70) (t := 70) rfl rfl) fun _ => ?_; refine aL_ent (reslot (t := 70) (p' := pNats (pairS x0P)) rfl rfl) fun _ => ?_) <;> refine s_lit1 (kk := 1) 71 tEl28_LdS fun h71 ho71 => ?_ <;> refine xL 15 q_assign ?_ <;> refine aL_end (nav ?_) <;> try dsimp only)
                refine aC_ent (relabel (l := 71) 303 rfl rfl) fun _ => ?_
                refine aC_ent (recast (l := 303) (p' := .own 22 1 ([x0P] : List PrS).length (([x0P] : List PrS).map fun x => pNats (pairS x))) rfl rfl) fun _ => ?_
                (refine aC_region ?_ <;> refine xL 72 (q_build tSt72_LfD) ?_ <;> refine s_lit1a 73 tEl23_LdR fun h73 ho73 => ?_ <;> refine xL 16 q_assign ?_ <;> refine aL_end (nav ?_) <;> try dsimp only)
                refine aC_ent (relabel (l := 73) 306 rfl rfl) fun _ => ?_
                refine aC_ent (recast (l := 306) (p' := .own 72 3 ([x0P] : List PrS).length ((([x0P] : List PrS).map mvB).flatMap cMv)) rfl rfl) fun _ => ?_
                (refine aC_region ?_ <;> refine s_mkmap 74 fun h74 ho74 => ?_ <;> refine xL 17 q_assign ?_ <;> refine aL_end (nav ?_) <;> try dsimp only)
                (refine aC_region ?_ <;> refine xL 75 q_move ?_ <;> refine xL 76 q_move ?_ <;> refine xL 77 (q_idxoN (i := 0) 303 tSl28_LdS) ?_ <;> (refine yL 78 (q_ldo 303 tNa22_LdI) fun v78 hv78 => ?_; cases hv78) <;> (refine cS 79 (cA Tryz.call107 (r07digits_e (toI (pairS x0P)) (by decide) (by decide))) fun v79 hv79 => ?_; cases hv79) <;> (refine s_mput 74 tMp135_LfB ?_; rw [show mput [] (.string (digB (toI (pairS x0P)))) (.int .i64 1) = skv (numE keyD 1 [x0P]) from rfl]) <;> refine aL_end (nav ?_) <;> try dsimp only)
                refine aC_ent (relabel (l := 74) 304 rfl rfl) fun _ => ?_
                (refine aC_region ?_ <;> refine xL 18 q_assign ?_ <;> refine aL_end (nav ?_) <;> try dsimp only)
                refine aC_loop (ι := { q : Nat × Value × Value × Value × Value × List PrS × List (List Nat) // (prodW A B).upto x0P q.1 = some (q.2.2.2.2.2.1, q.2.2.2.2.2.2) ∧ q.1 ≤ q.2.2.2.2.2.1.length ∧ q.2.1.oneCell' = true ∧ q.2.2.1.oneCell' = true ∧ q.2.2.2.1.oneCell' = true ∧ q.2.2.2.2.1.oneCell' = true }) (fun k => ⟨[(2, _, _), (3, _, _), (4, _, _), (6, _, _), (7, _, _), (8, _, _), (12, _, _), (13, _, _), (14, _, _), (17, _, _), (15, k.1.2.2.2.1, .val k.1.2.2.2.1), (16, k.1.2.2.2.2.1, .val k.1.2.2.2.2.1), (18, .int .i64 k.1.1, pInt k.1.1)], [(3, _, _), (4, _, _), (6, _, _), (12, _, _), (13, _, _), (14, h14, .own 100 3 1 [pInt a.syms, .val k.1.2.2.1, .val k.1.2.1]), (301, k.1.2.1, .own 22 1 k.1.2.2.2.2.2.2.length (k.1.2.2.2.2.2.2.map pNats)), (302, k.1.2.2.1, .own 4 1 ((k.1.2.2.2.2.2.1.take k.1.1).map (prodF A B op)).length (((k.1.2.2.2.2.2.1.take k.1.1).map (prodF A B op)).map pBool)), (303, k.1.2.2.2.1, .own 22 1 k.1.2.2.2.2.2.1.length (k.1.2.2.2.2.2.1.map fun x => pNats (pairS x))), (306, k.1.2.2.2.2.1, .own 72 3 k.1.2.2.2.2.2.1.length ((k.1.2.2.2.2.2.1.map mvB).flatMap cMv)), (304, h74, .omap (skv (numE keyD 1 k.1.2.2.2.2.2.1)))]⟩) (fun k => 2000 - k.1.1) ⟨(0, v301, v302, h71, h73, [x0P], []), rfl, Nat.zero_le _, ho301, ho302, ho71, ho73⟩ (fun a w H => H.weaken ⟨rfl, rfl, rfl, rfl, rfl, rfl, rfl, rfl, rfl, rfl, rfl, rfl, rfl, trivial⟩ ⟨rfl, rfl, rfl, rfl, rfl, rfl, rfl, rfl, rfl, rfl, rfl, trivial⟩) ?_
                rintro ⟨⟨i, r1, r2, r3, r6, o, rows⟩, hU, hi, hr1, hr2, hr3, hr6⟩
                dsimp only
                dsimp only at hU hi hr1 hr2 hr3 hr6
                obtain ⟨hOk, hRl, _⟩ := prod_ok dA dB hAB hU
                have hRl := hRl hi
                have hcap : o.length ≤ 2000 := hOk.cap
                have hfl : ((o.take i).map (prodF A B op)).length ≤ 2000 := by rw [List.length_map, List.length_take]; omega
                refine nav ?_
                (refine aC_region ?_ <;> refine xL 80 q_move ?_ <;> refine xL 81 q_move ?_ <;> refine xL 82 (q_leno 303 tSl28_LdS) ?_ <;> refine xL 83 q_lss ?_ <;> refine aL_end (nav ?_) <;> try dsimp only)
                (first | refine cCd ?_ ?_ | refine cC ?_ ?_) <;> intro hb83
                · first
                  | exact Bool.noConfusion hb83
                  | (
                   obtain ⟨x, hx⟩ := get_some (show i < o.length by omega)
                   have hxp := hOk.p x (List.mem_of_getElem? hx)
                   have hx1 : x.1.1 < A.n.toNat := hxp.1
                   have hx2 : x.1.2 < B.n.toNat := hxp.2
                   have p1 : ((toI (pairS x)).map pInt)[0 * 1]? = some (pInt (x.1.1 : Nat)) := rfl
                   have p2 : ((toI (pairS x)).map pInt)[1 * 1]? = some (pInt (x.1.2 : Nat)) := rfl
                   have hpl : (toI (pairS x)).length = 2 := rfl
                   refine nav ?_
                   (refine aC_region ?_ <;> refine s_lit0 86 tEl22_LdI fun h86 ho86 => ?_ <;> refine xL 19 q_assign ?_ <;> refine aL_end (nav ?_) <;> try dsimp only)
                   refine aC_ent (relabel (l := 86) 305 rfl rfl) fun _ => ?_
                   refine aC_ent (recast (l := 305) (p' := .own 3 1 ([] : List Nat).length ((toI []).map pInt)) rfl rfl) fun _ => ?_
                   (refine aC_region ?_ <;> refine xL 20 q_assign ?_ <;> refine aL_end (nav ?_) <;> try dsimp only)
                   refine aC_loop (ι := { q : Nat × Value × Value × Value × List PrS × List Nat // (prodW A B).row i x o q.1 = some (q.2.2.2.2.1, q.2.2.2.2.2) ∧ q.1 ≤ A.syms.toNat ∧ q.2.1.oneCell' = true ∧ q.2.2.1.oneCell' = true ∧ q.2.2.2.1.oneCell' = true }) (fun k => ⟨[(2, _, _), (3, _, _), (4, _, _), (6, _, _), (7, _, _), (8, _, _), (12, _, _), (13, _, _), (14, _, _), (17, _, _), (18, _, _), (15, k.1.2.1, .val k.1.2.1), (16, k.1.2.2.1, .val k.1.2.2.1), (19, k.1.2.2.2.1, .val k.1.2.2.2.1), (20, .int .i64 k.1.1, pInt k.1.1)], [(3, _, _), (4, _, _), (6, _, _), (12, _, _), (13, _, _), (14, _, _), (301, _, _), (302, _, _), (303, k.1.2.1, .own 22 1 k.1.2.2.2.2.1.length (k.1.2.2.2.2.1.map fun x => pNats (pairS x))), (306, k.1.2.2.1, .own 72 3 k.1.2.2.2.2.1.length ((k.1.2.2.2.2.1.map mvB).flatMap cMv)), (304, h74, .omap (skv (numE keyD 1 k.1.2.2.2.2.1))), (305, k.1.2.2.2.1, .own 3 1 k.1.2.2.2.2.2.length ((toI k.1.2.2.2.2.2).map pInt))]⟩) (fun k => A.syms.toNat - k.1.1) ⟨(0, r3, r6, h86, o, []), rfl, Nat.zero_le _, hr3, hr6, ho86⟩ (fun a w H => H.weaken ⟨rfl, rfl, rfl, rfl, rfl, rfl, rfl, rfl, rfl, rfl, rfl, rfl, rfl, rfl, rfl, trivial⟩ ⟨rfl, rfl, rfl, rfl, rfl, rfl, rfl, rfl, rfl, rfl, rfl, rfl, trivial⟩) ?_
                   rintro ⟨⟨s, r3', r6', hR, o', r⟩, hW, hsm, hr3', hr6', hRo⟩
                   dsimp only
                   dsimp only at hW hsm hr3' hr6' hRo
                   obtain ⟨hMt, hpr, hrl, _⟩ := hOk.toMet.row (fun s hs' => ⟨dA.sl _ _ hx1 hs', dB.sl _ _ hx2 (by have : s < A.syms.toNat := hs'; omega)⟩) (show s ≤ (prodW A B).m from hsm) hW
                   have hcap' : o'.length ≤ 2000 := hMt.cap
                   have hx' := preG_get hpr hx
                   have hil := lt_of_get hx'
                   have hrtl := toI_len r
                   have q1 := map_at (f := fun x => pNats (pairS x)) hx'
                   refine nav ?_
                   (refine aC_region ?_ <;> refine xL 87 q_move ?_ <;> refine xL 88 (q_fldo 3 tFl25_1_LdI) ?_ <;> (refine yL 89 (q_ldo 3 tNa3_LbB) fun v89 hv89 => ?_; cases hv89) <;> refine xL 90 q_lss ?_ <;> refine aL_end (nav ?_) <;> try dsimp only)
                   (first | refine cCd ?_ ?_ | refine cC ?_ ?_) <;> intro hb90
                   · first
                     | exact Bool.noConfusion hb90
                     | (
                      obtain ⟨y, hy⟩ : ∃ y : PrS, y = (prodW A B).step i x s := ⟨_, rfl⟩
                      have hyp : PairOk A B y := by rw [hy]; exact ⟨dA.sl _ _ hx1 (by omega), dB.sl _ _ hx2 (by omega)⟩
                      have hy11 : stepA A x.1.1 s = y.1.1 := by rw [hy]; rfl
                      have hy12 : stepA B x.1.2 s = y.1.2 := by rw [hy]; rfl
                      have hy2 : y.2 = (((i : Nat) : Int), ((s : Nat) : Int)) := by rw [hy]; rfl
                      have hym : mvB y = ⟨(i : Nat), 0, (s : Nat)⟩ := by unfold mvB; rw [hy2, if_neg (by dsimp only; omega)]
                      have e1 := map_at (f := pNats) (rowsA_get (A := A) hx1)
                      have e2 := map_at (f := pNats) (rowsA_get (A := B) hx2)
                      have e3 : ((toI (rowP A x.1.1 A.syms.toNat)).map pInt)[s * 1]? = some (pInt (y.1.1 : Nat)) := by rw [Nat.mul_one, List.getElem?_map]; unfold toI; rw [List.getElem?_map, rowP_get (by omega), hy11]; rfl
                      have e4 : ((toI (rowP B x.1.2 B.syms.toNat)).map pInt)[s * 1]? = some (pInt (y.1.2 : Nat)) := by rw [Nat.mul_one, List.getElem?_map]; unfold toI; rw [List.getElem?_map, rowP_get (by omega), hy12]; rfl
                      have e5 : (toI (rowP A x.1.1 A.syms.toNat)).length = A.syms.toNat := by rw [toI_len, rowP_len]
                      have e6 : (toI (rowP B x.1.2 B.syms.toNat)).length = B.syms.toNat := by rw [toI_len, rowP_len]
                      have hid := keyD_id dA dB hMt.p hyp
                      have hlook := num1_look keyD o' y
                      have hbd := pairs_bd dA dB hyp
                      refine nav ?_
                      (refine aC_draw (fun i => ([] : List Nat).elem i) [12, 13, 303] (by kernel_rfl) ?_ <;> refine xD 0 93 rfl (q_fldo 12 tFl100_2_LfH) ?_ <;> (refine yD 1 94 rfl (q_ldo 12 tNa28_LfB) fun v94 hv94 => ?_; cases hv94) <;> refine xD 2 95 rfl q_move ?_ <;> refine xD 3 96 rfl q_move ?_ <;> refine xD 4 97 rfl (q_idxoN 303 tSl28_LdS) ?_ <;> (refine yD 5 98 rfl (q_ldo 303 tNa22_LdI) fun v98 hv98 => ?_; cases hv98) <;> refine xD 6 99 rfl (q_idxN (i := 0) tSl22_LbB) ?_ <;> (refine yD 7 100 rfl (q_ld tNa3_LbB) fun v100 hv100 => ?_; cases hv100) <;> refine xD 8 101 rfl (q_idxN tSl28_LdS) ?_ <;> (refine yD 9 102 rfl (q_ld tNa22_LdI) fun v102 hv102 => ?_; cases hv102) <;> refine xD 10 103 rfl q_move ?_ <;> refine xD 11 104 rfl (q_idxN tSl22_LbB) ?_ <;> (refine yD 12 105 rfl (q_ld tNa3_LbB) fun v105 hv105 => ?_; cases hv105) <;> refine xD 13 106 rfl (q_fldo 13 tFl100_2_LfH) ?_ <;> (refine yD 14 107 rfl (q_ldo 13 tNa28_LfB) fun v107 hv107 => ?_; cases hv107) <;> refine xD 15 108 rfl q_move ?_ <;> refine xD 16 109 rfl q_move ?_ <;> refine xD 17 110 rfl (q_idxoN 303 tSl28_LdS) ?_ <;> (refine yD 18 111 rfl (q_ldo 303 tNa22_LdI) fun v111 hv111 => ?_; cases hv111) <;> refine xD 19 112 rfl (q_idxN (i := 1) tSl22_LbB) ?_ <;> (refine yD 20 113 rfl (q_ld tNa3_LbB) fun v113 hv113 => ?_; cases hv113) <;> refine xD 21 114 rfl (q_idxN tSl28_LdS) ?_ <;> (refine yD 22 115 rfl (q_ld tNa22_LdI) fun v115 hv115 => ?_; cases hv115) <;> refine xE 23 116 rfl q_move ?_ <;> refine xE 24 117 rfl (q_idxN tSl22_LbB) ?_ <;> (refine yE 25 118 rfl (q_ld tNa3_LbB) fun v118 hv118 => ?_; cases hv118) <;> (refine aD_one 26 (by kernel_rfl) ?_) <;> (refine aW_run rfl fun w9 M9 N9 DQ back => ?_) <;> (refine s_litn (xs := [_, _]) 119 tEl22_LdI fun h119 ho119 => ?_; refine aL_ent (En.freeze (l := 119) (t := 119) rfl rfl) fun _ => ?_; refine aL_ent (reslot (t := 119) (p' := pNats (pairS y)) rfl rfl) fun _ => ?_) <;> refine aL_end (back _ (nrm ?_)) <;> refine xE 27 21 rfl q_assign ?_ <;> refine aD_end (by kernel_rfl) (nav ?_) <;> try dsimp only)
                      (refine aC_region ?_ <;> refine xL 120 q_move ?_ <;> refine xL 121 q_move ?_ <;> (refine cS 122 (cA Tryz.call107 (r07digits_e (toI (pairS y)) (by show 2 ≤ 1000000; omega) hbd)) fun v122 hv122 => ?_; cases hv122) <;> refine xL 123 (q_lookoE 304 tMp135_LfB (hk := kok_skv _ _) (hu := hlook)) ?_ <;> refine xL 22 q_assign ?_ <;> refine aL_end (nav ?_) <;> try dsimp only)
                      (refine aC_region ?_ <;> refine xL 124 q_move ?_ <;> refine xL 125 q_eql ?_ <;> refine aL_end (nav ?_) <;> try dsimp only)
                      (first | refine cCd ?_ ?_ | refine cC ?_ ?_) <;> intro hb125
                      · first
                        | exact Bool.noConfusion hb125
                        | (
                         have hnew : ¬ posK keyD o' (keyD y) < o'.length := fun hh => by
                          unfold num1 at hb125
                          rw [if_pos hh] at hb125; omega
                         have hnew2 : ¬ posK (prodW A B).key o' ((prodW A B).key ((prodW A B).step i x s)) < o'.length := by
                          rw [← hy]
                          show ¬ posK Prod.fst o' y.1 < o'.length
                          rw [← hid]; exact hnew
                         refine nav ?_
                         (refine aC_region ?_ <;> refine xL 126 q_move ?_ <;> refine xL 127 (q_leno 303 tSl28_LdS) ?_ <;> refine xL 128 q_geq ?_ <;> refine aL_end (nav ?_) <;> try dsimp only)
                         (first | refine cCd ?_ ?_ | refine cC ?_ ?_) <;> intro hb128
                         · first
                           | exact Bool.noConfusion hb128
                           | (
                            refine nav ?_
                            (refine aC_region ?_ <;> refine xL 129 (q_build0 stTab rfl) ?_ <;> refine s_sta 6 tAgg100_LfH ?_ <;> refine xL 7 q_assign ?_ <;> refine xL 8 q_assign ?_ <;> refine aL_end (nav ?_) <;> try dsimp only)
                            refine aR_ent (nilSlD (t := 7) rfl) fun _ => ?_
                            refine ret_css (k := 3) 6 (by kernel_rfl) (Tryz.results73) rfl rfl rfl rfl (Nat.le_of_ble_eq_true rfl) (by decide) rfl (.inr ⟨?_, rfl⟩)
                            have hv := visit_no hnew2 (show (prodW A B).cap ≤ o'.length by show 2000 ≤ o'.length; omega)
                            have h1 := Srch.row_fails (Srch.row_out hW hv) (show s + 1 ≤ (prodW A B).m by show s + 1 ≤ A.syms.toNat; omega)
                            exact Srch.all_none (Srch.upto_out hU hx h1) (show i + 1 ≤ (prodW A B).cap by show i + 1 ≤ 2000; omega))
                         · first
                           | exact Bool.noConfusion hb128
                           | (
                            refine nav ?_
                            (refine aC_region ?_ <;> refine xL 130 q_move ?_ <;> refine xL 131 q_move ?_ <;> refine s_lit1 (kk := 1) 132 tEl28_LdS fun h132 ho132 => ?_ <;> (refine s_app 303 132 133 tEl28_LdS fun h133 ho133 => ?_; refine aL_ent (relabel (l := 133) 303 rfl rfl) fun _ => ?_; refine aL_ent (recast (l := 303) rfl (snoc_pr2 _ o' y)) fun _ => ?_) <;> refine xL 15 q_assign ?_ <;> refine aL_end (nav ?_) <;> try dsimp only)
                            (refine aC_region ?_ <;> refine xL 134 q_move ?_ <;> refine xL 135 q_move ?_ <;> refine xL 136 q_move ?_ <;> refine xL 137 (q_build tSt72_LfD) ?_ <;> refine s_lit1a 138 tEl23_LdR fun h138 ho138 => ?_ <;> (refine s_app 306 138 139 tEl23_LdR fun h139 ho139 => ?_; refine aL_ent (relabel (l := 139) 306 rfl rfl) fun _ => ?_; refine aL_ent (recast (l := 306) (p' := .own 72 3 (o' ++ [y]).length (((o' ++ [y]).map mvB).flatMap cMv)) rfl (by rw [← snoc_mvB, hym]; rfl)) fun _ => ?_) <;> refine xL 16 q_assign ?_ <;> refine aL_end (nav ?_) <;> try dsimp only)
                            (refine aC_region ?_ <;> refine xL 140 q_move ?_ <;> refine xL 141 (q_leno 303 tSl28_LdS) ?_ <;> refine xL 22 q_assign ?_ <;> refine aL_end (nav ?_) <;> try dsimp only)
                            (refine aC_region ?_ <;> refine xL 142 q_move ?_ <;> refine xL 143 q_move ?_ <;> (refine cS 144 (cA Tryz.call107 (r07digits_e (toI (pairS y)) (by show 2 ≤ 1000000; omega) hbd)) fun v144 hv144 => ?_; cases hv144) <;> refine xL 145 q_move ?_ <;> (refine s_mput 304 tMp135_LfB ?_; rw [show (((o' ++ [y]).length : Nat) : Int) = ((o'.length + 1 : Nat) : Int) by rw [List.length_append]; rfl, show (Value.string (digB (toI (pairS y)))) = Value.string (keyD y) from rfl, num1_put hnew]) <;> refine aL_end (nav ?_) <;> try dsimp only)
                            (refine aC_region ?_ <;> refine xL 146 q_move ?_ <;> refine xL 147 q_move ?_ <;> refine xL 148 q_sub ?_ <;> refine s_lit1 (kk := 1) 149 tEl22_LdI fun h149 ho149 => ?_ <;> (refine s_app 305 149 150 tEl22_LdI fun h150 ho150 => ?_; refine aL_ent (relabel (l := 150) 305 rfl rfl) fun _ => ?_; first | refine aL_ent (recast (l := 305) rfl (own_nats_at _ r _ o'.length (show ((o'.length + 1 : Nat) : Int) - 1 = (o'.length : Nat) by omega))) fun _ => ?_ | refine aL_ent (recast (l := 305) rfl (own_nats_at _ r _ (posK Prod.fst o' y.1) hnum)) fun _ => ?_) <;> refine xL 19 q_assign ?_ <;> refine aL_end (nav ?_) <;> try dsimp only)
                            (refine aC_region ?_ <;> refine xL 91 q_move ?_ <;> refine xL 92 q_add ?_ <;> refine xL 20 q_assign ?_ <;> refine aL_end (nav ?_) <;> try dsimp only)
                            first
                             | (exact aN_again (
                                 ⟨(s + 1, h133, h139, h150, o' ++ [y], r ++ [o'.length]), (by dsimp only; rw [hy]; exact Srch.row_snoc hW (visit_new hnew2 (show o'.length < 2000 by omega))), (by dsimp only; omega), ho133, ho139, ho150⟩
                                 ) (by dsimp only; omega) ⟨rfl, rfl, rfl, rfl, rfl, rfl, rfl, rfl, rfl, rfl, rfl, rfl, rfl, rfl, rfl, trivial⟩ ⟨rfl, rfl, rfl, rfl, rfl, rfl, rfl, rfl, rfl, rfl, rfl, rfl, trivial⟩)
                             | (exact aN_again (
                                 ⟨(s + 1, r3', r6', h150, o', r ++ [posK Prod.fst o' y.1]), (by dsimp only; rw [hy]; exact Srch.row_snoc hW (visit_old hold2)), (by dsimp only; omega), hr3', hr6', ho150⟩
                                 ) (by dsimp only; omega) ⟨rfl, rfl, rfl, rfl, rfl, rfl, rfl, rfl, rfl, rfl, rfl, rfl, rfl, rfl, rfl, trivial⟩ ⟨rfl, rfl, rfl, rfl, rfl, rfl, rfl, rfl, rfl, rfl, rfl, rfl, trivial⟩)))
                      · first
                        | exact Bool.noConfusion hb125
                        | (
                         have hold : posK keyD o' (keyD y) < o'.length := by
                          rcases Nat.lt_or_ge (posK keyD o' (keyD y)) o'.length with hh | hh
                          · exact hh
                          · unfold num1 at hb125
                            rw [if_neg (by omega)] at hb125; exact absurd rfl hb125
                         have hold2 : posK (prodW A B).key o' ((prodW A B).key ((prodW A B).step i x s)) < o'.length := by
                          rw [← hy]
                          show posK Prod.fst o' y.1 < o'.length
                          rw [← hid]; exact hold
                         have hnum : ((num1 keyD o' y : Nat) : Int) - 1 = (posK Prod.fst o' y.1 : Nat) := by
                          unfold num1
                          rw [if_pos hold, hid]; omega
                         refine nav ?_
                         (refine aC_region ?_ <;> refine xL 146 q_move ?_ <;> refine xL 147 q_move ?_ <;> refine xL 148 q_sub ?_ <;> refine s_lit1 (kk := 1) 149 tEl22_LdI fun h149 ho149 => ?_ <;> (refine s_app 305 149 150 tEl22_LdI fun h150 ho150 => ?_; refine aL_ent (relabel (l := 150) 305 rfl rfl) fun _ => ?_; first | refine aL_ent (recast (l := 305) rfl (own_nats_at _ r _ o'.length (show ((o'.length + 1 : Nat) : Int) - 1 = (o'.length : Nat) by omega))) fun _ => ?_ | refine aL_ent (recast (l := 305) rfl (own_nats_at _ r _ (posK Prod.fst o' y.1) hnum)) fun _ => ?_) <;> refine xL 19 q_assign ?_ <;> refine aL_end (nav ?_) <;> try dsimp only)
                         (refine aC_region ?_ <;> refine xL 91 q_move ?_ <;> refine xL 92 q_add ?_ <;> refine xL 20 q_assign ?_ <;> refine aL_end (nav ?_) <;> try dsimp only)
                         first
                          | (exact aN_again (
                              ⟨(s + 1, h133, h139, h150, o' ++ [y], r ++ [o'.length]), (by dsimp only; rw [hy]; exact Srch.row_snoc hW (visit_new hnew2 (show o'.length < 2000 by omega))), (by dsimp only; omega), ho133, ho139, ho150⟩
                              ) (by dsimp only; omega) ⟨rfl, rfl, rfl, rfl, rfl, rfl, rfl, rfl, rfl, rfl, rfl, rfl, rfl, rfl, rfl, trivial⟩ ⟨rfl, rfl, rfl, rfl, rfl, rfl, rfl, rfl, rfl, rfl, rfl, rfl, trivial⟩)
                          | (exact aN_again (
                              ⟨(s + 1, r3', r6', h150, o', r ++ [posK Prod.fst o' y.1]), (by dsimp only; rw [hy]; exact Srch.row_snoc hW (visit_old hold2)), (by dsimp only; omega), hr3', hr6', ho150⟩
                              ) (by dsimp only; omega) ⟨rfl, rfl, rfl, rfl, rfl, rfl, rfl, rfl, rfl, rfl, rfl, rfl, rfl, rfl, rfl, trivial⟩ ⟨rfl, rfl, rfl, rfl, rfl, rfl, rfl, rfl, rfl, rfl, rfl, rfl, trivial⟩)))
                   · first
                     | exact Bool.noConfusion hb90
                     | (
                      have hse : s = A.syms.toNat := by omega
                      subst hse
                      have hU2 := Srch.upto_snoc hU hx hW
                      have htk : o'.take (i + 1) = (o.take i) ++ [x] := by
                       rw [take_snoc hx']
                       obtain ⟨e, rfl⟩ := hpr
                       rw [List.take_append_of_le_length hi]
                      have f1 := map_at (f := pBool) (finsA_get (A := A) hx1)
                      have f2 := map_at (f := pBool) (finsA_get (A := B) hx2)
                      refine nav ?_
                      refine aC_ent (En.freeze (l := 305) (t := 19) rfl rfl) fun _ => ?_
                      rw [share_ints _ _ _ (by rw [toI_len])]
                      (refine aC_region ?_ <;> refine xL 151 (q_fldo 14 tFl100_2_LfH) ?_ <;> (refine yL 152 (q_ldo 14 tNa28_LfB) fun v152 hv152 => ?_; cases hv152) <;> refine xL 153 q_move ?_ <;> refine s_lit1 (kk := 1) 154 tEl28_LdS fun h154 ho154 => ?_ <;> (refine s_app 301 154 155 tEl28_LdS fun h155 ho155 => ?_; refine aL_ent (relabel (l := 155) 301 rfl rfl) fun _ => ?_; refine aL_ent (recast (l := 301) rfl (snoc_nats _ rows r)) fun _ => ?_) <;> refine xL 156 (q_fldo 14 tFl100_2_LfH) ?_ <;> refine s_st 14 tNa28_LfB tSz28_LfB ?_ <;> refine aL_end (nav ?_) <;> try dsimp only)
                      (refine aC_draw (fun i => ([27] : List Nat).elem i) [12, 13, 14, 303] (by kernel_rfl) ?_ <;> refine xD 0 157 rfl (q_fldo 14 tFl100_1_LfH) ?_ <;> (refine yD 1 158 rfl (q_ldo 14 tNa66_LdJ) fun v158 hv158 => ?_; cases hv158) <;> refine xD 2 159 rfl q_move ?_ <;> refine xD 3 160 rfl (q_fldo 12 tFl100_1_LfH) ?_ <;> (refine yD 4 161 rfl (q_ldo 12 tNa66_LdJ) fun v161 hv161 => ?_; cases hv161) <;> refine xD 5 162 rfl q_move ?_ <;> refine xD 6 163 rfl q_move ?_ <;> refine xD 7 164 rfl (q_idxoN 303 tSl28_LdS) ?_ <;> (refine yD 8 165 rfl (q_ldo 303 tNa22_LdI) fun v165 hv165 => ?_; cases hv165) <;> refine xD 9 166 rfl (q_idxN (i := 0) tSl22_LbB) ?_ <;> (refine yD 10 167 rfl (q_ld tNa3_LbB) fun v167 hv167 => ?_; cases hv167) <;> refine xD 11 168 rfl (q_idxN tSl66_LdJ) ?_ <;> (refine yD 12 169 rfl (q_ld tNa4_LdJ) fun v169 hv169 => ?_; cases hv169) <;> refine xD 13 170 rfl (q_fldo 13 tFl100_1_LfH) ?_ <;> (refine yD 14 171 rfl (q_ldo 13 tNa66_LdJ) fun v171 hv171 => ?_; cases hv171) <;> refine xD 15 172 rfl q_move ?_ <;> refine xE 16 173 rfl q_move ?_ <;> refine xE 17 174 rfl (q_idxoN 303 tSl28_LdS) ?_ <;> (refine yE 18 175 rfl (q_ldo 303 tNa22_LdI) fun v175 hv175 => ?_; cases hv175) <;> refine xE 19 176 rfl (q_idxN (i := 1) tSl22_LbB) ?_ <;> (refine yE 20 177 rfl (q_ld tNa3_LbB) fun v177 hv177 => ?_; cases hv177) <;> refine xE 21 178 rfl (q_idxN tSl66_LdJ) ?_ <;> (refine yE 22 179 rfl (q_ld tNa4_LdJ) fun v179 hv179 => ?_; cases hv179) <;> (refine aD_one 23 (by kernel_rfl) ?_) <;> (refine aW_call (d := 180) rfl (cA Tryz.call108 (r07holds_e op (finB A (x.1.1 : Nat)) (finB B (x.1.2 : Nat)))) fun v180 hv180 => ?_; cases hv180) <;> (refine aD_one 24 (by kernel_rfl) ?_) <;> (refine aW_run rfl fun w9 M9 N9 DQ back => ?_) <;> refine s_lit1 (kk := 1) 181 tEl66_LdR fun h181 ho181 => ?_ <;> refine aL_end (back _ (nrm ?_)) <;> (refine aD_one 25 (by kernel_rfl) ?_) <;> (refine aW_run rfl fun w9 M9 N9 DQ back => ?_) <;> refine s_app 302 181 182 tEl66_LdR fun h182 ho182 => ?_ <;> refine aL_end (back _ (nrm ?_)) <;> refine xE 26 183 rfl (q_fldo 14 tFl100_1_LfH) ?_ <;> (refine aD_one 27 (by kernel_rfl) ?_) <;> (refine aW_last rfl rfl (by kernel_rfl) fun DQ back => ?_) <;> refine s_st 14 tNa66_LdJ tSz66_LfB ?_ <;> refine aL_end (back _ (nav ?_)) <;> try dsimp only)
                      refine aC_ent (relabel (l := 182) 302 rfl rfl) fun _ => ?_
                      refine aC_ent (recast (l := 302) rfl (snoc_bools _ ((o.take i).map (prodF A B op)) (prodF A B op x))) fun _ => ?_
                      rw [show ((o.take i).map (prodF A B op)) ++ [prodF A B op x] = (o'.take (i + 1)).map (prodF A B op) by rw [htk, List.map_append]; rfl]
                      (refine aC_region ?_ <;> refine xL 84 q_move ?_ <;> refine xL 85 q_add ?_ <;> refine xL 18 q_assign ?_ <;> refine aL_end (nav ?_) <;> try dsimp only)
                      refine aN_again (
                       ⟨(i + 1, h155, h182, r3', r6', o', rows ++ [r]), hU2, (by dsimp only; omega), ho155, ho182, hr3', hr6'⟩
                       ) (by dsimp only; omega) ⟨rfl, rfl, rfl, rfl, rfl, rfl, rfl, rfl, rfl, rfl, rfl, rfl, rfl, trivial⟩ ⟨rfl, rfl, rfl, rfl, rfl, rfl, rfl, rfl, rfl, rfl, rfl, trivial⟩))
                · first
                  | exact Bool.noConfusion hb83
                  | (
                   have hio : i = o.length := by omega
                   subst hio
                   refine nav ?_
                   refine aC_ent (freezeCell (l := 14) (l' := 302) (j := 1) rfl rfl rfl rfl) fun _ => ?_
                   refine aC_ent (freezeCell (l := 14) (l' := 301) (j := 2) rfl rfl rfl rfl) fun _ => ?_
                   rw [share_natss _ _ _ rfl, share_boolss _ _ _ rfl]
                   refine aC_ent (En.freeze (l := 306) (t := 16) rfl rfl) fun _ => ?_
                   rw [show share (PV.own 72 3 o.length ((o.map mvB).flatMap cMv)) = pMvs (o.map mvB) by rw [← share_mvl _ _ _ rfl, List.length_map]]
                   (refine aC_region ?_ <;> (refine yL 184 (q_ldao 14 tAgg100_LfH) fun v184 hv184 => ?_; cases hv184) <;> refine xL 185 q_move ?_ <;> refine s_sta 6 tAgg100_LfH ?_ <;> refine xL 7 q_assign ?_ <;> refine xL 8 q_assign ?_ <;> refine aL_end (nav ?_) <;> try dsimp only)
                   refine ret_css (k := 3) 6 (by kernel_rfl) (Tryz.results73) rfl rfl rfl rfl (Nat.le_of_ble_eq_true rfl) (by decide) rfl (.inl ⟨(o, rows), Srch.all_some hU (Nat.le_refl _) (show o.length ≤ (prodW A B).cap from hcap), ?_⟩)
                   rw [List.take_length, ← hsN]; rfl))))
theorem r07pairs_e (a b : Aut) (op : Int) (hma : a.moves.length ≤ 1000000) (hmb : b.moves.length ≤ 1000000) : AF Tryz.prog 73 [pAut a, pAut b, pInt op] (· = resP a b op) := by
 unfold resP pairX
 cases ha : autOk a with
 | false =>
   rw [fit_no1 ha, if_pos (by decide)]
   cases hb : autOk b with
   | false => exact r07pairs_ff a b op hma hmb ha hb trivial trivial
   | true => exact r07pairs_ft a b op hma hmb ha hb trivial trivial
 | true =>
   cases hb : autOk b with
   | false => rw [fit_no2 hb, if_pos (by decide)]; exact r07pairs_tf a b op hma hmb ha hb trivial trivial
   | true =>
     by_cases hs : a.syms = b.syms
     · rw [fit_ok ha hb hs, if_neg (by decide)]
       by_cases ho : op < 1 ∨ 4 < op
       · rw [if_pos ho]; exact r07pairs_to a b op hma hmb ha hb hs ho
       · rw [if_neg ho]
         have hA := r07Minimal_e a hma
         have hB := r07Minimal_e b hmb
         unfold minX at hA hB
         rw [ha, if_pos rfl] at hA
         rw [hb, if_pos rfl] at hB
         unfold bothX
         cases ea : redX a with
         | error e =>
           obtain rfl := redX_err ea
           rw [ea] at hA
           exact r07pairs_ma a b op 13 hma hmb ha hb hs ho (by decide) hA
         | ok A =>
           rw [ea] at hA
           cases eb : redX b with
           | error e =>
             obtain rfl := redX_err eb
             rw [eb] at hB
             exact r07pairs_mb a b A op 13 hma hmb ha hb hs ho (by decide) hA hB
           | ok B =>
             rw [eb] at hB
             obtain ⟨dA, sA⟩ := redX_det (aok_of ha) ea
             obtain ⟨dB, sB⟩ := redX_det (aok_of hb) eb
             have h := r07pairs_main a b A B op hma hmb ha hb hs ho hA hB dA dB sA sB
             dsimp only
             cases eq : prodQ A B with
             | some q =>
               refine h.mono fun p hp => ?_
               rcases hp with ⟨q', h4, h5⟩ | ⟨h4, _⟩
               · rw [eq] at h4; cases h4; exact h5
               · rw [eq] at h4; cases h4
             | none =>
               refine h.mono fun p hp => ?_
               rcases hp with ⟨q', h4, h5⟩ | ⟨_, h5⟩
               · rw [eq] at h4; cases h4
               · exact h5
     · rw [fit_ne ha hb hs, if_pos (by decide)]; exact r07pairs_tn a b op hma hmb ha hb hs trivial
theorem pairX_zero {a b : Aut} {op e : Int} (h : pairX a b op = .error e) : ¬ e = 0 := by
 unfold pairX at h
 split at h
 · cases h; assumption
 · split at h
   · cases h; decide
   · rw [bothX_err h]; decide
theorem pairX_tok {a b A B : Aut} {op : Int} {q : List PrS × List (List Nat)} (h : pairX a b op = .ok (A, B, q)) : TOk (prodT A B op q) ∧ fitX a b = 0 := by
 unfold pairX at h
 split at h
 · cases h
 · rename_i h0
   have h0 : fitX a b = 0 := Decidable.not_not.1 h0
   split at h
   · cases h
   · exact ⟨both_tok op h0 h, h0⟩
theorem prod_born {A B : Aut} {i : Nat} {o : List PrS} {rows : List (List Nat)} (hu : (prodW A B).upto ((0, 0), (-1, -1)) i = some (o, rows)) {j : Nat} {x : PrS} (hj : 0 < j) (hx : o[j]? = some x) : ∃ i' s : Nat, i' < j ∧ x.2 = ((i' : Int), (s : Int)) := by
 obtain ⟨i', y, s, h1, _, _, rfl⟩ := Srch.born hu j x hj hx
 exact ⟨i', s, h1, rfl⟩
def resD (a b : Aut) (op : Int) : PV := match pairX a b op with
 | .ok (A, B, q) => .tup [pInts (cmpR A B op q).2, pBool (!(cmpR A B op q).1), pInt 0]
 | .error e => .tup [pInts [], pBool false, pInt e]
theorem r07differ_err (a b : Aut) (op e : Int) (he : ¬ e = 0) (hp : AF Tryz.prog 73 [pAut a, pAut b, pInt op] (· = .tup [pTZ, pMvs [], pInt e])) : AF Tryz.prog 86 [pAut a, pAut b, pInt op] (· = .tup [pInts [], pBool false, pInt e]) := by
 refine AF.of_body 57 Tryz.func86 rfl Tryz.ntmps86 (Nat.le_of_ble_eq_true rfl) ?_
 intro w0 M0 vs hl hv
 obtain ⟨v0, v1, v2, rfl⟩ := len3 hl
 obtain rfl := hv 2 _ _ rfl rfl
 clear hl hv
 refine nav ?_
 (refine aC_region ?_ <;> refine s_boxa 3 5 fun h3 => ?_ <;> refine s_boxa 4 5 fun h4 => ?_ <;> refine xL 6 q_assign ?_ <;> refine xL 7 q_assign ?_ <;> refine xL 8 q_assign ?_ <;> refine aL_end (nav ?_) <;> try dsimp only)
 (refine aC_region ?_ <;> (refine yL 16 (q_ldao 3 tAgg25_LdS) fun v16 hv16 => ?_; cases hv16) <;> (refine yL 17 (q_ldao 4 tAgg25_LdS) fun v17 hv17 => ?_; cases hv17) <;> refine xL 18 q_move ?_ <;> (refine cPx3 19 (cA Tryz.call73 hp) fun va19 vb19 vc19 hva19 hvb19 hvc19 => ?_; cases hvc19) <;> refine xL 15 q_move ?_ <;> refine xL 20 q_extract ?_ <;> refine xL 21 q_extract ?_ <;> refine xL 22 q_extract ?_ <;> refine s_alloc [(.int .i64 0), (.slice none 0 0), (.slice none 0 0)] 3 9 tZr100_LfH fun h9 => ?_ <;> refine s_sta 9 tAgg100_LfH ?_ <;> refine xL 10 q_assign ?_ <;> refine xL 11 q_assign ?_ <;> refine aL_end (nav ?_) <;> try dsimp only)
 (refine aC_region ?_ <;> refine xL 23 q_move ?_ <;> refine xL 24 q_neq ?_ <;> refine aL_end (nav ?_) <;> try dsimp only)
 (first | refine cCd ?_ ?_ | refine cC ?_ ?_) <;> intro hb24
 · refine nav ?_
   (refine aC_region ?_ <;> refine xL 25 q_move ?_ <;> refine xL 6 q_assign ?_ <;> refine xL 7 q_assign ?_ <;> refine xL 8 q_assign ?_ <;> refine aL_end (nav ?_) <;> try dsimp only)
   refine aR_ent (nilSlD (t := 6) rfl) fun _ => ?_
   exact ret_sss (Tryz.results86) rfl rfl rfl rfl
 · exact absurd (by simpa using hb24) he
set_option maxHeartbeats 2000000 in
theorem r07differ_ok (a b A B : Aut) (op : Int) (o : List PrS) (rows : List (List Nat)) (hu : (prodW A B).upto ((0, 0), (-1, -1)) 2000 = some (o, rows)) (h0 : o[0]? = some ((0, 0), (-1, -1))) (hcap : o.length ≤ 2000) (hp : AF Tryz.prog 73 [pAut a, pAut b, pInt op] (· = .tup [pTabR (prodT A B op (o, rows)), pMvs (o.map mvB), pInt 0])) : AF Tryz.prog 86 [pAut a, pAut b, pInt op] (· = .tup [pInts (cmpR A B op (o, rows)).2, pBool (!(cmpR A B op (o, rows)).1), pInt 0]) := by
 have hbk := prod_back hu h0
 have hfl : (o.map (prodF A B op)).length = o.length := List.length_map _
 have hml : (o.map mvB).length = o.length := List.length_map _
 refine AF.of_body 57 Tryz.func86 rfl Tryz.ntmps86 (Nat.le_of_ble_eq_true rfl) ?_
 intro w0 M0 vs hl hv
 obtain ⟨v0, v1, v2, rfl⟩ := len3 hl
 obtain rfl := hv 2 _ _ rfl rfl
 clear hl hv
 refine nav ?_
 (refine aC_region ?_ <;> refine s_boxa 3 5 fun h3 => ?_ <;> refine s_boxa 4 5 fun h4 => ?_ <;> refine xL 6 q_assign ?_ <;> refine xL 7 q_assign ?_ <;> refine xL 8 q_assign ?_ <;> refine aL_end (nav ?_) <;> try dsimp only)
 (refine aC_region ?_ <;> (refine yL 16 (q_ldao 3 tAgg25_LdS) fun v16 hv16 => ?_; cases hv16) <;> (refine yL 17 (q_ldao 4 tAgg25_LdS) fun v17 hv17 => ?_; cases hv17) <;> refine xL 18 q_move ?_ <;> (refine cPx3 19 (cA Tryz.call73 hp) fun va19 vb19 vc19 hva19 hvb19 hvc19 => ?_; cases hvc19) <;> refine xL 15 q_move ?_ <;> refine xL 20 q_extract ?_ <;> refine xL 21 q_extract ?_ <;> refine xL 22 q_extract ?_ <;> refine s_alloc [(.int .i64 0), (.slice none 0 0), (.slice none 0 0)] 3 9 tZr100_LfH fun h9 => ?_ <;> refine s_sta 9 tAgg100_LfH ?_ <;> refine xL 10 q_assign ?_ <;> refine xL 11 q_assign ?_ <;> refine aL_end (nav ?_) <;> try dsimp only)
 (refine aC_region ?_ <;> refine xL 23 q_move ?_ <;> refine xL 24 q_neq ?_ <;> refine aL_end (nav ?_) <;> try dsimp only)
 (first | refine cCd ?_ ?_ | refine cC ?_ ?_) <;> intro hb24
 · first | omega | exact absurd rfl hb24 | exact Bool.noConfusion hb24
 · refine nav ?_
   (refine aC_region ?_ <;> refine xL 12 q_assign ?_ <;> refine aL_end (nav ?_) <;> try dsimp only)
   refine aC_loop (ι := { k : Nat // k ≤ o.length ∧ ∀ i y, i < k → (o.map (prodF A B op))[i]? = some y → (y == true) = false }) (fun k => ⟨[(6, _, _), (7, _, _), (8, _, _), (9, _, _), (10, _, _), (12, .int .i64 k.1, pInt k.1)], [(9, _, _)]⟩) (fun k => o.length - k.1) ⟨0, by omega, by omega⟩ (fun a w H => H.weaken ⟨rfl, rfl, rfl, rfl, rfl, rfl, trivial⟩ ⟨rfl, trivial⟩) ?_
   rintro ⟨i0, hk, hp⟩
   dsimp only
   refine nav ?_
   (refine aC_region ?_ <;> refine xL 26 q_move ?_ <;> refine xL 27 (q_fldo 9 tFl100_1_LfH) ?_ <;> (refine yL 28 (q_ldo 9 tNa66_LdJ) fun v28 hv28 => ?_; cases hv28) <;> refine xL 29 (q_len tSl66_LdJ) ?_ <;> refine xL 30 q_lss ?_ <;> refine aL_end (nav ?_) <;> try dsimp only)
   (first | refine cCd ?_ ?_ | refine cC ?_ ?_) <;> intro hb30
   · first
     | exact Bool.noConfusion hb30
     | (
      obtain ⟨x, hx⟩ := get_some (show i0 < o.length by have : ((prodT A B op (o, rows)).fin).length = o.length := hfl; omega)
      have g1 : (o.map (prodF A B op))[i0]? = some (prodF A B op x) := by rw [List.getElem?_map, hx]; rfl
      have e1 := map_at (f := pBool) g1
      have hil := lt_of_get hx
      refine nav ?_
      (refine aC_region ?_ <;> refine xL 33 (q_fldo 9 tFl100_1_LfH) ?_ <;> (refine yL 34 (q_ldo 9 tNa66_LdJ) fun v34 hv34 => ?_; cases hv34) <;> refine xL 35 q_move ?_ <;> refine xL 36 (q_idxN tSl66_LdJ) ?_ <;> (refine yL 37 (q_ld tNa4_LdJ) fun v37 hv37 => ?_; cases hv37) <;> refine xL 38 q_not ?_ <;> refine aL_end (nav ?_) <;> try dsimp only)
      (first | refine cCd ?_ ?_ | refine cC ?_ ?_) <;> intro hb38
      · first
        | exact Bool.noConfusion hb38
        | (
         have hfx : prodF A B op x = false := by simpa using hb38
         refine nav ?_
         (refine aC_region ?_ <;> refine xL 31 q_move ?_ <;> refine xL 32 q_add ?_ <;> refine xL 12 q_assign ?_ <;> refine aL_end (nav ?_) <;> try dsimp only)
         refine aN_again (
          ⟨i0 + 1, by omega, fun i y hi hy => by
           by_cases e : i = i0
           · subst e; rw [g1] at hy; cases hy; rw [hfx]; rfl
           · exact hp i y (by omega) hy⟩
          ) (by dsimp only; omega) ⟨rfl, rfl, rfl, rfl, rfl, rfl, trivial⟩ ⟨rfl, trivial⟩)
      · first
        | exact Bool.noConfusion hb38
        | (
         have hfx : prodF A B op x = true := by simpa using hb38
         have hcr := cmpR_yes (q := (o, rows)) (idx_here hp g1 (by rw [hfx]; rfl))
         dsimp only at hcr
         refine nav ?_
         (refine aC_region ?_ <;> refine s_lit0 39 tEl22_LdI fun h39 ho39 => ?_ <;> refine xL 13 q_assign ?_ <;> refine aL_end (nav ?_) <;> try dsimp only)
         refine aC_ent (En.freeze (l := 39) (t := 13) rfl rfl) fun _ => ?_
         refine aC_ent (reslot (t := 13) (p' := pInts []) rfl rfl) fun _ => ?_
         (refine aC_region ?_ <;> refine xL 40 q_move ?_ <;> refine xL 14 q_assign ?_ <;> refine aL_end (nav ?_) <;> try dsimp only)
         refine aC_loop (ι := { k : Nat × List Int × Value // wayP (o.map (·.2)) i0 = wayP (o.map (·.2)) k.1 ++ k.2.1 ∧ k.1 < o.length ∧ k.2.1.length + k.1 ≤ i0 }) (fun k => ⟨[(6, _, _), (7, _, _), (8, _, _), (9, _, _), (10, _, _), (13, k.1.2.2, pInts k.1.2.1), (14, .int .i64 k.1.1, pInt k.1.1)], [(9, _, _)]⟩) (fun k => k.1.1) ⟨(i0, [], h39), by simp, hil, by simp⟩ (fun a w H => H.weaken ⟨rfl, rfl, rfl, rfl, rfl, rfl, rfl, trivial⟩ ⟨rfl, trivial⟩) ?_
         rintro ⟨⟨cur, w, r⟩, hw, hc, hl⟩
         dsimp only
         dsimp only at hw hc hl
         obtain ⟨⟨pq, f, s⟩, hx2⟩ := get_some hc
         have e3 : (o.map (·.2))[cur]? = some (f, s) := by rw [List.getElem?_map, hx2]; rfl
         refine nav ?_
         (refine aC_region ?_ <;> refine xL 41 q_move ?_ <;> refine xL 42 q_gtr ?_ <;> refine aL_end (nav ?_) <;> try dsimp only)
         (first | refine cCd ?_ ?_ | refine cC ?_ ?_) <;> intro hb42
         · first
           | exact Bool.noConfusion hb42
           | (
            obtain ⟨j, sn, hj, hjs⟩ := prod_born hu (show 0 < cur by omega) hx2
            obtain ⟨rfl, rfl⟩ : f = (j : Int) ∧ s = (sn : Int) := by cases hjs; exact ⟨rfl, rfl⟩
            have hwn := wayP_on hbk e3 (by dsimp only; omega)
            dsimp only at hwn
            rw [Int.toNat_natCast] at hwn
            have hmv : mvB (pq, (j : Int), (sn : Int)) = ⟨(j : Int), 0, (sn : Int)⟩ := by unfold mvB; rw [if_neg (by dsimp only; omega)]
            have g2 : (o.map mvB)[cur]? = some ⟨(j : Int), 0, (sn : Int)⟩ := by rw [List.getElem?_map, hx2]; show some (mvB _) = _; rw [hmv]
            have e4 : ((o.map mvB).flatMap cMv)[cur * 3 + 2]? = some (pInt (sn : Int)) := flat_at cMv_len g2 (by decide)
            have e5 : ((o.map mvB).flatMap cMv)[cur * 3 + 0]? = some (pInt (j : Int)) := flat_at cMv_len g2 (by decide)
            have hwl : (w.map pInt).length = w.length * 1 := by rw [List.length_map, Nat.mul_one]
            have hwo : (w.map pInt).all En.one = true := by rw [List.all_eq_true]; intro p hp; obtain ⟨z, _, rfl⟩ := List.mem_map.1 hp; rfl
            refine nav ?_
            (refine aC_region ?_ <;> refine xL 48 q_move ?_ <;> refine xL 49 q_move ?_ <;> refine xL 50 (q_idxN tSl23_LdI) ?_ <;> refine xL 51 (q_fld tFl72_2_LdI) ?_ <;> (refine yL 52 (q_ld tNa3_LbB) fun v52 hv52 => ?_; cases hv52) <;> refine s_lit1 (kk := 1) 53 tEl22_LdI fun h53 ho53 => ?_ <;> refine xL 54 q_move ?_ <;> (refine s_apps 53 55 tEl22_LdI (fun h55 ho55 => ?_) hwl hwo; refine aL_ent (En.freeze (l := 55) (t := 55) rfl rfl) fun _ => ?_; refine aL_ent (reslot (t := 55) (p' := pInts ((sn : Int) :: w)) rfl (by show PV.sl (1 + w.length) (pInt (sn : Int) :: shares (w.map pInt)) = _; rw [shares_eq, List.map_map, Nat.add_comm]; rfl)) fun _ => ?_) <;> refine xL 13 q_assign ?_ <;> refine aL_end (nav ?_) <;> try dsimp only)
            (refine aC_region ?_ <;> refine xL 43 q_move ?_ <;> refine xL 44 q_move ?_ <;> refine xL 45 (q_idxN tSl23_LdI) ?_ <;> refine xL 46 (q_fld tFl72_0_LdI) ?_ <;> (refine yL 47 (q_ld tNa3_LbB) fun v47 hv47 => ?_; cases hv47) <;> refine xL 14 q_assign ?_ <;> refine aL_end (nav ?_) <;> try dsimp only)
            refine aN_again (
             ⟨(j, (sn : Int) :: w, h55), by dsimp only; rw [hw, hwn, List.append_assoc]; rfl, by dsimp only; omega, by dsimp only; rw [List.length_cons]; omega⟩
             ) (by dsimp only; omega) ⟨rfl, rfl, rfl, rfl, rfl, rfl, rfl, trivial⟩ ⟨rfl, trivial⟩)
         · first
           | exact Bool.noConfusion hb42
           | (
            have hc0 : cur = 0 := by omega
            subst hc0
            have hf : f = -1 ∧ s = -1 := by rw [h0] at hx2; cases hx2; exact ⟨rfl, rfl⟩
            have hwn := wayP_end e3 (by dsimp only; omega)
            rw [hwn, List.nil_append] at hw
            refine nav ?_
            (refine aC_region ?_ <;> refine xL 56 q_move ?_ <;> refine xL 6 q_assign ?_ <;> refine xL 7 q_assign ?_ <;> refine xL 8 q_assign ?_ <;> refine aL_end (nav ?_) <;> try dsimp only)
            refine ret_sss (Tryz.results86) rfl rfl rfl ?_
            rw [hcr, hw]; rfl)))
   · first
     | exact Bool.noConfusion hb30
     | (
      have hil : i0 = o.length := by have : ((prodT A B op (o, rows)).fin).length = o.length := hfl; omega
      have hcr := cmpR_no (q := (o, rows)) (idx_none fun i y hi hy => hp i y (by rw [hfl] at hi; omega) hy)
      refine nav ?_
      (refine aC_region ?_ <;> refine xL 6 q_assign ?_ <;> refine xL 7 q_assign ?_ <;> refine xL 8 q_assign ?_ <;> refine aL_end (nav ?_) <;> try dsimp only)
      refine aR_ent (nilSlD (t := 6) rfl) fun _ => ?_
      refine ret_sss (Tryz.results86) rfl rfl rfl ?_
      rw [hcr]; rfl)
theorem r07differ_e (a b : Aut) (op : Int) (hma : a.moves.length ≤ 1000000) (hmb : b.moves.length ≤ 1000000) : AF Tryz.prog 86 [pAut a, pAut b, pInt op] (· = resD a b op) := by
 have h := r07pairs_e a b op hma hmb
 unfold resP at h
 unfold resD
 cases e : pairX a b op with
 | error f => rw [e] at h; exact r07differ_err a b op f (pairX_zero e) h
 | ok x =>
   obtain ⟨A, B, o, rows⟩ := x
   rw [e] at h
   have hf := (pairX_tok e).2
   obtain ⟨h1, h2, h3⟩ := fit_zero hf
   have hbo : bothX a b = .ok (A, B, o, rows) := by
    unfold pairX at e
    rw [if_neg (fun h => h hf)] at e
    split at e
    · cases e
    · exact e
   obtain ⟨ea, eb, eq⟩ := bothX_ok hbo
   obtain ⟨dA, sA⟩ := redX_det (aok_of h1) ea
   obtain ⟨dB, sB⟩ := redX_det (aok_of h2) eb
   have hok := (prod_ok dA dB (by rw [sA, sB, h3]) eq).1
   exact r07differ_ok a b A B op o rows eq hok.zero hok.cap h
theorem resD_C (a b : Aut) (op : Int) (ho : ¬ (op < 1 ∨ 4 < op)) : ∃ (t : Bool) (l : List Int) (e : Int), resD a b op = .tup [pInts l, pBool t, pInt e] ∧ cmpX a b op = ((decide (e = 0) && !t), l, e) := by
 unfold resD pairX cmpX
 by_cases h0 : fitX a b = 0
 · rw [if_neg (fun h => h h0), if_neg ho, if_neg (fun h => h h0)]
   cases e : bothX a b with
   | error f => exact ⟨false, [], f, rfl, by rw [bothX_err e]; rfl⟩
   | ok x =>
     obtain ⟨A, B, q⟩ := x
     exact ⟨!(cmpR A B op q).1, (cmpR A B op q).2, 0, rfl, by rw [Bool.not_not]; rfl⟩
 · rw [if_pos h0, if_pos h0]
   exact ⟨false, [], _, rfl, by rw [decide_eq_false h0]; rfl⟩
theorem r07Equivalent_c (a b : Aut) (t : Bool) (l : List Int) (e : Int) (h : AF Tryz.prog 86 [pAut a, pAut b, pInt 4] (· = .tup [pInts l, pBool t, pInt e])) : AF Tryz.prog 34 [pAut a, pAut b] (· = .tup [pBool (decide (e = 0) && !t), pInts l, pInt e]) := by
 refine AF.of_body 25 Tryz.func34 rfl Tryz.ntmps34 (Nat.le_of_ble_eq_true rfl) ?_
 intro w0 M0 vs hl hv
 obtain ⟨v0, v1, rfl⟩ := len2 hl
 clear hl hv
 refine nav ?_
 (refine aC_region ?_ <;> refine s_boxa 2 5 fun h2 => ?_ <;> refine s_boxa 3 5 fun h3 => ?_ <;> refine xL 4 q_assign ?_ <;> refine xL 5 q_assign ?_ <;> refine xL 6 q_assign ?_ <;> refine aL_end (nav ?_) <;> try dsimp only)
 (refine aC_region ?_ <;> (refine yL 11 (q_ldao 2 tAgg25_LdS) fun v11 hv11 => ?_; cases hv11) <;> (refine yL 12 (q_ldao 3 tAgg25_LdS) fun v12 hv12 => ?_; cases hv12) <;> (refine cPx3 13 (cA Tryz.call86 h) fun va13 vb13 vc13 hva13 hvb13 hvc13 => ?_; cases hvb13; cases hvc13) <;> refine xL 10 q_move ?_ <;> refine xL 14 q_extract ?_ <;> refine xL 15 q_extract ?_ <;> refine xL 16 q_extract ?_ <;> refine xL 7 q_assign ?_ <;> refine xL 8 q_assign ?_ <;> refine xL 9 q_assign ?_ <;> refine aL_end (nav ?_) <;> try dsimp only)
 (refine aC_region ?_ <;> refine xL 17 q_move ?_ <;> refine xL 18 q_eql ?_ <;> refine xL 19 q_move ?_ <;> (refine bLd 19 (fun hb19 => ?_) (fun hb19 => ?_) <;> (first | refine kL 20 ?_ | refine xL 20 q_move ?_)) <;> (first | refine kL 21 ?_ | refine xL 21 q_not ?_) <;> refine xL 22 q_pick ?_ <;> refine xL 23 q_move ?_ <;> refine xL 24 q_move ?_ <;> refine xL 4 q_assign ?_ <;> refine xL 5 q_assign ?_ <;> refine xL 6 q_assign ?_ <;> refine aL_end (nav ?_) <;> try dsimp only) <;> (
  refine ret_sss (Tryz.results34) rfl rfl rfl ?_
  first
   | (rw [decide_eq_true (show e = 0 by first | assumption | omega)]; rfl)
   | (rw [decide_eq_false (show ¬ e = 0 by first | assumption | omega)]; rfl))
theorem r07Equivalent_e (a b : Aut) (hma : a.moves.length ≤ 1000000) (hmb : b.moves.length ≤ 1000000) : AF Tryz.prog 34 [pAut a, pAut b] (· = resC (cmpX a b 4)) := by
 obtain ⟨t, l, e, h1, h2⟩ := resD_C a b 4 (by decide)
 have h := r07differ_e a b 4 hma hmb
 rw [h1] at h
 rw [h2]
 exact r07Equivalent_c a b t l e h
theorem r07Included_c (a b : Aut) (t : Bool) (l : List Int) (e : Int) (h : AF Tryz.prog 86 [pAut a, pAut b, pInt 3] (· = .tup [pInts l, pBool t, pInt e])) : AF Tryz.prog 36 [pAut a, pAut b] (· = .tup [pBool (decide (e = 0) && !t), pInts l, pInt e]) := by
 refine AF.of_body 25 Tryz.func36 rfl Tryz.ntmps36 (Nat.le_of_ble_eq_true rfl) ?_
 intro w0 M0 vs hl hv
 obtain ⟨v0, v1, rfl⟩ := len2 hl
 clear hl hv
 refine nav ?_
 (refine aC_region ?_ <;> refine s_boxa 2 5 fun h2 => ?_ <;> refine s_boxa 3 5 fun h3 => ?_ <;> refine xL 4 q_assign ?_ <;> refine xL 5 q_assign ?_ <;> refine xL 6 q_assign ?_ <;> refine aL_end (nav ?_) <;> try dsimp only)
 (refine aC_region ?_ <;> (refine yL 11 (q_ldao 2 tAgg25_LdS) fun v11 hv11 => ?_; cases hv11) <;> (refine yL 12 (q_ldao 3 tAgg25_LdS) fun v12 hv12 => ?_; cases hv12) <;> (refine cPx3 13 (cA Tryz.call86 h) fun va13 vb13 vc13 hva13 hvb13 hvc13 => ?_; cases hvb13; cases hvc13) <;> refine xL 10 q_move ?_ <;> refine xL 14 q_extract ?_ <;> refine xL 15 q_extract ?_ <;> refine xL 16 q_extract ?_ <;> refine xL 7 q_assign ?_ <;> refine xL 8 q_assign ?_ <;> refine xL 9 q_assign ?_ <;> refine aL_end (nav ?_) <;> try dsimp only)
 (refine aC_region ?_ <;> refine xL 17 q_move ?_ <;> refine xL 18 q_eql ?_ <;> refine xL 19 q_move ?_ <;> (refine bLd 19 (fun hb19 => ?_) (fun hb19 => ?_) <;> (first | refine kL 20 ?_ | refine xL 20 q_move ?_)) <;> (first | refine kL 21 ?_ | refine xL 21 q_not ?_) <;> refine xL 22 q_pick ?_ <;> refine xL 23 q_move ?_ <;> refine xL 24 q_move ?_ <;> refine xL 4 q_assign ?_ <;> refine xL 5 q_assign ?_ <;> refine xL 6 q_assign ?_ <;> refine aL_end (nav ?_) <;> try dsimp only) <;> (
  refine ret_sss (Tryz.results36) rfl rfl rfl ?_
  first
   | (rw [decide_eq_true (show e = 0 by first | assumption | omega)]; rfl)
   | (rw [decide_eq_false (show ¬ e = 0 by first | assumption | omega)]; rfl))
theorem r07Included_e (a b : Aut) (hma : a.moves.length ≤ 1000000) (hmb : b.moves.length ≤ 1000000) : AF Tryz.prog 36 [pAut a, pAut b] (· = resC (cmpX a b 3)) := by
 obtain ⟨t, l, e, h1, h2⟩ := resD_C a b 3 (by decide)
 have h := r07differ_e a b 3 hma hmb
 rw [h1] at h
 rw [h2]
 exact r07Included_c a b t l e h
def hitB (a : Aut) (n : Int) (S : List Int) (c : Nat) : Bool := decide (leastL (farL a) (nextL a (c : Nat) S) = n)
def hitS (a : Aut) (n : Int) (S : List Int) : Option Nat := (List.range a.syms.toNat).find? (hitB a n S)
def shortW (a : Aut) : Nat → List Int → List Int
 | 0, _ => []
 | n + 1, S => match hitS a n S with
   | some c => (c : Int) :: shortW a n (nextL a (c : Nat) S)
   | none => shortW a n S
def shortX (a : Aut) : List Int × Int := if autOk a = false then ([], 1) else if leastL (farL a) (closL a a.start) < 0 then ([], 10) else (shortW a (leastL (farL a) (closL a a.start)).toNat (closL a a.start), 0)
theorem find_range {p : Nat → Bool} : ∀ {m c : Nat}, c < m → (∀ j, j < c → p j = false) → p c = true → (List.range m).find? p = some c := fun {m c} h1 h2 h3 => by
 rw [List.find?_range_eq_some]
 exact ⟨h3, List.mem_range.2 h1, fun j hj => by rw [h2 j hj]; rfl⟩
theorem find_none {p : Nat → Bool} {m : Nat} (h : ∀ j, j < m → p j = false) : (List.range m).find? p = none := by
 rw [List.find?_eq_none]
 intro x hx
 rw [h x (List.mem_range.1 hx)]; decide
theorem shortW_hit {a : Aut} {n c : Nat} {S : List Int} (hc : c < a.syms.toNat) (h : ∀ j, j < c → hitB a n S j = false) (h2 : hitB a n S c = true) : shortW a (n + 1) S = (c : Int) :: shortW a n (nextL a (c : Nat) S) := by
 rw [shortW]; unfold hitS; rw [find_range hc h h2]
theorem shortW_miss {a : Aut} {n : Nat} {S : List Int} (h : ∀ j, j < a.syms.toNat → hitB a n S j = false) : shortW a (n + 1) S = shortW a n S := by
 rw [shortW]; unfold hitS; rw [find_none h]
theorem near_less {S far : List Int} {m n : Int} (h : m ≤ n) : nearL (nearL S far n) far m = nearL S far m := by
 unfold nearL
 rw [List.filter_filter]
 refine List.filter_congr fun s _ => ?_
 unfold farB
 cases far[s.toNat]? with
 | none => simp
 | some d => simp; omega
structure Shrt (a : Aut) (n : Int) (P S : List Int) : Prop where
 p : InS a P
 s : InS a S
 e : nearL P (farL a) n = nearL S (farL a) n
 l : n ≤ leastL (farL a) S
theorem near_step {a : Aut} (h : MvIn a) {n : Int} {P S : List Int} (hS : Shrt a n P S) {c : Int} (hc : 0 ≤ c) : nearL (nextL a c P) (farL a) (n - 1) = nearL (nextL a c S) (farL a) (n - 1) := by
 rw [← near_next h hS.p hc n, ← near_next h hS.s hc n, hS.e]
theorem next_nil {a : Aut} (h : MvIn a) (c : Int) : nextL a c [] = [] := by
 rw [List.eq_nil_iff_forall_not_mem]
 intro t ht
 rw [next_mem h] at ht
 induction ht with
 | base hs =>
   rw [leads_mem (fun s hs => by simp at hs)] at hs
   obtain ⟨m, _, h1, _⟩ := hs
   simp at h1
 | step _ _ _ _ ih => exact ih
theorem least_next {a : Aut} (h : MvIn a) {n : Int} {S : List Int} (hS : InS a S) (hl : n ≤ leastL (farL a) S) {c : Int} (hc : 0 ≤ c) : leastL (farL a) (nextL a c S) < 0 ∨ n - 1 ≤ leastL (farL a) (nextL a c S) := by
 obtain ⟨L, hL⟩ : ∃ L, L = leastL (farL a) (nextL a c S) := ⟨_, rfl⟩
 rw [← hL]
 by_cases h0 : L < 0
 · exact .inl h0
 · refine .inr ?_
   by_cases h1 : n - 1 ≤ L
   · exact h1
   · exfalso
     have h2 := near_next h hS hc (L + 1)
     rw [show L + 1 - 1 = L by omega] at h2
     have h3 : ¬ (nearL (nextL a c S) (farL a) L).length = 0 := fun hh => (least_near (next_in h c S) L).1 hh ⟨by omega, by omega⟩
     have h4 : ¬ (nearL S (farL a) (L + 1)).length = 0 := fun hh => by
      rw [List.eq_nil_of_length_eq_zero hh, next_nil h] at h2
      rw [← h2] at h3
      exact h3 rfl
     have h5 := fun hh => h4 ((least_near hS (L + 1)).2 hh)
     have h6 := Decidable.not_not.1 h5
     omega
theorem hit_iff {a : Aut} (h : MvIn a) {n : Int} {P S : List Int} (hS : Shrt a n P S) (hn : 1 ≤ n) (c : Nat) : (0 < (nearL (nextL a (c : Nat) P) (farL a) (n - 1)).length) ↔ hitB a (n - 1) S c = true := by
 unfold hitB
 rw [near_step h hS (by omega), decide_eq_true_eq]
 have h1 := least_near (next_in h (c : Nat) S) (n - 1)
 have h2 := least_next h hS.s hS.l (c := (c : Nat)) (by omega)
 constructor
 · intro h3
   have h4 : 0 ≤ leastL (farL a) (nextL a (c : Nat) S) ∧ leastL (farL a) (nextL a (c : Nat) S) ≤ n - 1 := Decidable.not_not.1 fun h5 => by have := h1.2 h5; omega
   omega
 · intro h3
   have h4 : ¬ (nearL (nextL a (c : Nat) S) (farL a) (n - 1)).length = 0 := fun h5 => h1.1 h5 ⟨by omega, by omega⟩
   omega
theorem Shrt.hit {a : Aut} (h : MvIn a) {n : Int} {P S : List Int} (hS : Shrt a n P S) {c : Nat} (hc : hitB a (n - 1) S c = true) : Shrt a (n - 1) (nearL (nextL a (c : Nat) P) (farL a) (n - 1)) (nextL a (c : Nat) S) :=
 ⟨near_in (next_in h _ _) _ _, next_in h _ _, by rw [near_less (Int.le_refl _)]; exact near_step h hS (by omega), by unfold hitB at hc; rw [decide_eq_true_eq] at hc; omega⟩
theorem Shrt.miss {a : Aut} {n : Int} {P S : List Int} (hS : Shrt a n P S) : Shrt a (n - 1) P S :=
 ⟨hS.p, hS.s, by rw [← near_less (S := P) (n := n) (by omega), hS.e, near_less (by omega)], by have := hS.l; omega⟩
set_option maxHeartbeats 2000000 in
theorem aShortest_e (a : Aut) : AF Tryz.prog 30 [pAut a] (· = .tup [pInts (shortX a).1, pInt (shortX a).2]) := by
 refine AF.of_body 81 Tryz.func30 rfl Tryz.ntmps30 (Nat.le_of_ble_eq_true rfl) ?_
 intro w0 M0 vs hl hv
 obtain ⟨v0, rfl⟩ := len1 hl
 clear hl hv
 refine nav ?_
 (refine aC_region ?_ <;> refine s_boxa 1 5 fun h1 => ?_ <;> refine xL 2 q_assign ?_ <;> refine xL 3 q_assign ?_ <;> refine aL_end (nav ?_) <;> try dsimp only)
 (refine aC_region ?_ <;> (refine yL 13 (q_ldao 1 tAgg25_LdS) fun v13 hv13 => ?_; cases hv13) <;> (refine cS 14 (cA Tryz.call24 (aValid_e a)) fun v14 hv14 => ?_; cases hv14) <;> refine xL 15 q_not ?_ <;> refine aL_end (nav ?_) <;> try dsimp only)
 (first | refine cCd ?_ ?_ | refine cC ?_ ?_) <;> intro hb15
 · first
   | exact Bool.noConfusion hb15
   | (
    refine nav ?_
    (refine aC_region ?_ <;> refine xL 2 q_assign ?_ <;> refine xL 3 q_assign ?_ <;> refine aL_end (nav ?_) <;> try dsimp only)
    refine aR_ent (nilSlD (t := 2) rfl) fun _ => ?_
    refine ret_ss (Tryz.results30) rfl rfl ?_
    unfold shortX
    rw [if_pos (by simpa using hb15)]; rfl)
 · first
   | exact Bool.noConfusion hb15
   | (
    have hok : autOk a = true := by simpa using hb15
    have hA := aok_of hok
    have hn1 := hA.n1
    have hs0 := hA.s0
    have hs1 := hA.s1
    have hsN : ((a.syms.toNat : Nat) : Int) = a.syms := by omega
    have hfl := (farL_ok a).len
    have hcl := closL_len hA.mi hA.st
    have hci := closL_in hA.mi hA.st
    obtain ⟨S0, hS0⟩ : ∃ S0, S0 = closL a a.start := ⟨_, rfl⟩
    refine nav ?_
    (refine aC_draw (fun i => ([] : List Nat).elem i) [1] (by kernel_rfl) ?_ <;> (refine yD 0 16 rfl (q_ldao 1 tAgg25_LdS) fun v16 hv16 => ?_; cases hv16) <;> (refine yD 2 18 rfl (q_ldao 1 tAgg25_LdS) fun v18 hv18 => ?_; cases hv18) <;> (refine aD_one 1 (by kernel_rfl) ?_) <;> (refine aW_call (d := 17) rfl (cA Tryz.call58 (aGraphOf_e a hA)) fun v17 hv17 => ?_; cases hv17) <;> (refine aD_one 3 (by kernel_rfl) ?_) <;> (refine aW_run rfl fun w9 M9 N9 DQ back => ?_) <;> (refine cO 19 (cA Tryz.call59 (aDistances_e a hA)) fun v19 ho19 => ?_; refine aL_ent (En.freeze (l := 19) (t := 19) rfl rfl) fun _ => ?_; rw [share_ints _ _ _ hfl.symm]) <;> refine aL_end (back _ (nrm ?_)) <;> refine xE 4 4 rfl q_assign ?_ <;> refine xE 5 5 rfl q_assign ?_ <;> refine aD_end (by kernel_rfl) (nav ?_) <;> try dsimp only)
    (refine aC_region ?_ <;> refine xL 20 q_move ?_ <;> refine xL 21 (q_fldo 1 tFl25_2_LdI) ?_ <;> (refine yL 22 (q_ldo 1 tNa22_LdI) fun v22 hv22 => ?_; cases hv22) <;> (refine cO 23 (cA Tryz.call61 (aClosure_e a a.start hn1 hA.mi hA.st)) fun v23 ho23 => ?_; refine aL_ent (En.freeze (l := 23) (t := 23) rfl rfl) fun _ => ?_; rw [share_ints _ _ _ rfl, ← hS0]) <;> refine xL 6 q_assign ?_ <;> refine aL_end (nav ?_) <;> try dsimp only)
    rw [← hS0] at hcl hci
    (refine aC_region ?_ <;> refine xL 7 q_assign ?_ <;> refine aL_end (nav ?_) <;> try dsimp only)
    (refine aC_region ?_ <;> refine xL 24 q_move ?_ <;> refine xL 25 (q_len tSl22_LbB) ?_ <;> refine xL 26 q_move ?_ <;> refine aL_end (nav ?_) <;> try dsimp only)
    refine aC_loop (ι := { k : Nat // k ≤ S0.length }) (fun k => ⟨[(1, _, _), (2, _, _), (3, _, _), (4, _, _), (5, _, _), (6, _, _), (24, _, _), (25, _, _), (7, .int .i64 ((S0.take k.1).foldl (bestF (farL a)) (-1)), pInt ((S0.take k.1).foldl (bestF (farL a)) (-1))), (26, .int .i64 k.1, pInt k.1)], [(1, _, _)]⟩) (fun k => S0.length - k.1) ⟨0, Nat.zero_le _⟩ (fun a w H => H.weaken ⟨rfl, rfl, rfl, rfl, rfl, rfl, rfl, rfl, rfl, rfl, trivial⟩ ⟨rfl, trivial⟩) ?_
    rintro ⟨k, hk⟩
    dsimp only
    refine nav ?_
    (refine aC_region ?_ <;> refine xL 27 q_lss ?_ <;> refine aL_end (nav ?_) <;> try dsimp only)
    (first | refine cCd ?_ ?_ | refine cC ?_ ?_) <;> intro hb27
    · first
      | exact Bool.noConfusion hb27
      | (
       obtain ⟨x, hx⟩ := get_some (show k < S0.length by omega)
       have e1 := map_at (f := pInt) hx
       have hx2 := hci x (List.mem_of_getElem? hx)
       obtain ⟨d, hd⟩ := get_some (show x.toNat < (farL a).length by omega)
       have e2 := map_at (f := pInt) hd
       obtain ⟨b, hbE⟩ : ∃ b, b = (S0.take k).foldl (bestF (farL a)) (-1) := ⟨_, rfl⟩
       have hst : (S0.take (k + 1)).foldl (bestF (farL a)) (-1) = bestF (farL a) b x := by rw [take_snoc hx, List.foldl_append, ← hbE]; rfl
       rw [show bestF (farL a) b x = if 0 ≤ d ∧ (b < 0 ∨ d < b) then d else b by unfold bestF; rw [hd]] at hst
       rw [← hbE]
       refine nav ?_
       (refine aC_region ?_ <;> refine xL 28 (q_idxN tSl22_LbB) ?_ <;> (refine yL 29 (q_ld tNa3_LbB) fun v29 hv29 => ?_; cases hv29) <;> refine xL 9 q_assign ?_ <;> refine aL_end (nav ?_) <;> try dsimp only)
       (refine aC_region ?_ <;> refine xL 30 q_move ?_ <;> refine xL 31 q_move ?_ <;> refine xL 32 (q_idx tSl22_LbB) ?_ <;> (refine yL 33 (q_ld tNa3_LbB) fun v33 hv33 => ?_; cases hv33) <;> refine xL 34 q_geq ?_ <;> refine xL 35 q_move ?_ <;> (refine bLd 35 (fun hb35 => ?_) (fun hb35 => ?_) <;> (first | refine kL 36 ?_ | refine xL 36 q_move ?_)) <;> (first | refine kL 37 ?_ | refine xL 37 q_lss ?_) <;> (first | refine kL 38 ?_ | refine xL 38 q_move ?_) <;> (first | refine kL 39 ?_ | (refine bLd 38 (fun hb38 => ?_) (fun hb38 => ?_) <;> (first | refine kL 39 ?_ | refine xL 39 q_move ?_))) <;> (first | refine kL 40 ?_ | refine xL 40 q_move ?_) <;> (first | refine kL 41 ?_ | refine xL 41 (q_idx tSl22_LbB) ?_) <;> (first | refine kL 42 ?_ | (refine yL 42 (q_ld tNa3_LbB) fun v42 hv42 => ?_; cases hv42)) <;> (first | refine kL 43 ?_ | refine xL 43 q_move ?_) <;> (first | refine kL 44 ?_ | refine xL 44 q_lss ?_) <;> (first | refine kL 45 ?_ | refine xL 45 q_pick ?_) <;> refine xL 46 q_pick ?_ <;> refine aL_end (nav ?_) <;> try dsimp only) <;> (
        (first | refine cCd ?_ ?_ | refine cC ?_ ?_) <;> intro hb46
        · first
          | exact Bool.noConfusion hb46
          | (
           refine nav ?_
           (refine aC_region ?_ <;> refine xL 47 q_move ?_ <;> refine xL 48 q_move ?_ <;> refine xL 49 (q_idx tSl22_LbB) ?_ <;> (refine yL 50 (q_ld tNa3_LbB) fun v50 hv50 => ?_; cases hv50) <;> refine xL 7 q_assign ?_ <;> refine aL_end (nav ?_) <;> try dsimp only)
           (refine aC_region ?_ <;> refine xL 51 q_add ?_ <;> refine xL 26 q_move ?_ <;> refine aL_end (nav ?_) <;> try dsimp only)
           first | rw [show d = (S0.take (k + 1)).foldl (bestF (farL a)) (-1) by rw [hst, if_pos (by first | omega | (simp_all; omega))]] | rw [show b = (S0.take (k + 1)).foldl (bestF (farL a)) (-1) by rw [hst, if_neg (by first | omega | (simp_all; omega))]]
           refine aN_again (
            ⟨k + 1, lt_of_get hx⟩
            ) (by dsimp only; omega) ⟨rfl, rfl, rfl, rfl, rfl, rfl, rfl, rfl, rfl, rfl, trivial⟩ ⟨rfl, trivial⟩)
        · first
          | exact Bool.noConfusion hb46
          | (
           refine nav ?_
           (refine aC_region ?_ <;> refine xL 51 q_add ?_ <;> refine xL 26 q_move ?_ <;> refine aL_end (nav ?_) <;> try dsimp only)
           first | rw [show d = (S0.take (k + 1)).foldl (bestF (farL a)) (-1) by rw [hst, if_pos (by first | omega | (simp_all; omega))]] | rw [show b = (S0.take (k + 1)).foldl (bestF (farL a)) (-1) by rw [hst, if_neg (by first | omega | (simp_all; omega))]]
           refine aN_again (
            ⟨k + 1, lt_of_get hx⟩
            ) (by dsimp only; omega) ⟨rfl, rfl, rfl, rfl, rfl, rfl, rfl, rfl, rfl, rfl, trivial⟩ ⟨rfl, trivial⟩)))
    · first
      | exact Bool.noConfusion hb27
      | (
       rw [List.take_of_length_le (show S0.length ≤ k by omega), show S0.foldl (bestF (farL a)) (-1) = leastL (farL a) S0 from rfl]
       obtain ⟨L, hL⟩ : ∃ L, L = leastL (farL a) S0 := ⟨_, rfl⟩
       rw [← hL]
       refine nav ?_
       (refine aC_region ?_ <;> refine xL 52 q_move ?_ <;> refine xL 53 q_lss ?_ <;> refine aL_end (nav ?_) <;> try dsimp only)
       (first | refine cCd ?_ ?_ | refine cC ?_ ?_) <;> intro hb53
       · first
         | exact Bool.noConfusion hb53
         | (
          refine nav ?_
          (refine aC_region ?_ <;> refine xL 2 q_assign ?_ <;> refine xL 3 q_assign ?_ <;> refine aL_end (nav ?_) <;> try dsimp only)
          refine aR_ent (nilSlD (t := 2) rfl) fun _ => ?_
          refine ret_ss (Tryz.results30) rfl rfl ?_
          unfold shortX
          rw [if_neg (by rw [hok]; decide), ← hS0, ← hL, if_pos (by omega)]; rfl)
       · first
         | exact Bool.noConfusion hb53
         | (
          obtain ⟨N, rfl⟩ : ∃ N : Nat, L = (N : Int) := ⟨L.toNat, by omega⟩
          have hsx : shortX a = (shortW a N S0, 0) := by
           unfold shortX
           rw [if_neg (by rw [hok]; decide), ← hS0, ← hL, if_neg (by omega), Int.toNat_natCast]
          have hin0 : InS a S0 := hci
          have hN : N ≤ 2000 := by
           obtain ⟨h1, _, _⟩ := least_spec (farL a) S0 (-1) (by omega)
           have h2 : leastL (farL a) S0 = (N : Int) := hL.symm
           unfold leastL at h2
           rw [h2] at h1
           rcases h1 with h1 | ⟨s, hs, h6, h7⟩
           · omega
           · have h8 := (farL_ok a).hi _ (List.mem_of_getElem? h6)
             have h9 := cntD_le (farL a)
             omega
          refine nav ?_
          (refine aC_region ?_ <;> refine xL 10 q_assign ?_ <;> refine aL_end (nav ?_) <;> try dsimp only)
          refine aC_ent (nilOwn 200 3 1 rfl) fun _ => ?_
          refine aC_loop (ι := { q : Int × List Int × Value × List Int × Value × List Int // (∃ m : Nat, q.1 = (m : Int) ∧ m ≤ N ∧ q.2.1 ++ shortW a m q.2.2.2.2.2 = shortW a N S0 ∧ q.2.1.length + m ≤ N) ∧ Shrt a q.1 q.2.2.2.1 q.2.2.2.2.2 ∧ q.2.2.2.1.length ≤ 2000 ∧ q.2.2.1.oneCell' = true }) (fun k => ⟨[(1, _, _), (2, _, _), (3, _, _), (4, _, _), (5, _, _), (6, k.1.2.2.2.2.1, pInts k.1.2.2.2.1), (7, .int .i64 k.1.1, pInt k.1.1), (10, k.1.2.2.1, .val k.1.2.2.1)], [(1, _, _), (200, k.1.2.2.1, .own 3 1 k.1.2.1.length (k.1.2.1.map pInt))]⟩) (fun k => k.1.1.toNat) ⟨((N : Int), [], .slice none 0 0, S0, v23, S0), ⟨N, rfl, Nat.le_refl _, rfl, by simp⟩, ⟨hin0, hin0, rfl, by dsimp only; omega⟩, by dsimp only; omega, rfl⟩ (fun a w H => H.weaken ⟨rfl, rfl, rfl, rfl, rfl, rfl, rfl, rfl, trivial⟩ ⟨rfl, rfl, trivial⟩) ?_
          rintro ⟨⟨n, w, hO, P, vP, S⟩, ⟨m, hnm, hm, hw, hwl⟩, hSh, hPl, hOo⟩
          dsimp only
          dsimp only at hnm hm hw hwl hSh hPl hOo
          subst hnm
          refine nav ?_
          (refine aC_region ?_ <;> refine xL 54 q_move ?_ <;> refine xL 55 q_gtr ?_ <;> refine aL_end (nav ?_) <;> try dsimp only)
          (first | refine cCd ?_ ?_ | refine cC ?_ ?_) <;> intro hb55
          · first
            | exact Bool.noConfusion hb55
            | (
             obtain ⟨m', rfl⟩ : ∃ m', m = m' + 1 := ⟨m - 1, by omega⟩
             have hmi : ((m' + 1 : Nat) : Int) - 1 = (m' : Int) := by omega
             refine nav ?_
             (refine aC_region ?_ <;> refine xL 58 (q_fldo 1 tFl25_1_LdI) ?_ <;> (refine yL 59 (q_ldo 1 tNa3_LbB) fun v59 hv59 => ?_; cases hv59) <;> refine xL 60 q_move ?_ <;> refine aL_end (nav ?_) <;> try dsimp only)
             refine aC_loop (ι := { c : Nat // c ≤ a.syms.toNat ∧ ∀ j, j < c → hitB a (m' : Int) S j = false }) (fun k => ⟨[(1, _, _), (2, _, _), (3, _, _), (4, _, _), (5, _, _), (6, _, _), (7, _, _), (10, _, _), (59, _, _), (60, .int .i64 k.1, pInt k.1)], [(1, _, _), (200, _, _)]⟩) (fun k => a.syms.toNat - k.1) ⟨0, Nat.zero_le _, by omega⟩ (fun a w H => H.weaken ⟨rfl, rfl, rfl, rfl, rfl, rfl, rfl, rfl, rfl, rfl, trivial⟩ ⟨rfl, rfl, trivial⟩) ?_
             rintro ⟨c, hc, hcp⟩
             dsimp only
             refine nav ?_
             (refine aC_region ?_ <;> refine xL 61 q_lss ?_ <;> refine aL_end (nav ?_) <;> try dsimp only)
             (first | refine cCd ?_ ?_ | refine cC ?_ ?_) <;> intro hb61
             · first
               | exact Bool.noConfusion hb61
               | (
                have hni := next_in hA.mi (c : Nat) P
                have hnl : (nextL a (c : Nat) P).length ≤ 2000 := by have := closL_len hA.mi (leads_in hA.mi (c : Nat) P); show (closL a (leads a (c : Nat) P)).length ≤ 2000; omega
                have hit := hit_iff hA.mi hSh (by omega) c
                rw [hmi] at hit
                refine nav ?_
                (refine aC_region ?_ <;> refine xL 62 q_move ?_ <;> refine xL 11 q_assign ?_ <;> refine aL_end (nav ?_) <;> try dsimp only)
                (refine aC_region ?_ <;> refine xL 63 q_move ?_ <;> refine xL 64 q_move ?_ <;> refine xL 65 q_move ?_ <;> (refine cO 66 (cA Tryz.call63 (aNext_e a P (c : Nat) hn1 hA.ml hA.mi hSh.p hPl)) fun v66 ho66 => ?_; refine aL_ent (En.freeze (l := 66) (t := 66) rfl rfl) fun _ => ?_; rw [share_ints _ _ _ rfl]) <;> refine xL 67 q_move ?_ <;> refine xL 68 q_move ?_ <;> refine xL 69 q_sub ?_ <;> (refine cO 70 (cA Tryz.call60 (aNear_e (nextL a (c : Nat) P) (farL a) (((m' + 1 : Nat) : Int) - 1) (by omega) (fun s hs => by have := hni s hs; omega))) fun v70 ho70 => ?_; refine aL_ent (En.freeze (l := 70) (t := 70) rfl rfl) fun _ => ?_; rw [share_ints _ _ _ rfl, hmi]) <;> refine xL 12 q_assign ?_ <;> refine aL_end (nav ?_) <;> try dsimp only)
                (refine aC_region ?_ <;> refine xL 71 q_move ?_ <;> refine xL 72 (q_len tSl22_LbB) ?_ <;> refine xL 73 q_gtr ?_ <;> refine aL_end (nav ?_) <;> try dsimp only)
                (first | refine cCd ?_ ?_ | refine cC ?_ ?_) <;> intro hb73
                · first
                  | exact Bool.noConfusion hb73
                  | (
                   have hh := hit.1 (by omega)
                   refine nav ?_
                   (refine aC_region ?_ <;> refine xL 74 q_move ?_ <;> refine xL 75 q_move ?_ <;> refine s_lit1 (kk := 1) 76 tEl22_LdI fun h76 ho76 => ?_ <;> (refine s_app 200 76 77 tEl22_LdI fun h77 ho77 => ?_; refine aL_ent (relabel (l := 77) 200 rfl rfl) fun _ => ?_; refine aL_ent (recast (l := 200) rfl (own_ints _ w (c : Nat))) fun _ => ?_) <;> refine xL 78 q_move ?_ <;> refine xL 10 q_assign ?_ <;> refine xL 6 q_assign ?_ <;> refine aL_end (nav ?_) <;> try dsimp only)
                   (refine aC_region ?_ <;> refine xL 56 q_move ?_ <;> refine xL 57 q_sub ?_ <;> refine xL 7 q_assign ?_ <;> refine aL_end (nav ?_) <;> try dsimp only)
                   first
                    | (exact aN_again (
                        ⟨(((m' + 1 : Nat) : Int) - 1, w ++ [(c : Int)], h77, nearL (nextL a (c : Nat) P) (farL a) (m' : Int), v70, nextL a (c : Nat) S), ⟨m', by dsimp only; omega, by omega, by dsimp only; rw [← hw, shortW_hit (by omega) hcp hh, List.append_assoc]; rfl, by dsimp only; rw [List.length_append, List.length_singleton]; omega⟩, by dsimp only; have h9 := hSh.hit hA.mi (c := c) (by rw [hmi]; exact hh); rw [hmi] at h9 ⊢; exact h9, by dsimp only; exact Nat.le_trans (List.length_filter_le _ _) hnl, ho77⟩
                        ) (by dsimp only; omega) ⟨rfl, rfl, rfl, rfl, rfl, rfl, rfl, rfl, trivial⟩ ⟨rfl, rfl, trivial⟩)
                    | (exact aN_again (
                        ⟨(((m' + 1 : Nat) : Int) - 1, w, hO, P, vP, S), ⟨m', by dsimp only; omega, by omega, by dsimp only; rw [← hw, shortW_miss fun j hj => hcp j (by omega)], by dsimp only; omega⟩, hSh.miss, hPl, hOo⟩
                        ) (by dsimp only; omega) ⟨rfl, rfl, rfl, rfl, rfl, rfl, rfl, rfl, trivial⟩ ⟨rfl, rfl, trivial⟩))
                · first
                  | exact Bool.noConfusion hb73
                  | (
                   have hh : hitB a (m' : Int) S c = false := by
                    cases e : hitB a (m' : Int) S c with
                    | false => rfl
                    | true => exact absurd (hit.2 e) (by omega)
                   refine nav ?_
                   (refine aC_region ?_ <;> refine xL 79 q_add ?_ <;> refine xL 60 q_move ?_ <;> refine aL_end (nav ?_) <;> try dsimp only)
                   refine aN_again (
                    ⟨c + 1, by omega, fun j hj => by
                     by_cases e : j = c
                     · subst e; exact hh
                     · exact hcp j (by omega)⟩
                    ) (by dsimp only; omega) ⟨rfl, rfl, rfl, rfl, rfl, rfl, rfl, rfl, rfl, rfl, trivial⟩ ⟨rfl, rfl, trivial⟩))
             · first
               | exact Bool.noConfusion hb61
               | (
                have hcs : a.syms.toNat ≤ c := by omega
                refine nav ?_
                (refine aC_region ?_ <;> refine xL 56 q_move ?_ <;> refine xL 57 q_sub ?_ <;> refine xL 7 q_assign ?_ <;> refine aL_end (nav ?_) <;> try dsimp only)
                first
                 | (exact aN_again (
                     ⟨(((m' + 1 : Nat) : Int) - 1, w ++ [(c : Int)], h77, nearL (nextL a (c : Nat) P) (farL a) (m' : Int), v70, nextL a (c : Nat) S), ⟨m', by dsimp only; omega, by omega, by dsimp only; rw [← hw, shortW_hit (by omega) hcp hh, List.append_assoc]; rfl, by dsimp only; rw [List.length_append, List.length_singleton]; omega⟩, by dsimp only; have h9 := hSh.hit hA.mi (c := c) (by rw [hmi]; exact hh); rw [hmi] at h9 ⊢; exact h9, by dsimp only; exact Nat.le_trans (List.length_filter_le _ _) hnl, ho77⟩
                     ) (by dsimp only; omega) ⟨rfl, rfl, rfl, rfl, rfl, rfl, rfl, rfl, trivial⟩ ⟨rfl, rfl, trivial⟩)
                 | (exact aN_again (
                     ⟨(((m' + 1 : Nat) : Int) - 1, w, hO, P, vP, S), ⟨m', by dsimp only; omega, by omega, by dsimp only; rw [← hw, shortW_miss fun j hj => hcp j (by omega)], by dsimp only; omega⟩, hSh.miss, hPl, hOo⟩
                     ) (by dsimp only; omega) ⟨rfl, rfl, rfl, rfl, rfl, rfl, rfl, rfl, trivial⟩ ⟨rfl, rfl, trivial⟩)))
          · first
            | exact Bool.noConfusion hb55
            | (
             have hm0 : m = 0 := by omega
             subst hm0
             rw [shortW, List.append_nil] at hw
             refine aC_ent (En.freeze (l := 200) (t := 10) rfl rfl) fun _ => ?_
             refine aC_ent (reslot (t := 10) (p' := pInts (shortW a N S0)) rfl (by rw [share_ints _ _ _ rfl, hw])) fun _ => ?_
             refine nav ?_
             (refine aC_region ?_ <;> refine xL 80 q_move ?_ <;> refine xL 2 q_assign ?_ <;> refine xL 3 q_assign ?_ <;> refine aL_end (nav ?_) <;> try dsimp only)
             refine ret_ss (Tryz.results30) rfl rfl ?_
             rw [hsx]))))
set_option maxHeartbeats 2000000 in
theorem r07Shortest_e (a : Aut) (hml : a.moves.length ≤ 1000000) : AF Tryz.prog 31 [pAut a] (· = .tup [pInts (shortX a).1, pInt (shortX a).2]) := by
 refine AF.of_body 51 Tryz.func31 rfl Tryz.ntmps31 (Nat.le_of_ble_eq_true rfl) ?_
 intro w0 M0 vs hl hv
 obtain ⟨v0, rfl⟩ := len1 hl
 clear hl hv
 refine nav ?_
 (refine aC_region ?_ <;> refine s_boxa 1 5 fun h1 => ?_ <;> refine xL 2 q_assign ?_ <;> refine xL 3 q_assign ?_ <;> refine aL_end (nav ?_) <;> try dsimp only)
 (refine aC_region ?_ <;> (refine yL 10 (q_ldao 1 tAgg25_LdS) fun v10 hv10 => ?_; cases hv10) <;> (refine cS 11 (cA Tryz.call25 (r07Valid_e a hml)) fun v11 hv11 => ?_; cases hv11) <;> refine xL 12 q_not ?_ <;> refine aL_end (nav ?_) <;> try dsimp only)
 (first | refine cCd ?_ ?_ | refine cC ?_ ?_) <;> intro hb12
 · first
   | exact Bool.noConfusion hb12
   | (
    refine nav ?_
    (refine aC_region ?_ <;> refine xL 2 q_assign ?_ <;> refine xL 3 q_assign ?_ <;> refine aL_end (nav ?_) <;> try dsimp only)
    refine aR_ent (nilSlD (t := 2) rfl) fun _ => ?_
    refine ret_ss (Tryz.results31) rfl rfl ?_
    unfold shortX
    rw [if_pos (by simpa using hb12)]; rfl)
 · first
   | exact Bool.noConfusion hb12
   | (
    have hok : autOk a = true := by simpa using hb12
    have hA := aok_of hok
    have hs0 := hA.s0
    have hs1 := hA.s1
    have hsN : ((a.syms.toNat : Nat) : Int) = a.syms := by omega
    have hfl := (farL_ok a).len
    have hci := closL_in hA.mi hA.st
    have hn1 := hA.n1
    obtain ⟨S0, hS0⟩ : ∃ S0, S0 = closL a a.start := ⟨_, rfl⟩
    refine nav ?_
    (refine aC_region ?_ <;> (refine yL 13 (q_ldao 1 tAgg25_LdS) fun v13 hv13 => ?_; cases hv13) <;> (refine cO 14 (cA Tryz.call64 (r07distances_e a hA)) fun v14 ho14 => ?_; refine aL_ent (En.freeze (l := 14) (t := 14) rfl rfl) fun _ => ?_; rw [share_ints _ _ _ hfl.symm]) <;> refine xL 4 q_assign ?_ <;> refine aL_end (nav ?_) <;> try dsimp only)
    (refine aC_region ?_ <;> (refine yL 15 (q_ldao 1 tAgg25_LdS) fun v15 hv15 => ?_; cases hv15) <;> refine xL 16 (q_fldo 1 tFl25_2_LdI) ?_ <;> (refine yL 17 (q_ldo 1 tNa22_LdI) fun v17 hv17 => ?_; cases hv17) <;> (refine cO 18 (cA Tryz.call65 (r07Closed_e a a.start hA hA.st)) fun v18 ho18 => ?_; refine aL_ent (En.freeze (l := 18) (t := 18) rfl rfl) fun _ => ?_; rw [share_ints _ _ _ rfl, ← hS0]) <;> refine xL 5 q_assign ?_ <;> refine aL_end (nav ?_) <;> try dsimp only)
    rw [← hS0] at hci
    obtain ⟨L, hL⟩ : ∃ L, L = leastL (farL a) S0 := ⟨_, rfl⟩
    have hnear := r07near_e (farL a) S0 (fun s hs => by have := hci s hs; omega)
    rw [← hL] at hnear
    (refine aC_region ?_ <;> refine xL 19 q_move ?_ <;> refine xL 20 q_move ?_ <;> (refine cS 21 (cA Tryz.call68 (hnear)) fun v21 hv21 => ?_; cases hv21) <;> refine xL 6 q_assign ?_ <;> refine aL_end (nav ?_) <;> try dsimp only)
    (refine aC_region ?_ <;> refine xL 22 q_move ?_ <;> refine xL 23 q_lss ?_ <;> refine aL_end (nav ?_) <;> try dsimp only)
    (first | refine cCd ?_ ?_ | refine cC ?_ ?_) <;> intro hb23
    · first
      | exact Bool.noConfusion hb23
      | (
       refine nav ?_
       (refine aC_region ?_ <;> refine xL 2 q_assign ?_ <;> refine xL 3 q_assign ?_ <;> refine aL_end (nav ?_) <;> try dsimp only)
       refine aR_ent (nilSlD (t := 2) rfl) fun _ => ?_
       refine ret_ss (Tryz.results31) rfl rfl ?_
       unfold shortX
       rw [if_neg (by rw [hok]; decide), ← hS0, ← hL, if_pos (by omega)]; rfl)
    · first
      | exact Bool.noConfusion hb23
      | (
       obtain ⟨N, rfl⟩ : ∃ N : Nat, L = (N : Int) := ⟨L.toNat, by omega⟩
       have hsx : shortX a = (shortW a N S0, 0) := by
        unfold shortX
        rw [if_neg (by rw [hok]; decide), ← hS0, ← hL, if_neg (by omega), Int.toNat_natCast]
       have hin0 : InS a S0 := hci
       have hN : N ≤ 2000 := by
        obtain ⟨h1, _, _⟩ := least_spec (farL a) S0 (-1) (by omega)
        have h2 : leastL (farL a) S0 = (N : Int) := hL.symm
        unfold leastL at h2
        rw [h2] at h1
        rcases h1 with h1 | ⟨s, hs, h6, h7⟩
        · omega
        · have h8 := (farL_ok a).hi _ (List.mem_of_getElem? h6)
          have h9 := cntD_le (farL a)
          omega
       refine nav ?_
       (refine aC_region ?_ <;> refine s_lit0 24 tEl22_LdI fun h24 ho24 => ?_ <;> refine xL 7 q_assign ?_ <;> refine aL_end (nav ?_) <;> try dsimp only)
       refine aC_ent (relabel (l := 24) 200 rfl rfl) fun _ => ?_
       refine aC_ent (recast (l := 200) (p' := .own 3 1 ([] : List Int).length (([] : List Int).map pInt)) rfl rfl) fun _ => ?_
       refine aC_loop (ι := { q : Int × List Int × Value × List Int × Value // (∃ m : Nat, q.1 = (m : Int) ∧ m ≤ N ∧ q.2.1 ++ shortW a m q.2.2.2.1 = shortW a N S0 ∧ q.2.1.length + m ≤ N) ∧ InS a q.2.2.2.1 ∧ q.2.2.1.oneCell' = true }) (fun k => ⟨[(1, _, _), (2, _, _), (3, _, _), (4, _, _), (5, k.1.2.2.2.2, pInts k.1.2.2.2.1), (6, .int .i64 k.1.1, pInt k.1.1), (7, k.1.2.2.1, .val k.1.2.2.1)], [(1, _, _), (200, k.1.2.2.1, .own 3 1 k.1.2.1.length (k.1.2.1.map pInt))]⟩) (fun k => k.1.1.toNat) ⟨((N : Int), [], h24, S0, v18), ⟨N, rfl, Nat.le_refl _, rfl, by simp⟩, hin0, ho24⟩ (fun a w H => H.weaken ⟨rfl, rfl, rfl, rfl, rfl, rfl, rfl, trivial⟩ ⟨rfl, rfl, trivial⟩) ?_
       rintro ⟨⟨n, w, hO, S, vS⟩, ⟨m, hnm, hm, hw, hwl⟩, hSi, hOo⟩
       dsimp only
       dsimp only at hnm hm hw hwl hSi hOo
       subst hnm
       refine nav ?_
       (refine aC_region ?_ <;> refine xL 25 q_move ?_ <;> refine xL 26 q_gtr ?_ <;> refine aL_end (nav ?_) <;> try dsimp only)
       (first | refine cCd ?_ ?_ | refine cC ?_ ?_) <;> intro hb26
       · first
         | exact Bool.noConfusion hb26
         | (
          obtain ⟨m', rfl⟩ : ∃ m', m = m' + 1 := ⟨m - 1, by omega⟩
          have hmi : ((m' + 1 : Nat) : Int) - 1 = (m' : Int) := by omega
          refine nav ?_
          (refine aC_region ?_ <;> refine xL 8 q_assign ?_ <;> refine aL_end (nav ?_) <;> try dsimp only)
          refine aC_loop (ι := { c : Nat // c ≤ a.syms.toNat ∧ ∀ j, j < c → hitB a (m' : Int) S j = false }) (fun k => ⟨[(1, _, _), (2, _, _), (3, _, _), (4, _, _), (5, _, _), (6, _, _), (7, _, _), (8, .int .i64 k.1, pInt k.1)], [(1, _, _), (200, _, _)]⟩) (fun k => a.syms.toNat - k.1) ⟨0, Nat.zero_le _, by omega⟩ (fun a w H => H.weaken ⟨rfl, rfl, rfl, rfl, rfl, rfl, rfl, rfl, trivial⟩ ⟨rfl, rfl, trivial⟩) ?_
          rintro ⟨c, hc, hcp⟩
          dsimp only
          refine nav ?_
          (refine aC_region ?_ <;> refine xL 27 q_move ?_ <;> refine xL 28 (q_fldo 1 tFl25_1_LdI) ?_ <;> (refine yL 29 (q_ldo 1 tNa3_LbB) fun v29 hv29 => ?_; cases hv29) <;> refine xL 30 q_lss ?_ <;> refine aL_end (nav ?_) <;> try dsimp only)
          (first | refine cCd ?_ ?_ | refine cC ?_ ?_) <;> intro hb30
          · first
            | exact Bool.noConfusion hb30
            | (
             have hni := next_in hA.mi (c : Nat) S
             have hnr := r07near_e (farL a) (nextL a (c : Nat) S) (fun s hs => by have := hni s hs; omega)
             refine nav ?_
             (refine aC_region ?_ <;> (refine yL 33 (q_ldao 1 tAgg25_LdS) fun v33 hv33 => ?_; cases hv33) <;> refine xL 34 q_move ?_ <;> refine xL 35 q_move ?_ <;> (refine cO 36 (cA Tryz.call67 (r07After_e a S (c : Nat) hA hSi)) fun v36 ho36 => ?_; refine aL_ent (En.freeze (l := 36) (t := 36) rfl rfl) fun _ => ?_; rw [share_ints _ _ _ rfl]) <;> refine xL 9 q_assign ?_ <;> refine aL_end (nav ?_) <;> try dsimp only)
             (refine aC_region ?_ <;> refine xL 37 q_move ?_ <;> refine xL 38 q_move ?_ <;> (refine cS 39 (cA Tryz.call68 (hnr)) fun v39 hv39 => ?_; cases hv39) <;> refine xL 40 q_move ?_ <;> refine xL 41 q_sub ?_ <;> refine xL 42 q_eql ?_ <;> refine aL_end (nav ?_) <;> try dsimp only)
             (first | refine cCd ?_ ?_ | refine cC ?_ ?_) <;> intro hb42
             · first
               | exact Bool.noConfusion hb42
               | (
                have hh : hitB a (m' : Int) S c = true := by unfold hitB; rw [decide_eq_true_eq]; omega
                refine nav ?_
                (refine aC_region ?_ <;> refine xL 43 q_move ?_ <;> refine xL 44 q_move ?_ <;> refine s_lit1 (kk := 1) 45 tEl22_LdI fun h45 ho45 => ?_ <;> (refine s_app 200 45 46 tEl22_LdI fun h46 ho46 => ?_; refine aL_ent (relabel (l := 46) 200 rfl rfl) fun _ => ?_; refine aL_ent (recast (l := 200) rfl (own_ints _ w (c : Nat))) fun _ => ?_) <;> refine xL 7 q_assign ?_ <;> refine aL_end (nav ?_) <;> try dsimp only)
                (refine aC_region ?_ <;> refine xL 47 q_move ?_ <;> refine xL 5 q_assign ?_ <;> refine aL_end (nav ?_) <;> try dsimp only)
                (refine aC_region ?_ <;> refine xL 48 q_move ?_ <;> refine xL 49 q_sub ?_ <;> refine xL 6 q_assign ?_ <;> refine aL_end (nav ?_) <;> try dsimp only)
                first
                 | (exact aN_again (
                     ⟨(((m' + 1 : Nat) : Int) - 1, w ++ [(c : Int)], h46, nextL a (c : Nat) S, v36), ⟨m', by dsimp only; omega, by omega, by dsimp only; rw [← hw, shortW_hit (by omega) hcp hh, List.append_assoc]; rfl, by dsimp only; rw [List.length_append, List.length_singleton]; omega⟩, hni, ho46⟩
                     ) (by dsimp only; omega) ⟨rfl, rfl, rfl, rfl, rfl, rfl, rfl, trivial⟩ ⟨rfl, rfl, trivial⟩)
                 | (exact aN_again (
                     ⟨(((m' + 1 : Nat) : Int) - 1, w, hO, S, vS), ⟨m', by dsimp only; omega, by omega, by dsimp only; rw [← hw, shortW_miss fun j hj => hcp j (by omega)], by dsimp only; omega⟩, hSi, hOo⟩
                     ) (by dsimp only; omega) ⟨rfl, rfl, rfl, rfl, rfl, rfl, rfl, trivial⟩ ⟨rfl, rfl, trivial⟩))
             · first
               | exact Bool.noConfusion hb42
               | (
                have hh : hitB a (m' : Int) S c = false := by unfold hitB; rw [decide_eq_false_iff_not]; omega
                refine nav ?_
                (refine aC_region ?_ <;> refine xL 31 q_move ?_ <;> refine xL 32 q_add ?_ <;> refine xL 8 q_assign ?_ <;> refine aL_end (nav ?_) <;> try dsimp only)
                refine aN_again (
                 ⟨c + 1, by omega, fun j hj => by
                  by_cases e : j = c
                  · subst e; exact hh
                  · exact hcp j (by omega)⟩
                 ) (by dsimp only; omega) ⟨rfl, rfl, rfl, rfl, rfl, rfl, rfl, rfl, trivial⟩ ⟨rfl, rfl, trivial⟩))
          · first
            | exact Bool.noConfusion hb30
            | (
             have hcs : a.syms.toNat ≤ c := by omega
             refine nav ?_
             (refine aC_region ?_ <;> refine xL 48 q_move ?_ <;> refine xL 49 q_sub ?_ <;> refine xL 6 q_assign ?_ <;> refine aL_end (nav ?_) <;> try dsimp only)
             first
              | (exact aN_again (
                  ⟨(((m' + 1 : Nat) : Int) - 1, w ++ [(c : Int)], h46, nextL a (c : Nat) S, v36), ⟨m', by dsimp only; omega, by omega, by dsimp only; rw [← hw, shortW_hit (by omega) hcp hh, List.append_assoc]; rfl, by dsimp only; rw [List.length_append, List.length_singleton]; omega⟩, hni, ho46⟩
                  ) (by dsimp only; omega) ⟨rfl, rfl, rfl, rfl, rfl, rfl, rfl, trivial⟩ ⟨rfl, rfl, trivial⟩)
              | (exact aN_again (
                  ⟨(((m' + 1 : Nat) : Int) - 1, w, hO, S, vS), ⟨m', by dsimp only; omega, by omega, by dsimp only; rw [← hw, shortW_miss fun j hj => hcp j (by omega)], by dsimp only; omega⟩, hSi, hOo⟩
                  ) (by dsimp only; omega) ⟨rfl, rfl, rfl, rfl, rfl, rfl, rfl, trivial⟩ ⟨rfl, rfl, trivial⟩)))
       · first
         | exact Bool.noConfusion hb26
         | (
          have hm0 : m = 0 := by omega
          subst hm0
          rw [shortW, List.append_nil] at hw
          refine aC_ent (En.freeze (l := 200) (t := 7) rfl rfl) fun _ => ?_
          refine aC_ent (reslot (t := 7) (p' := pInts (shortW a N S0)) rfl (by rw [share_ints _ _ _ rfl, hw])) fun _ => ?_
          refine nav ?_
          (refine aC_region ?_ <;> refine xL 50 q_move ?_ <;> refine xL 2 q_assign ?_ <;> refine xL 3 q_assign ?_ <;> refine aL_end (nav ?_) <;> try dsimp only)
          refine ret_ss (Tryz.results31) rfl rfl ?_
          rw [hsx])))
theorem eq_end {α : Type} {a b : List α} (hl : a.length = b.length) (h : ∀ (j : Nat) (x y : α), a[j]? = some x → b[j]? = some y → x = y) : a = b := by
 refine List.ext_getElem? fun j => ?_
 by_cases hj : j < a.length
 · obtain ⟨x, hx⟩ := get_some hj
   obtain ⟨y, hy⟩ := get_some (show j < b.length by omega)
   rw [hx, hy, h j x y hx hy]
 · rw [List.getElem?_eq_none (by omega), List.getElem?_eq_none (by omega)]
theorem ne_at {α : Type} {a b : List α} {j : Nat} {x y : α} (hx : a[j]? = some x) (hy : b[j]? = some y) (h : x ≠ y) : a ≠ b := fun e => by
 subst e; rw [hx] at hy; exact h (Option.some.inj hy)
instance : DecidableEq Mv := fun a b => if h : eqM a b = true then .isTrue (eqM_iff.1 h) else .isFalse fun e => h (eqM_iff.2 e)
theorem eqM_dec (a b : Mv) : eqM a b = decide (a = b) := by
 by_cases h : a = b
 · rw [decide_eq_true h]; exact eqM_iff.2 h
 · rw [decide_eq_false h]
   cases e : eqM a b with
   | false => rfl
   | true => exact absurd (eqM_iff.1 e) h
theorem sEqualInt_e (a b : List Int) : AF Tryz.prog 32 [pInts a, pInts b] (· = pBool (decide (a = b))) := by
 refine AF.of_body 26 Tryz.func32 rfl Tryz.ntmps32 (Nat.le_of_ble_eq_true rfl) ?_
 intro w0 M0 vs hl hv
 obtain ⟨v0, v1, rfl⟩ := len2 hl
 clear hl hv
 refine aC_slen 0 rfl fun hlen => ?_
 refine aC_slen 1 rfl fun hlen2 => ?_
 refine nav ?_
 (refine aC_region ?_ <;> refine xL 4 q_assign ?_ <;> refine aL_end (nav ?_) <;> try dsimp only)
 (refine aC_region ?_ <;> refine xL 6 q_move ?_ <;> refine xL 7 (q_len tSl22_LbB) ?_ <;> refine xL 8 q_move ?_ <;> refine xL 9 (q_len tSl22_LbB) ?_ <;> refine xL 10 q_neq ?_ <;> refine aL_end (nav ?_) <;> try dsimp only)
 (first | refine cCd ?_ ?_ | refine cC ?_ ?_) <;> intro hb10
 · first
   | exact Bool.noConfusion hb10
   | (
    refine nav ?_
    (refine aC_region ?_ <;> refine xL 4 q_assign ?_ <;> refine aL_end (nav ?_) <;> try dsimp only)
    refine ret_shr (Tryz.results32) rfl ?_
    rw [decide_eq_false (fun e => by subst e; exact hb10 rfl)])
 · first
   | exact Bool.noConfusion hb10
   | (
    have hll : a.length = b.length := by omega
    refine nav ?_
    (refine aC_region ?_ <;> refine xL 11 q_move ?_ <;> refine xL 12 (q_len tSl22_LbB) ?_ <;> refine xL 13 q_move ?_ <;> refine aL_end (nav ?_) <;> try dsimp only)
    refine aC_loop (ι := { k : Nat // k ≤ a.length ∧ ∀ j x y, j < k → a[j]? = some x → b[j]? = some y → x = y }) (fun k => ⟨[(0, _, _), (1, _, _), (12, _, _), (13, .int .i64 k.1, pInt k.1)], []⟩) (fun k => a.length - k.1) ⟨0, by omega, by omega⟩ (fun a w H => H.weaken ⟨rfl, rfl, rfl, rfl, trivial⟩ trivial) ?_
    rintro ⟨k, hk, hp⟩
    dsimp only
    refine nav ?_
    (refine aC_region ?_ <;> refine xL 14 q_lss ?_ <;> refine aL_end (nav ?_) <;> try dsimp only)
    (first | refine cCd ?_ ?_ | refine cC ?_ ?_) <;> intro hb14
    · first
      | exact Bool.noConfusion hb14
      | (
       obtain ⟨x, hx⟩ := get_some (show k < a.length by omega)
       obtain ⟨y, hy⟩ := get_some (show k < b.length by omega)
       have e1 := map_at (f := pInt) hx
       have e2 := map_at (f := pInt) hy
       refine nav ?_
       (refine aC_region ?_ <;> refine xL 15 q_move ?_ <;> refine xL 5 q_assign ?_ <;> refine aL_end (nav ?_) <;> try dsimp only)
       (refine aC_draw (fun i => ([] : List Nat).elem i) [] (by kernel_rfl) ?_ <;> refine xD 0 16 rfl q_move ?_ <;> refine xD 1 17 rfl q_move ?_ <;> refine xD 2 18 rfl (q_idxN tSl22_LbB) ?_ <;> (refine yD 3 19 rfl (q_ld tNa3_LbB) fun v19 hv19 => ?_; cases hv19) <;> refine xD 4 20 rfl q_move ?_ <;> refine xE 5 21 rfl q_move ?_ <;> refine xE 6 22 rfl (q_idxN tSl22_LbB) ?_ <;> (refine yE 7 23 rfl (q_ld tNa3_LbB) fun v23 hv23 => ?_; cases hv23) <;> refine xE 8 24 rfl q_neq ?_ <;> refine aD_end (by kernel_rfl) (nav ?_) <;> try dsimp only)
       (first | refine cCd ?_ ?_ | refine cC ?_ ?_) <;> intro hb24
       · first
         | exact Bool.noConfusion hb24
         | (
          refine nav ?_
          (refine aC_region ?_ <;> refine xL 4 q_assign ?_ <;> refine aL_end (nav ?_) <;> try dsimp only)
          refine ret_shr (Tryz.results32) rfl ?_
          rw [decide_eq_false (ne_at hx hy (by simpa using hb24))])
       · first
         | exact Bool.noConfusion hb24
         | (
          refine nav ?_
          (refine aC_region ?_ <;> refine xL 25 q_add ?_ <;> refine xL 13 q_move ?_ <;> refine aL_end (nav ?_) <;> try dsimp only)
          refine aN_again (
           ⟨k + 1, lt_of_get hx, fun j x' y' hj hx' hy' => by
            by_cases e : j = k
            · subst e; rw [hx] at hx'; rw [hy] at hy'; cases hx'; cases hy'; simpa using hb24
            · exact hp j x' y' (by omega) hx' hy'⟩
           ) (by dsimp only; omega) ⟨rfl, rfl, rfl, rfl, trivial⟩ trivial))
    · first
      | exact Bool.noConfusion hb14
      | (
       refine nav ?_
       (refine aC_region ?_ <;> refine xL 4 q_assign ?_ <;> refine aL_end (nav ?_) <;> try dsimp only)
       refine ret_shr (Tryz.results32) rfl ?_
       rw [decide_eq_true (eq_end hll fun j x y hx hy => hp j x y (by have := lt_of_get hx; omega) hx hy)]))
theorem sEqualMv_e (a b : List Mv) : AF Tryz.prog 54 [pMvs a, pMvs b] (· = pBool (decide (a = b))) := by
 refine AF.of_body 26 Tryz.func54 rfl Tryz.ntmps54 (Nat.le_of_ble_eq_true rfl) ?_
 intro w0 M0 vs hl hv
 obtain ⟨v0, v1, rfl⟩ := len2 hl
 clear hl hv
 refine aC_slen 0 rfl fun hlen => ?_
 refine aC_slen 1 rfl fun hlen2 => ?_
 refine nav ?_
 (refine aC_region ?_ <;> refine xL 4 q_assign ?_ <;> refine aL_end (nav ?_) <;> try dsimp only)
 (refine aC_region ?_ <;> refine xL 6 q_move ?_ <;> refine xL 7 (q_len tSl23_LdI) ?_ <;> refine xL 8 q_move ?_ <;> refine xL 9 (q_len tSl23_LdI) ?_ <;> refine xL 10 q_neq ?_ <;> refine aL_end (nav ?_) <;> try dsimp only)
 (first | refine cCd ?_ ?_ | refine cC ?_ ?_) <;> intro hb10
 · first
   | exact Bool.noConfusion hb10
   | (
    refine nav ?_
    (refine aC_region ?_ <;> refine xL 4 q_assign ?_ <;> refine aL_end (nav ?_) <;> try dsimp only)
    refine ret_shr (Tryz.results54) rfl ?_
    rw [decide_eq_false (fun e => by subst e; exact hb10 rfl)])
 · first
   | exact Bool.noConfusion hb10
   | (
    have hll : a.length = b.length := by omega
    refine nav ?_
    (refine aC_region ?_ <;> refine xL 11 q_move ?_ <;> refine xL 12 (q_len tSl23_LdI) ?_ <;> refine xL 13 q_move ?_ <;> refine aL_end (nav ?_) <;> try dsimp only)
    refine aC_loop (ι := { k : Nat // k ≤ a.length ∧ ∀ j x y, j < k → a[j]? = some x → b[j]? = some y → x = y }) (fun k => ⟨[(0, _, _), (1, _, _), (12, _, _), (13, .int .i64 k.1, pInt k.1)], []⟩) (fun k => a.length - k.1) ⟨0, by omega, by omega⟩ (fun a w H => H.weaken ⟨rfl, rfl, rfl, rfl, trivial⟩ trivial) ?_
    rintro ⟨k, hk, hp⟩
    dsimp only
    refine nav ?_
    (refine aC_region ?_ <;> refine xL 14 q_lss ?_ <;> refine aL_end (nav ?_) <;> try dsimp only)
    (first | refine cCd ?_ ?_ | refine cC ?_ ?_) <;> intro hb14
    · first
      | exact Bool.noConfusion hb14
      | (
       obtain ⟨x, hx⟩ := get_some (show k < a.length by omega)
       obtain ⟨y, hy⟩ := get_some (show k < b.length by omega)
       have e1 := flat_drop cMv_len a k x hx
       have e2 := flat_fit cMv_len hx
       have e3 := flat_drop cMv_len b k y hy
       have e4 := flat_fit cMv_len hy
       refine nav ?_
       (refine aC_region ?_ <;> refine xL 15 q_move ?_ <;> refine xL 5 q_assign ?_ <;> refine aL_end (nav ?_) <;> try dsimp only)
       (refine aC_draw (fun i => ([] : List Nat).elem i) [] (by kernel_rfl) ?_ <;> refine xD 0 16 rfl q_move ?_ <;> refine xD 1 17 rfl q_move ?_ <;> refine xD 2 18 rfl (q_idxN tSl23_LdI) ?_ <;> (refine yD 3 19 rfl (q_lda tAgg72_LdI) fun v19 hv19 => ?_; cases hv19) <;> refine xD 4 20 rfl q_move ?_ <;> refine xE 5 21 rfl q_move ?_ <;> refine xE 6 22 rfl (q_idxN tSl23_LdI) ?_ <;> (refine yE 7 23 rfl (q_lda tAgg72_LdI) fun v23 hv23 => ?_; cases hv23) <;> refine xE 8 24 rfl ((q_neS (us := vMv x) (us' := vMv y) uMvS hMvS gMvS (eqMv_runG x y) rfl rfl)) ?_ <;> refine aD_end (by kernel_rfl) (nav ?_) <;> try dsimp only)
       (first | refine cCd ?_ ?_ | refine cC ?_ ?_) <;> intro hb24
       · first
         | exact Bool.noConfusion hb24
         | (
          refine nav ?_
          (refine aC_region ?_ <;> refine xL 4 q_assign ?_ <;> refine aL_end (nav ?_) <;> try dsimp only)
          refine ret_shr (Tryz.results54) rfl ?_
          rw [decide_eq_false (ne_at hx hy (by
           have h := hb24
           rw [eqM_dec] at h
           simpa using h))])
       · first
         | exact Bool.noConfusion hb24
         | (
          refine nav ?_
          (refine aC_region ?_ <;> refine xL 25 q_add ?_ <;> refine xL 13 q_move ?_ <;> refine aL_end (nav ?_) <;> try dsimp only)
          refine aN_again (
           ⟨k + 1, lt_of_get hx, fun j x' y' hj hx' hy' => by
            by_cases e : j = k
            · subst e; rw [hx] at hx'; rw [hy] at hy'; cases hx'; cases hy'
              have h := hb24
              rw [eqM_dec] at h
              simpa using h
            · exact hp j x' y' (by omega) hx' hy'⟩
           ) (by dsimp only; omega) ⟨rfl, rfl, rfl, rfl, trivial⟩ trivial))
    · first
      | exact Bool.noConfusion hb14
      | (
       refine nav ?_
       (refine aC_region ?_ <;> refine xL 4 q_assign ?_ <;> refine aL_end (nav ?_) <;> try dsimp only)
       refine ret_shr (Tryz.results54) rfl ?_
       rw [decide_eq_true (eq_end hll fun j x y hx hy => hp j x y (by have := lt_of_get hx; omega) hx hy)]))
theorem sEqualFuncInts_e (a b : List (List Int)) : AF Tryz.prog 55 [pIntss a, pIntss b, .fn 32 []] (· = pBool (decide (a = b))) := by
 refine AF.of_body 32 Tryz.func55 rfl Tryz.ntmps55 (Nat.le_of_ble_eq_true rfl) ?_
 intro w0 M0 vs hl hv
 obtain ⟨v0, v1, v2, rfl⟩ := len3 hl
 clear hl hv
 refine aC_slen 0 rfl fun hlen => ?_
 refine aC_slen 1 rfl fun hlen2 => ?_
 refine nav ?_
 (refine aC_region ?_ <;> refine xL 6 q_assign ?_ <;> refine aL_end (nav ?_) <;> try dsimp only)
 (refine aC_region ?_ <;> refine xL 10 q_move ?_ <;> refine xL 11 (q_len tSl28_LdS) ?_ <;> refine xL 12 q_move ?_ <;> refine xL 13 (q_len tSl28_LdS) ?_ <;> refine xL 14 q_neq ?_ <;> refine aL_end (nav ?_) <;> try dsimp only)
 (first | refine cCd ?_ ?_ | refine cC ?_ ?_) <;> intro hb14
 · first
   | exact Bool.noConfusion hb14
   | (
    refine nav ?_
    (refine aC_region ?_ <;> refine xL 6 q_assign ?_ <;> refine aL_end (nav ?_) <;> try dsimp only)
    refine ret_shr (Tryz.results55) rfl ?_
    rw [decide_eq_false (fun e => by subst e; exact hb14 rfl)])
 · first
   | exact Bool.noConfusion hb14
   | (
    have hll : a.length = b.length := by omega
    refine nav ?_
    (refine aC_region ?_ <;> refine xL 15 q_move ?_ <;> refine xL 16 (q_len tSl28_LdS) ?_ <;> refine xL 17 q_move ?_ <;> refine aL_end (nav ?_) <;> try dsimp only)
    refine aC_loop (ι := { k : Nat // k ≤ a.length ∧ ∀ j x y, j < k → a[j]? = some x → b[j]? = some y → x = y }) (fun k => ⟨[(0, _, _), (1, _, _), (2, _, _), (15, _, _), (16, _, _), (17, .int .i64 k.1, pInt k.1)], []⟩) (fun k => a.length - k.1) ⟨0, by omega, by omega⟩ (fun a w H => H.weaken ⟨rfl, rfl, rfl, rfl, rfl, rfl, trivial⟩ trivial) ?_
    rintro ⟨k, hk, hp⟩
    dsimp only
    refine nav ?_
    (refine aC_region ?_ <;> refine xL 18 q_lss ?_ <;> refine aL_end (nav ?_) <;> try dsimp only)
    (first | refine cCd ?_ ?_ | refine cC ?_ ?_) <;> intro hb18
    · first
      | exact Bool.noConfusion hb18
      | (
       obtain ⟨x, hx⟩ := get_some (show k < a.length by omega)
       obtain ⟨y, hy⟩ := get_some (show k < b.length by omega)
       have e1 := map_at (f := pInts) hx
       have e2 := map_at (f := pInts) hy
       refine nav ?_
       (refine aC_region ?_ <;> refine xL 19 q_move ?_ <;> refine xL 20 (q_idxN tSl28_LdS) ?_ <;> (refine yL 21 (q_ld tNa22_LdI) fun v21 hv21 => ?_; cases hv21) <;> refine xL 7 q_assign ?_ <;> refine xL 8 q_assign ?_ <;> refine aL_end (nav ?_) <;> try dsimp only)
       (refine aC_region ?_ <;> refine xL 22 q_move ?_ <;> refine xL 23 q_move ?_ <;> refine xL 24 (q_idxN tSl28_LdS) ?_ <;> (refine yL 25 (q_ld tNa22_LdI) fun v25 hv25 => ?_; cases hv25) <;> refine xL 9 q_assign ?_ <;> refine aL_end (nav ?_) <;> try dsimp only)
       (refine aC_region ?_ <;> refine xL 26 q_move ?_ <;> refine xL 27 q_move ?_ <;> refine xL 28 q_move ?_ <;> (refine cS 29 (callF (f := 32) (ps := []) rfl ⟨_, rfl⟩ (Tryz.call32) rfl (sEqualInt_e x y)) fun v29 hv29 => ?_; cases hv29) <;> refine xL 30 q_not ?_ <;> refine aL_end (nav ?_) <;> try dsimp only)
       (first | refine cCd ?_ ?_ | refine cC ?_ ?_) <;> intro hb30
       · first
         | exact Bool.noConfusion hb30
         | (
          refine nav ?_
          (refine aC_region ?_ <;> refine xL 6 q_assign ?_ <;> refine aL_end (nav ?_) <;> try dsimp only)
          refine ret_shr (Tryz.results55) rfl ?_
          rw [decide_eq_false (ne_at hx hy (by simpa using hb30))])
       · first
         | exact Bool.noConfusion hb30
         | (
          refine nav ?_
          (refine aC_region ?_ <;> refine xL 31 q_add ?_ <;> refine xL 17 q_move ?_ <;> refine aL_end (nav ?_) <;> try dsimp only)
          refine aN_again (
           ⟨k + 1, lt_of_get hx, fun j x' y' hj hx' hy' => by
            by_cases e : j = k
            · subst e; rw [hx] at hx'; rw [hy] at hy'; cases hx'; cases hy'; simpa using hb30
            · exact hp j x' y' (by omega) hx' hy'⟩
           ) (by dsimp only; omega) ⟨rfl, rfl, rfl, rfl, rfl, rfl, trivial⟩ trivial))
    · first
      | exact Bool.noConfusion hb18
      | (
       refine nav ?_
       (refine aC_region ?_ <;> refine xL 6 q_assign ?_ <;> refine aL_end (nav ?_) <;> try dsimp only)
       refine ret_shr (Tryz.results55) rfl ?_
       rw [decide_eq_true (eq_end hll fun j x y hx hy => hp j x y (by have := lt_of_get hx; omega) hx hy)]))
def insI (x : Int) : List Int → List Int
 | [] => [x]
 | y :: l => if x ≤ y then x :: y :: l else y :: insI x l
def srtI : List Int → List Int
 | [] => []
 | x :: l => insI x (srtI l)
theorem insI_perm (x : Int) : ∀ l, (insI x l).Perm (x :: l)
 | [] => .refl _
 | y :: l => by
   unfold insI
   split
   · exact .refl _
   · exact ((insI_perm x l).cons y).trans (.swap _ _ _)
theorem srtI_perm : ∀ l, (srtI l).Perm l
 | [] => .refl _
 | x :: l => (insI_perm x _).trans ((srtI_perm l).cons x)
theorem insI_pw (x : Int) : ∀ l : List Int, l.Pairwise (· ≤ ·) → (insI x l).Pairwise (· ≤ ·)
 | [], _ => by simp [insI]
 | y :: l, h => by
   have h' := List.pairwise_cons.1 h
   unfold insI
   split
   · rename_i hxy
     refine List.pairwise_cons.2 ⟨fun z hz => ?_, h⟩
     rcases List.mem_cons.1 hz with rfl | hz
     · exact hxy
     · exact Int.le_trans hxy (h'.1 z hz)
   · rename_i hxy
     refine List.pairwise_cons.2 ⟨fun z hz => ?_, insI_pw x l h'.2⟩
     rcases List.mem_cons.1 ((insI_perm x l).mem_iff.1 hz) with rfl | hz
     · omega
     · exact h'.1 z hz
theorem srtI_pw : ∀ l, (srtI l).Pairwise (· ≤ ·)
 | [] => .nil
 | x :: l => insI_pw x _ (srtI_pw l)
theorem sorted_ext : ∀ {l m : List Int}, l.Pairwise (· ≤ ·) → m.Pairwise (· ≤ ·) → l.Perm m → l = m
 | [], [], _, _, _ => rfl
 | [], y :: m, _, _, h => by have := h.length_eq; simp at this
 | x :: l, [], _, _, h => by have := h.length_eq; simp at this
 | x :: l, y :: m, hl, hm, h => by
   have hl' := List.pairwise_cons.1 hl
   have hm' := List.pairwise_cons.1 hm
   have h1 : x ≤ y := by
    rcases List.mem_cons.1 (h.mem_iff.2 (List.mem_cons_self ..)) with e | e
    · omega
    · exact hl'.1 y e
   have h2 : y ≤ x := by
    rcases List.mem_cons.1 (h.mem_iff.1 (List.mem_cons_self ..)) with e | e
    · omega
    · exact hm'.1 x e
   obtain rfl : x = y := by omega
   rw [sorted_ext hl'.2 hm'.2 ((List.perm_cons x).1 h)]
def closI (a : Aut) (l : List Int) : List Int := srtI (clAt a l a.n.toNat)
theorem closI_eq (a : Aut) (l : List Int) : closL a l = closI a l := by
 unfold closL closI
 have h1 : ((clAt a l a.n.toNat).mergeSort fun x y => decide (x ≤ y)).Pairwise (fun x y => decide (x ≤ y) = true) := List.pairwise_mergeSort (fun a b c h1 h2 => by simp only [decide_eq_true_eq] at *; omega) (fun a b => by simp only [Bool.or_eq_true, decide_eq_true_eq]; omega) _
 exact sorted_ext (h1.imp fun h => by simpa using h) (srtI_pw _) ((List.mergeSort_perm _ _).trans (srtI_perm _).symm)
def kidI (a : Aut) (far : List Int) (n : Int) (p : Pf) (c : Nat) : List Pf := if (nearL (closI a (leads a c p.2)) far (n - 1)).length = 0 then [] else [(p.1 ++ [(c : Int)], nearL (closI a (leads a c p.2)) far (n - 1))]
def lvI (a : Aut) (far : List Int) (n : Nat) : Nat → List Pf
 | 0 => [([], nearL (closI a a.start) far n)]
 | k + 1 => (lvI a far n k).flatMap fun p => (List.range a.syms.toNat).flatMap (kidI a far ((n : Int) - k) p)
theorem lvI_eq (a : Aut) (n : Nat) : ∀ k, lvP a n k = lvI a (farL a) n k
 | 0 => by rw [lvP, lvI, closI_eq]
 | k + 1 => by
   rw [lvP, lvI, lvI_eq a n k]
   have : ∀ p, kidsP a ((n : Int) - k) p = (List.range a.syms.toNat).flatMap (kidI a (farL a) ((n : Int) - k) p) := fun p => by
    unfold kidsP
    have : kidP a ((n : Int) - k) p = kidI a (farL a) ((n : Int) - k) p := by
     funext c
     unfold kidP kidI nextL
     rw [closI_eq]
    rw [this]
   exact flatMap_ext fun p _ => this p
def sumI (a : Aut) (far : List Int) (n k : Nat) : List (List Int) := (List.range k).flatMap fun i => outP a (lvI a far n i)
theorem sumI_eq (a : Aut) (n k : Nat) : sumP a n k = sumI a (farL a) n k := by
 unfold sumP sumI
 simp only [lvI_eq]
def bigI (a : Aut) (far : List Int) (n : Nat) : Bool := (List.range (n + 1)).any (fun k => decide (2000 < (lvI a far n (k + 1)).length)) || decide (2000 < (sumI a far n (n + 1)).length)
theorem bigI_eq (a : Aut) (n : Nat) : bigP a n ↔ bigI a (farL a) n = true := by
 unfold bigP bigI
 rw [sumI_eq]
 simp only [Bool.or_eq_true, List.any_eq_true, List.mem_range, decide_eq_true_eq, lvI_eq]
 constructor
 · rintro (⟨k, h1, h2⟩ | h)
   · exact .inl ⟨k, by omega, h2⟩
   · exact .inr h
 · rintro (⟨k, h1, h2⟩ | h)
   · exact .inl ⟨k, by omega, h2⟩
   · exact .inr h
def subI (a : Aut) : Srch (List Int) (List Int) := ⟨id, 2000, a.syms.toNat, fun _ l s => closI a (leads a (s : Nat) l)⟩
theorem subI_eq (a : Aut) : subW a = subI a := by
 unfold subW subI
 congr 1
 funext _ l s
 unfold nextL
 rw [closI_eq]
theorem subT_of {a : Aut} {q : List (List Int) × List (List Nat)} (i : Nat) (h : (subI a).upto (closI a a.start) i = some q) (hl : q.1.length ≤ i) (hi : i ≤ 2000) : subT a = some ⟨a.syms.toNat, q.2, q.1.map (accB a)⟩ := by
 unfold subT
 rw [subI_eq, closI_eq, Srch.all_some h hl hi]; rfl
theorem redX_of {a : Aut} {q : List (List Int) × List (List Nat)} {A : Aut} (i : Nat) (h : (subI a).upto (closI a a.start) i = some q) (hl : q.1.length ≤ i) (hi : i ≤ 2000) (hA : leastT ⟨a.syms.toNat, q.2, q.1.map (accB a)⟩ = some A) : redX a = .ok A := by
 unfold redX
 rw [subT_of i h hl hi]
 dsimp only
 rw [hA]; rfl
theorem bothX_of {a b A B : Aut} {q : List ((Nat × Nat) × (Int × Int)) × List (List Nat)} (i : Nat) (ha : redX a = .ok A) (hb : redX b = .ok B) (h : (prodW A B).upto ((0, 0), (-1, -1)) i = some q) (hl : q.1.length ≤ i) (hi : i ≤ 2000) : bothX a b = .ok (A, B, q) := by
 unfold bothX
 rw [ha, hb]
 dsimp only
 rw [show prodQ A B = some q from Srch.all_some h hl hi]
theorem cmpX_of {a b A B : Aut} {q : List ((Nat × Nat) × (Int × Int)) × List (List Nat)} {op : Int} (hf : fitX a b = 0) (h : bothX a b = .ok (A, B, q)) : cmpX a b op = ((cmpR A B op q).1, (cmpR A B op q).2, 0) := by
 unfold cmpX
 rw [if_neg (fun h => h hf), h]
def ex07 : Aut := ⟨2, 2, [0], [1], [⟨0, 0, 0⟩, ⟨0, 0, 1⟩, ⟨0, 1, 1⟩]⟩
def ex07M : Aut := ⟨2, 2, [0], [1], [⟨0, 0, 0⟩, ⟨0, 1, 1⟩, ⟨1, 0, 0⟩, ⟨1, 1, 1⟩]⟩
theorem ex07_ok : autOk ex07 = true := by kernel_rfl
theorem ex07_sub : (subI ex07).upto (closI ex07 ex07.start) 2 = some ([[0], [0, 1]], [[0, 1], [0, 1]]) := by kernel_rfl
theorem ex07_min : leastT ⟨2, [[0, 1], [0, 1]], [false, true]⟩ = some ex07M := by kernel_rfl
theorem ex07_red : redX ex07 = .ok ex07M := redX_of 2 ex07_sub (by decide) (by decide) ex07_min
theorem ex07_minX : minX ex07 = .ok ex07M := by unfold minX; rw [ex07_ok, if_pos rfl, ex07_red]
theorem ex07_subM : (subI ex07M).upto (closI ex07M ex07M.start) 2 = some ([[0], [1]], [[0, 1], [0, 1]]) := by kernel_rfl
theorem ex07_redM : redX ex07M = .ok ex07M := redX_of 2 ex07_subM (by decide) (by decide) ex07_min
theorem tSl75_LfT : SlT Tryz.prog 75 25 5 = true := by kernel_rfl
theorem aut_ext {a b : Aut} (h1 : a.n = b.n) (h2 : a.syms = b.syms) (h3 : a.start = b.start) (h4 : a.fin = b.fin) (h5 : a.moves = b.moves) : a = b := by
 cases a; cases b; simp_all
instance : DecidableEq Aut := fun a b => if h : a.n = b.n ∧ a.syms = b.syms ∧ a.start = b.start ∧ a.fin = b.fin ∧ a.moves = b.moves then .isTrue (aut_ext h.1 h.2.1 h.2.2.1 h.2.2.2.1 h.2.2.2.2) else .isFalse fun e => h (by subst e; exact ⟨rfl, rfl, rfl, rfl, rfl⟩)
def cAut (a : Aut) : List PV := [pInt a.n, pInt a.syms, pInts a.start, pInts a.fin, pMvs a.moves]
theorem cAut_len (a : Aut) : (cAut a).length = 5 := rfl
def greatA (a : Aut) : Bool := (decide (60 < a.n) && decide (a.n ≤ 2000)) || (decide (8 < a.syms) && decide (a.syms ≤ 40)) || decide (400 < (a.moves.length : Int)) || decide (80 < (a.start.length : Int)) || decide (80 < (a.fin.length : Int))
theorem indexFuncAut_e (f : Nat) (caps : List PV) (p : Aut → Bool) (l : List Aut) (hc : ∀ args w, (callFunc f args).run Tryz.prog w = .ok (.enter f args) w) (hf : ∀ s ∈ l, AF Tryz.prog f (.agg (cAut s) :: caps) (· = pBool (p s))) : AF Tryz.prog 97 [.sl l.length (l.flatMap cAut), .fn f caps] (· = pInt (idx p l)) := by
 refine AF.of_body 19 Tryz.func97 rfl Tryz.ntmps97 (Nat.le_of_ble_eq_true rfl) ?_
 intro w0 M0 vs hl hv
 obtain ⟨v0, v1, rfl⟩ := len2 hl
 clear hl hv
 refine aC_slen 0 rfl fun hlen => ?_
 refine nav ?_
 (refine aC_region ?_ <;> refine xL 4 q_assign ?_ <;> refine aL_end (nav ?_) <;> try dsimp only)
 (refine aC_region ?_ <;> refine xL 6 q_move ?_ <;> refine xL 7 (q_len tSl75_LfT) ?_ <;> refine xL 8 q_move ?_ <;> refine aL_end (nav ?_) <;> try dsimp only)
 refine aC_loop (ι := { k : Nat // k ≤ l.length ∧ ∀ i y, i < k → l[i]? = some y → p y = false }) (fun k => ⟨[(0, _, _), (1, _, _), (7, _, _), (8, .int .i64 k.1, pInt k.1)], []⟩) (fun k => l.length - k.1) ⟨0, by omega, by omega⟩ (fun a w H => H.weaken ⟨rfl, rfl, rfl, rfl, trivial⟩ trivial) ?_
 rintro ⟨k, hk, hp⟩
 dsimp only
 refine nav ?_
 (refine aC_region ?_ <;> refine xL 9 q_lss ?_ <;> refine aL_end (nav ?_) <;> try dsimp only)
 (first | refine cCd ?_ ?_ | refine cC ?_ ?_) <;> intro hb9
 · first
   | exact Bool.noConfusion hb9
   | (
    obtain ⟨x, hx⟩ := get_some (show k < l.length by omega)
    have e1 := flat_drop cAut_len l k x hx
    have e2 := flat_fit cAut_len hx
    refine nav ?_
    (refine aC_region ?_ <;> refine xL 10 q_move ?_ <;> refine xL 5 q_assign ?_ <;> refine aL_end (nav ?_) <;> try dsimp only)
    (refine aC_region ?_ <;> refine xL 11 q_move ?_ <;> refine xL 12 q_move ?_ <;> refine xL 13 q_move ?_ <;> refine xL 14 (q_idxN tSl75_LfT) ?_ <;> (refine yL 15 (q_lda tAgg25_LdS) fun v15 hv15 => ?_; cases hv15) <;> (refine cS 16 (callF (f := f) (ps := caps) rfl ⟨_, rfl⟩ hc rfl (hf x (List.mem_of_getElem? hx))) fun v16 hv16 => ?_; cases hv16) <;> refine aL_end (nav ?_) <;> try dsimp only)
    (first | refine cCd ?_ ?_ | refine cC ?_ ?_) <;> intro hb16
    · first
      | exact Bool.noConfusion hb16
      | (
       refine nav ?_
       (refine aC_region ?_ <;> refine xL 17 q_move ?_ <;> refine xL 4 q_assign ?_ <;> refine aL_end (nav ?_) <;> try dsimp only)
       refine ret_shr (Tryz.results97) rfl ?_
       rw [idx_here hp hx hb16])
    · first
      | exact Bool.noConfusion hb16
      | (
       refine nav ?_
       (refine aC_region ?_ <;> refine xL 18 q_add ?_ <;> refine xL 8 q_move ?_ <;> refine aL_end (nav ?_) <;> try dsimp only)
       refine aN_again (
        ⟨k + 1, by omega, fun i y hi hy => by
         by_cases e : i = k
         · subst e; rw [hx] at hy; cases hy; exact hb16
         · exact hp i y (by omega) hy⟩
        ) (by dsimp only; omega) ⟨rfl, rfl, rfl, rfl, trivial⟩ trivial))
 · first
   | exact Bool.noConfusion hb9
   | (
    refine nav ?_
    (refine aC_region ?_ <;> refine xL 4 q_assign ?_ <;> refine aL_end (nav ?_) <;> try dsimp only)
    refine ret_shr (Tryz.results97) rfl ?_
    rw [idx_none fun i y hi hy => hp i y (by omega) hy])
theorem containsFuncAut_e (f : Nat) (caps : List PV) (p : Aut → Bool) (l : List Aut) (hc : ∀ args w, (callFunc f args).run Tryz.prog w = .ok (.enter f args) w) (hf : ∀ s ∈ l, AF Tryz.prog f (.agg (cAut s) :: caps) (· = pBool (p s))) : AF Tryz.prog 56 [.sl l.length (l.flatMap cAut), .fn f caps] (· = pBool (l.any p)) := by
 refine AF.of_body 9 Tryz.func56 rfl Tryz.ntmps56 (Nat.le_of_ble_eq_true rfl) ?_
 intro w0 M0 vs hl hv
 obtain ⟨v0, v1, rfl⟩ := len2 hl
 clear hl hv
 refine nav ?_
 (refine aC_region ?_ <;> refine xL 4 q_assign ?_ <;> refine aL_end (nav ?_) <;> try dsimp only)
 (refine aC_region ?_ <;> refine xL 5 q_move ?_ <;> refine xL 6 q_move ?_ <;> (refine cS 7 (cA Tryz.call97 (indexFuncAut_e f caps p l hc hf)) fun v7 hv7 => ?_; cases hv7) <;> refine xL 8 q_geq ?_ <;> refine xL 4 q_assign ?_ <;> refine aL_end (nav ?_) <;> try dsimp only)
 refine ret_shr (Tryz.results56) rfl ?_
 rw [idx_any]
theorem great071_e (a : Aut) : AF Tryz.prog 57 [.agg (cAut a)] (· = pBool (greatA a)) := by
 refine AF.of_body 39 Tryz.func57 rfl Tryz.ntmps57 (Nat.le_of_ble_eq_true rfl) ?_
 intro w0 M0 vs hl hv
 obtain ⟨v0, rfl⟩ := len1 hl
 clear hl hv
 refine nav ?_
 (refine aC_region ?_ <;> refine s_boxa 1 5 fun h1 => ?_ <;> refine xL 2 q_assign ?_ <;> refine aL_end (nav ?_) <;> try dsimp only)
 (refine aC_region ?_ <;> refine xL 3 (q_fldo 1 tFl25_0_LdI) ?_ <;> (refine yL 4 (q_ldo 1 tNa3_LbB) fun v4 hv4 => ?_; cases hv4) <;> refine xL 5 q_gtr ?_ <;> refine xL 6 q_move ?_ <;> (refine bLd 6 (fun hb6 => ?_) (fun hb6 => ?_) <;> (first | refine kL 7 ?_ | refine xL 7 (q_fldo 1 tFl25_0_LdI) ?_)) <;> (first | refine kL 8 ?_ | (refine yL 8 (q_ldo 1 tNa3_LbB) fun v8 hv8 => ?_; cases hv8)) <;> (first | refine kL 9 ?_ | refine xL 9 q_leq ?_) <;> refine xL 10 q_pick ?_ <;> refine xL 11 q_move ?_ <;> (first | refine xL 12 (q_fldo 1 tFl25_1_LdI) ?_ | (refine bLd 11 (fun hb11 => ?_) (fun hb11 => ?_) <;> (first | refine kL 12 ?_ | refine xL 12 (q_fldo 1 tFl25_1_LdI) ?_))) <;> (first | refine kL 13 ?_ | (refine yL 13 (q_ldo 1 tNa3_LbB) fun v13 hv13 => ?_; cases hv13)) <;> (first | refine kL 14 ?_ | refine xL 14 q_gtr ?_) <;> (first | refine kL 15 ?_ | refine xL 15 q_move ?_) <;> (first | refine kL 16 ?_ | (refine bLd 15 (fun hb15 => ?_) (fun hb15 => ?_) <;> (first | refine kL 16 ?_ | refine xL 16 (q_fldo 1 tFl25_1_LdI) ?_))) <;> (first | refine kL 17 ?_ | (refine yL 17 (q_ldo 1 tNa3_LbB) fun v17 hv17 => ?_; cases hv17)) <;> (first | refine kL 18 ?_ | refine xL 18 q_leq ?_) <;> (first | refine kL 19 ?_ | refine xL 19 q_pick ?_) <;> refine xL 20 q_pick ?_ <;> refine xL 21 q_move ?_ <;> (first | refine kL 22 ?_ | refine xL 22 (q_fldo 1 tFl25_4_LdI) ?_ | (refine bLd 21 (fun hb21 => ?_) (fun hb21 => ?_) <;> (first | refine kL 22 ?_ | refine xL 22 (q_fldo 1 tFl25_4_LdI) ?_))) <;> (first | refine kL 23 ?_ | (refine yL 23 (q_ldo 1 tNa23_LdI) fun v23 hv23 => ?_; cases hv23)) <;> (first | refine kL 24 ?_ | refine xL 24 (q_len tSl23_LdI) ?_) <;> (first | refine kL 25 ?_ | refine xL 25 q_gtr ?_) <;> refine xL 26 q_pick ?_ <;> refine xL 27 q_move ?_ <;> (first | refine kL 28 ?_ | (refine bLd 27 (fun hb27 => ?_) (fun hb27 => ?_) <;> (first | refine kL 28 ?_ | refine xL 28 (q_fldo 1 tFl25_2_LdI) ?_))) <;> (first | refine kL 29 ?_ | (refine yL 29 (q_ldo 1 tNa22_LdI) fun v29 hv29 => ?_; cases hv29)) <;> (first | refine kL 30 ?_ | refine xL 30 (q_len tSl22_LbB) ?_) <;> (first | refine kL 31 ?_ | refine xL 31 q_gtr ?_) <;> refine xL 32 q_pick ?_ <;> refine xL 33 q_move ?_ <;> (first | refine kL 34 ?_ | (refine bLd 33 (fun hb33 => ?_) (fun hb33 => ?_) <;> (first | refine kL 34 ?_ | refine xL 34 (q_fldo 1 tFl25_3_LdI) ?_))) <;> (first | refine kL 35 ?_ | (refine yL 35 (q_ldo 1 tNa22_LdI) fun v35 hv35 => ?_; cases hv35)) <;> (first | refine kL 36 ?_ | refine xL 36 (q_len tSl22_LbB) ?_) <;> (first | refine kL 37 ?_ | refine xL 37 q_gtr ?_) <;> refine xL 38 q_pick ?_ <;> refine xL 2 q_assign ?_ <;> refine aL_end (nav ?_) <;> try dsimp only) <;> (
  refine ret_shr (Tryz.results57) rfl ?_
  refine congrArg pBool ?_
  unfold greatA
  clear w0 M0 v0 h1
  first | (simp_all; done) | (simp_all; omega))
theorem great07_e (l : List Aut) : AF Tryz.prog 14 [.sl l.length (l.flatMap cAut)] (· = pBool (l.any greatA)) := by
 refine AF.of_body 5 Tryz.func14 rfl Tryz.ntmps14 (Nat.le_of_ble_eq_true rfl) ?_
 intro w0 M0 vs hl hv
 obtain ⟨v0, rfl⟩ := len1 hl
 clear hl hv
 refine nav ?_
 (refine aC_region ?_ <;> refine xL 2 q_assign ?_ <;> refine aL_end (nav ?_) <;> try dsimp only)
 (refine aC_region ?_ <;> refine xL 3 q_move ?_ <;> (refine cS 4 (cA Tryz.call56 (containsFuncAut_e 57 [] greatA l (Tryz.call57) (fun a _ => great071_e a))) fun v4 hv4 => ?_; cases hv4) <;> refine xL 2 q_assign ?_ <;> refine aL_end (nav ?_) <;> try dsimp only)
 exact ret_shr Tryz.results14 rfl rfl
theorem ends07_e : AF Tryz.prog 53 [] (· = pAut ex07) := by
 refine AF.of_body 8 Tryz.func53 rfl Tryz.ntmps53 (Nat.le_of_ble_eq_true rfl) ?_
 intro w0 M0 vs hl hv
 obtain rfl := List.eq_nil_of_length_eq_zero hl
 clear hl hv
 refine nav ?_
 (refine aC_region ?_ <;> refine s_alloc [(.int .i64 0), (.int .i64 0), (.slice none 0 0), (.slice none 0 0), (.slice none 0 0)] 5 0 tZr25_LfD fun h0 => ?_ <;> refine aL_end (nav ?_) <;> try dsimp only)
 (refine aC_region ?_ <;> (refine s_lit1 (kk := 1) 1 tEl22_LdI fun h1 ho1 => ?_; refine aL_ent (En.freeze (l := 1) (t := 1) rfl rfl) fun _ => ?_; refine aL_ent (reslot (t := 1) (p' := pInts [0]) rfl rfl) fun _ => ?_) <;> (refine s_lit1 (kk := 1) 2 tEl22_LdI fun h2 ho2 => ?_; refine aL_ent (En.freeze (l := 2) (t := 2) rfl rfl) fun _ => ?_; refine aL_ent (reslot (t := 2) (p' := pInts [1]) rfl rfl) fun _ => ?_) <;> refine xL 3 (q_build tSt72_LfD) ?_ <;> refine xL 4 (q_build tSt72_LfD) ?_ <;> refine xL 5 (q_build tSt72_LfD) ?_ <;> (refine s_lita (kk := 3) (xs := [_, _, _]) (cs := [[_, _, _], [_, _, _], [_, _, _]]) 6 tEl23_LdR fun h6 ho6 => ?_; refine aL_ent (En.freeze (l := 6) (t := 6) rfl rfl) fun _ => ?_; refine aL_ent (reslot (t := 6) (p' := pMvs ex07.moves) rfl rfl) fun _ => ?_) <;> refine xL 7 (q_build tSt25_LfD) ?_ <;> refine s_sta 0 tAgg25_LdS ?_ <;> refine aL_end (nav ?_) <;> try dsimp only)
 exact ret_cell (k := 5) 0 (by kernel_rfl) (Tryz.results53) rfl rfl (Nat.le_of_ble_eq_true rfl) (by decide) rfl rfl
def ex07S : Aut := ⟨2, 2, [0], [0], [⟨0, 1, 0⟩, ⟨0, 0, 1⟩, ⟨1, 1, 0⟩, ⟨1, 0, 1⟩]⟩
theorem ex07_subS : (subI (mkA (starA ex07))).upto (closI (mkA (starA ex07)) (mkA (starA ex07)).start) 3 = some ([[0, 2], [0], [0, 1, 2]], [[1, 2], [1, 2], [1, 2]]) := by kernel_rfl
theorem ex07_minS : leastT ⟨2, [[1, 2], [1, 2], [1, 2]], [true, false, true]⟩ = some ex07S := by kernel_rfl
theorem ex07_redS : redX (mkA (starA ex07)) = .ok ex07S := redX_of 3 ex07_subS (by decide) (by decide) ex07_minS
theorem ex07_star : starX ex07 = .ok ex07S := by
 unfold starX madeX redL
 rw [ex07_ok, if_pos rfl, if_neg (by show ¬ (2000 < ((2 : Int) + 1) ∨ 20000 < (mkM (starA ex07).moves).length); rw [show (mkM (starA ex07).moves).length = 5 by kernel_rfl]; omega)]
 exact ex07_redS
theorem ex07_subS2 : (subI ex07S).upto (closI ex07S ex07S.start) 2 = some ([[0], [1]], [[1, 0], [1, 0]]) := by kernel_rfl
theorem ex07_minS2 : leastT ⟨2, [[1, 0], [1, 0]], [true, false]⟩ = some ex07S := by kernel_rfl
theorem ex07_redS2 : redX ex07S = .ok ex07S := redX_of 2 ex07_subS2 (by decide) (by decide) ex07_minS2
theorem ex07_prodS : (prodW ex07M ex07S).upto ((0, 0), (-1, -1)) 3 = some ([((0, 0), (-1, -1)), ((0, 1), (0, 0)), ((1, 0), (0, 1))], [[1, 2], [1, 2], [1, 2]]) := by kernel_rfl
theorem ex07_cmpS : cmpX ex07 ex07S 4 = (false, [], 0) := (cmpX_of (by kernel_rfl) (bothX_of 3 ex07_red ex07_redS2 ex07_prodS (by decide) (by decide))).trans (by kernel_rfl)
theorem ex07_prodM : (prodW ex07M ex07M).upto ((0, 0), (-1, -1)) 2 = some ([((0, 0), (-1, -1)), ((1, 1), (0, 1))], [[0, 1], [0, 1]]) := by kernel_rfl
theorem ex07_cmpM : cmpX ex07 ex07M 4 = (true, [], 0) := (cmpX_of (by kernel_rfl) (bothX_of 2 ex07_red ex07_redM ex07_prodM (by decide) (by decide))).trans (by kernel_rfl)
theorem ex07_far : farL ex07 = [1, 0] := by kernel_rfl
theorem ex07_big : bigI ex07 [1, 0] 2 = false := by kernel_rfl
theorem ex07_sum : sumI ex07 [1, 0] 2 3 = [[1], [0, 1], [1, 1]] := by kernel_rfl
theorem ex07_words : AF Tryz.prog 15 [pAut ex07, pInt 2] (· = .tup [pIntss [[1], [0, 1], [1, 1]], pInt 0]) := (aWords_e ex07 2).mono fun p hp => by
 rcases hp with ⟨h, _⟩ | ⟨_, h, _⟩ | ⟨_, _, _, h, _⟩ | ⟨_, _, _, _, h⟩
 · rw [ex07_ok] at h; cases h
 · omega
 · rw [bigI_eq, ex07_far, show (2 : Int).toNat = 2 from rfl, ex07_big] at h; cases h
 · rw [h, sumI_eq, ex07_far, show (2 : Int).toNat = 2 from rfl, ex07_sum]
theorem ex07_minE : AF Tryz.prog 26 [pAut ex07] (· = .tup [pAut ex07M, pInt 0]) := by
 have := aMinimalW_e ex07
 rw [ex07_minX] at this; exact this
theorem ex07_starE : AF Tryz.prog 44 [pAut ex07] (· = .tup [pAut ex07S, pInt 0]) := by
 have := aStar_e ex07
 rw [ex07_star] at this; exact this
theorem ex07_eqS : AF Tryz.prog 33 [pAut ex07, pAut ex07S] (· = .tup [pBool false, pInts [], pInt 0]) := by
 have := aEquivalent_e ex07 ex07S
 rw [ex07_cmpS] at this; exact this
theorem ex07_eqM : AF Tryz.prog 33 [pAut ex07, pAut ex07M] (· = .tup [pBool true, pInts [], pInt 0]) := by
 have := aEquivalent_e ex07 ex07M
 rw [ex07_cmpM] at this; exact this
set_option maxHeartbeats 2000000 in
theorem awake07_e : AF Tryz.prog 13 [] (· = pBool true) := by
 refine AF.of_body 94 Tryz.func13 rfl Tryz.ntmps13 (Nat.le_of_ble_eq_true rfl) ?_
 intro w0 M0 vs hl hv
 obtain rfl := List.eq_nil_of_length_eq_zero hl
 clear hl hv
 refine nav ?_
 (refine aC_region ?_ <;> refine xL 0 q_assign ?_ <;> refine aL_end (nav ?_) <;> try dsimp only)
 (refine aC_region ?_ <;> (refine cD 15 (cA Tryz.call53 (ends07_e)) fun v15 hv15 => ?_; clear hv15) <;> refine s_alloc [(.int .i64 0), (.int .i64 0), (.slice none 0 0), (.slice none 0 0), (.slice none 0 0)] 5 1 tZr25_LfD fun h1 => ?_ <;> refine s_sta 1 tAgg25_LdS ?_ <;> refine aL_end (nav ?_) <;> try dsimp only)
 (refine aC_region ?_ <;> (refine yL 17 (q_ldao 1 tAgg25_LdS) fun v17 hv17 => ?_; cases hv17) <;> (refine cP 18 (cA Tryz.call26 (ex07_minE)) fun va18 vb18 hva18 hvb18 => ?_; cases hvb18) <;> refine xL 16 q_move ?_ <;> refine xL 19 q_extract ?_ <;> refine xL 20 q_extract ?_ <;> refine s_alloc [(.int .i64 0), (.int .i64 0), (.slice none 0 0), (.slice none 0 0), (.slice none 0 0)] 5 2 tZr25_LfD fun h2 => ?_ <;> refine s_sta 2 tAgg25_LdS ?_ <;> refine xL 3 q_assign ?_ <;> refine aL_end (nav ?_) <;> try dsimp only)
 (refine aC_region ?_ <;> (refine yL 22 (q_ldao 1 tAgg25_LdS) fun v22 hv22 => ?_; cases hv22) <;> (refine cP 23 (cA Tryz.call15 (ex07_words)) fun va23 vb23 hva23 hvb23 => ?_; cases hvb23) <;> refine xL 21 q_move ?_ <;> refine xL 24 q_extract ?_ <;> refine xL 25 q_extract ?_ <;> refine xL 4 q_assign ?_ <;> refine xL 5 q_assign ?_ <;> refine aL_end (nav ?_) <;> try dsimp only)
 (refine aC_region ?_ <;> (refine yL 27 (q_ldao 1 tAgg25_LdS) fun v27 hv27 => ?_; cases hv27) <;> (refine cP 28 (cA Tryz.call44 (ex07_starE)) fun va28 vb28 hva28 hvb28 => ?_; cases hvb28) <;> refine xL 26 q_move ?_ <;> refine xL 29 q_extract ?_ <;> refine xL 30 q_extract ?_ <;> refine s_alloc [(.int .i64 0), (.int .i64 0), (.slice none 0 0), (.slice none 0 0), (.slice none 0 0)] 5 6 tZr25_LfD fun h6 => ?_ <;> refine s_sta 6 tAgg25_LdS ?_ <;> refine xL 7 q_assign ?_ <;> refine aL_end (nav ?_) <;> try dsimp only)
 (refine aC_region ?_ <;> (refine yL 32 (q_ldao 1 tAgg25_LdS) fun v32 hv32 => ?_; cases hv32) <;> (refine yL 33 (q_ldao 6 tAgg25_LdS) fun v33 hv33 => ?_; cases hv33) <;> (refine cPx3 34 (cA Tryz.call33 ex07_eqS) fun va34 vb34 vc34 hva34 hvb34 hvc34 => ?_; cases hva34; cases hvc34) <;> refine xL 31 q_move ?_ <;> refine xL 35 q_extract ?_ <;> refine xL 36 q_extract ?_ <;> refine xL 37 q_extract ?_ <;> refine xL 8 q_assign ?_ <;> refine xL 9 q_assign ?_ <;> refine xL 10 q_assign ?_ <;> refine aL_end (nav ?_) <;> try dsimp only)
 (refine aC_region ?_ <;> (refine yL 39 (q_ldao 1 tAgg25_LdS) fun v39 hv39 => ?_; cases hv39) <;> (refine yL 40 (q_ldao 2 tAgg25_LdS) fun v40 hv40 => ?_; cases hv40) <;> (refine cPx3 41 (cA Tryz.call33 ex07_eqM) fun va41 vb41 vc41 hva41 hvb41 hvc41 => ?_; cases hva41; cases hvc41) <;> refine xL 38 q_move ?_ <;> refine xL 42 q_extract ?_ <;> refine xL 43 q_extract ?_ <;> refine xL 44 q_extract ?_ <;> refine xL 11 q_assign ?_ <;> refine xL 12 q_assign ?_ <;> refine xL 13 q_assign ?_ <;> refine aL_end (nav ?_) <;> try dsimp only)
 (refine aC_region ?_ <;> refine xL 45 (q_build tSt72_LfD) ?_ <;> refine xL 46 (q_build tSt72_LfD) ?_ <;> refine xL 47 (q_build tSt72_LfD) ?_ <;> refine xL 48 (q_build tSt72_LfD) ?_ <;> (refine s_lita (kk := 3) (xs := [_, _, _, _]) (cs := [[_, _, _], [_, _, _], [_, _, _], [_, _, _]]) 49 tEl23_LdR fun h49 ho49 => ?_; refine aL_ent (En.freeze (l := 49) (t := 49) rfl rfl) fun _ => ?_; refine aL_ent (reslot (t := 49) (p' := pMvs ex07M.moves) rfl rfl) fun _ => ?_) <;> refine xL 14 q_assign ?_ <;> refine aL_end (nav ?_) <;> try dsimp only)
 (refine aC_region ?_ <;> refine xL 50 q_move ?_ <;> refine xL 51 q_eql ?_ <;> refine xL 52 q_move ?_ <;> refine xL 53 (q_fldo 2 tFl25_4_LdI) ?_ <;> (refine yL 54 (q_ldo 2 tNa23_LdI) fun v54 hv54 => ?_; cases hv54) <;> refine xL 55 q_move ?_ <;> (refine cS 56 (cA Tryz.call54 ((sEqualMv_e ex07M.moves ex07M.moves).mono (R' := (· = pBool true)) fun p hp => by rw [hp]; rfl)) fun v56 hv56 => ?_; cases hv56) <;> refine xL 57 q_pick ?_ <;> refine xL 58 q_move ?_ <;> refine xL 59 q_move ?_ <;> refine xL 60 q_eql ?_ <;> refine xL 61 q_pick ?_ <;> refine xL 62 q_move ?_ <;> refine xL 63 q_move ?_ <;> (refine s_lit1 (kk := 1) 64 tEl22_LdI fun h64 ho64 => ?_; refine aL_ent (En.freeze (l := 64) (t := 64) rfl rfl) fun _ => ?_; refine aL_ent (reslot (t := 64) (p' := pInts [1]) rfl rfl) fun _ => ?_) <;> (refine s_litn (xs := [_, _]) 65 tEl22_LdI fun h65 ho65 => ?_; refine aL_ent (En.freeze (l := 65) (t := 65) rfl rfl) fun _ => ?_; refine aL_ent (reslot (t := 65) (p' := pInts [0, 1]) rfl rfl) fun _ => ?_) <;> (refine s_litn (xs := [_, _]) 66 tEl22_LdI fun h66 ho66 => ?_; refine aL_ent (En.freeze (l := 66) (t := 66) rfl rfl) fun _ => ?_; refine aL_ent (reslot (t := 66) (p' := pInts [1, 1]) rfl rfl) fun _ => ?_) <;> (refine s_litn (xs := [_, _, _]) 67 tEl28_LdS fun h67 ho67 => ?_; refine aL_ent (En.freeze (l := 67) (t := 67) rfl rfl) fun _ => ?_; refine aL_ent (reslot (t := 67) (p' := pIntss [[1], [0, 1], [1, 1]]) rfl rfl) fun _ => ?_) <;> (refine cS 68 (cA Tryz.call55 ((sEqualFuncInts_e [[1], [0, 1], [1, 1]] [[1], [0, 1], [1, 1]]).mono (R' := (· = pBool true)) fun p hp => by rw [hp]; rfl)) fun v68 hv68 => ?_; cases hv68) <;> refine xL 69 q_pick ?_ <;> refine xL 70 q_move ?_ <;> refine xL 71 q_move ?_ <;> refine xL 72 q_eql ?_ <;> refine xL 73 q_pick ?_ <;> refine xL 74 q_move ?_ <;> refine xL 75 q_move ?_ <;> refine xL 76 q_eql ?_ <;> refine xL 77 q_pick ?_ <;> refine xL 78 q_move ?_ <;> refine xL 79 q_move ?_ <;> refine xL 80 q_not ?_ <;> refine xL 81 q_pick ?_ <;> refine xL 82 q_move ?_ <;> refine xL 83 q_move ?_ <;> refine xL 84 (q_len tSl22_LbB) ?_ <;> refine xL 85 q_eql ?_ <;> refine xL 86 q_pick ?_ <;> refine xL 87 q_move ?_ <;> refine xL 88 q_move ?_ <;> refine xL 89 q_eql ?_ <;> refine xL 90 q_pick ?_ <;> refine xL 91 q_move ?_ <;> refine xL 92 q_move ?_ <;> refine xL 93 q_pick ?_ <;> refine xL 0 q_assign ?_ <;> refine aL_end (nav ?_) <;> try dsimp only) <;> (
  refine ret_shr (Tryz.results13) rfl rfl)
end Go.Proofs.YtgigclnaicbiaaaGreatDoor
