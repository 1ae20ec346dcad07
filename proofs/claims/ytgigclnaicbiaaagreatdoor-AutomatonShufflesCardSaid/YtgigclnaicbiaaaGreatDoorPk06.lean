/-
  Walks: automata: the first word of a product.
  Walks: automata: both, compare, Equivalent, Included, Product.
  Walks: automata: Product.
  Walks: the reference's automata: the table of the pairs of two automata.
  Walks: the reference's automata: the pairs of two least automata.
  Walks: the reference's automata: Product.
  Plain laws: what the reference finishes; a move put in its place. No program in sight.
  Walks: the reference's automata: given, added, moved, insert, finish.
  Walks: automata: Union.
  Walks: the reference's automata: Union, Star, Reverse.
  The engine: the end of an owned row as a slice of its own. No program in sight.
  Walks: automata: moves in order are kept once each.
  Walks: automata: what an operation made, moves more than once among them.
  Plain laws: shuffles. No program in sight.
-/
import Derived.Test.YtgigclnaicbiaaaGreatDoorPk05
import Derived.Test.YtgigclnaicbiaaaGreatDoorMShelfG
namespace Go.Proofs.YtgigclnaicbiaaaGreatDoor
open Go.RowKit Go.Cb Go.En
set_option linter.all false
set_option maxRecDepth 100000
theorem sIndexBool_e (l : List Bool) : AF Tryz.prog 123 [.sl l.length (l.map pBool), pBool true] (· = pInt (idx (fun x => x == true) l)) := by
 refine AF.of_body 19 Tryz.func123 rfl Tryz.ntmps123 (Nat.le_of_ble_eq_true rfl) ?_
 intro w0 M0 vs hl hv
 obtain ⟨v0, v1, rfl⟩ := len2 hl
 obtain rfl := hv 1 _ _ rfl rfl
 clear hl hv
 refine aC_slen 0 rfl fun hlen => ?_
 refine nav ?_
 (refine aC_region ?_ <;> refine xL 4 q_assign ?_ <;> refine aL_end (nav ?_) <;> try dsimp only)
 (refine aC_region ?_ <;> refine xL 6 q_move ?_ <;> refine xL 7 (q_len tSl66_LdJ) ?_ <;> refine xL 8 q_move ?_ <;> refine aL_end (nav ?_) <;> try dsimp only)
 refine aC_loop (ι := { k : Nat // k ≤ l.length ∧ ∀ i y, i < k → l[i]? = some y → (y == true) = false }) (fun k => ⟨[(0, _, _), (1, _, _), (7, _, _), (8, .int .i64 k.1, pInt k.1)], []⟩) (fun k => l.length - k.1) ⟨0, by omega, by omega⟩ (fun a w H => H.weaken ⟨rfl, rfl, rfl, rfl, trivial⟩ trivial) ?_
 rintro ⟨k, hk, hp⟩
 dsimp only
 refine nav ?_
 (refine aC_region ?_ <;> refine xL 9 q_lss ?_ <;> refine aL_end (nav ?_) <;> try dsimp only)
 (first | refine cCd ?_ ?_ | refine cC ?_ ?_) <;> intro hb9
 · first
   | exact Bool.noConfusion hb9
   | (
    obtain ⟨x, hx⟩ := get_some (show k < l.length by omega)
    have e1 := map_at (f := pBool) hx
    refine nav ?_
    (refine aC_region ?_ <;> refine xL 10 q_move ?_ <;> refine xL 5 q_assign ?_ <;> refine aL_end (nav ?_) <;> try dsimp only)
    (refine aC_region ?_ <;> refine xL 11 q_move ?_ <;> refine xL 12 q_move ?_ <;> refine xL 13 q_move ?_ <;> refine xL 14 (q_idxN tSl66_LdJ) ?_ <;> (refine yL 15 (q_ld tNa4_LdJ) fun v15 hv15 => ?_; cases hv15) <;> refine xL 16 (q_beql Tryz.underlying4) ?_ <;> refine aL_end (nav ?_) <;> try dsimp only)
    (first | refine cCd ?_ ?_ | refine cC ?_ ?_) <;> intro hb16
    · first
      | exact Bool.noConfusion hb16
      | (
       have hx1 : (x == true) = true := by cases x <;> simp_all
       refine nav ?_
       (refine aC_region ?_ <;> refine xL 17 q_move ?_ <;> refine xL 4 q_assign ?_ <;> refine aL_end (nav ?_) <;> try dsimp only)
       refine ret_shr (Tryz.results123) rfl ?_
       rw [idx_here hp hx hx1])
    · first
      | exact Bool.noConfusion hb16
      | (
       have hx1 : (x == true) = false := by cases x <;> simp_all
       refine nav ?_
       (refine aC_region ?_ <;> refine xL 18 q_add ?_ <;> refine xL 8 q_move ?_ <;> refine aL_end (nav ?_) <;> try dsimp only)
       refine aN_again (
        ⟨k + 1, by omega, fun i y hi hy => by
         by_cases e : i = k
         · subst e; rw [hx] at hy; cases hy; exact hx1
         · exact hp i y (by omega) hy⟩
        ) (by dsimp only; omega) ⟨rfl, rfl, rfl, rfl, trivial⟩ trivial))
 · first
   | exact Bool.noConfusion hb9
   | (
    refine nav ?_
    (refine aC_region ?_ <;> refine xL 4 q_assign ?_ <;> refine aL_end (nav ?_) <;> try dsimp only)
    refine ret_shr (Tryz.results123) rfl ?_
    rw [idx_none fun i y hi hy => hp i y (by omega) hy])
theorem revI : RevI Tryz.prog 52 := fun blk cap zs w hH _ hsz => (Tryz.slices_Reverse_int blk 0 cap zs w hH (by omega)).mono fun e w' ⟨h1, n, h2⟩ => ⟨h1, n, #[], by rw [h2]; simp [Go.Sort.grow]; rfl⟩
theorem revI0 : SortI0 Tryz.prog 52 := fun p cap w => Tryz.slices_Reverse_int_empty p cap w
theorem cmpR_no {A B : Aut} {op : Int} {q : List PrS × List (List Nat)} (h : idx (fun x => x == true) (q.1.map (prodF A B op)) = -1) : cmpR A B op q = (true, []) := by
 rw [idxB] at h
 unfold cmpR
 cases h1 : (q.1.map (prodF A B op)).idxOf? true with
 | none => rfl
 | some i =>
   rw [h1] at h
   have h' : ((i : Nat) : Int) = -1 := h
   omega
theorem cmpR_yes {A B : Aut} {op : Int} {q : List PrS × List (List Nat)} {i : Nat} (h : idx (fun x => x == true) (q.1.map (prodF A B op)) = (i : Int)) : cmpR A B op q = (false, wayP (q.1.map (·.2)) i) := by
 rw [idxB] at h
 unfold cmpR
 cases h1 : (q.1.map (prodF A B op)).idxOf? true with
 | none =>
   rw [h1] at h
   have h' : (-1 : Int) = ((i : Nat) : Int) := h
   omega
 | some j =>
   rw [h1] at h
   dsimp only at h ⊢
   rw [show j = i by omega]; rfl
theorem idx_cases {A B : Aut} {op : Int} (o : List PrS) {v : Int} (h : idx (fun x => x == true) (o.map (prodF A B op)) = v) : v = -1 ∨ ∃ i : Nat, v = (i : Int) ∧ i < o.length := by
 rcases idx_nat (p := fun x => x == true) (l := o.map (prodF A B op)) with ⟨h1, _⟩ | ⟨i, x, h1, h2, _⟩
 · exact .inl (by rw [← h, h1])
 · exact .inr ⟨i, by rw [← h, h1], by have := lt_of_get h2; rwa [List.length_map] at this⟩
theorem aFirst_e (A B : Aut) (op : Int) (o : List PrS) (rows : List (List Nat)) (hu : (prodW A B).upto ((0, 0), (-1, -1)) 2000 = some (o, rows)) (h0 : o[0]? = some ((0, 0), (-1, -1))) (hcap : o.length ≤ 2000) : AF Tryz.prog 115 [pPairs A B op (o, rows)] (· = .tup [pInts (cmpR A B op (o, rows)).2, pBool (!(cmpR A B op (o, rows)).1)]) := by
 obtain ⟨v, hv⟩ : ∃ v, idx (fun x => x == true) (o.map (prodF A B op)) = v := ⟨_, rfl⟩
 have hix := sIndexBool_e (o.map (prodF A B op))
 rw [hv] at hix
 have hvc := idx_cases o hv
 have hbk := prod_back hu h0
 refine AF.of_body 34 Tryz.func115 rfl Tryz.ntmps115 (Nat.le_of_ble_eq_true rfl) ?_
 intro w0 M0 vs hl hv
 obtain ⟨v0, rfl⟩ := len1 hl
 clear hl hv
 refine nav ?_
 (refine aC_region ?_ <;> refine s_boxa 1 5 fun h1 => ?_ <;> refine xL 2 q_assign ?_ <;> refine xL 3 q_assign ?_ <;> refine aL_end (nav ?_) <;> try dsimp only)
 (refine aC_region ?_ <;> refine xL 6 (q_fldo 1 tFl95_0_LfP) ?_ <;> refine xL 7 (q_fldo 1 tFl93_2_LfB) ?_ <;> (refine yL 8 (q_ldo 1 tNa66_LdJ) fun v8 hv8 => ?_; cases hv8) <;> (refine cS 9 (cA Tryz.call123 (hix)) fun v9 hv9 => ?_; cases hv9) <;> refine xL 4 q_assign ?_ <;> refine aL_end (nav ?_) <;> try dsimp only)
 (refine aC_region ?_ <;> refine xL 10 q_move ?_ <;> refine xL 11 q_lss ?_ <;> refine aL_end (nav ?_) <;> try dsimp only)
 (first | refine cCd ?_ ?_ | refine cC ?_ ?_) <;> intro hb11
 · first
   | exact Bool.noConfusion hb11
   | (
    have hv1 : v = -1 := by omega
    subst hv1
    have hcr := cmpR_no (q := (o, rows)) hv
    refine nav ?_
    (refine aC_region ?_ <;> refine xL 2 q_assign ?_ <;> refine xL 3 q_assign ?_ <;> refine aL_end (nav ?_) <;> try dsimp only)
    refine aR_ent (nilSlD (t := 2) rfl) fun _ => ?_
    refine ret_ss (Tryz.results115) rfl rfl ?_
    rw [hcr]; rfl)
 · first
   | exact Bool.noConfusion hb11
   | (
    obtain ⟨i0, rfl, hi0⟩ : ∃ i : Nat, v = (i : Int) ∧ i < o.length := by
     rcases hvc with h | h
     · omega
     · exact h
    have hcr := cmpR_yes (q := (o, rows)) hv
    dsimp only at hcr
    refine nav ?_
    (refine aC_region ?_ <;> refine xL 5 q_assign ?_ <;> refine aL_end (nav ?_) <;> try dsimp only)
    refine aC_ent (nilOwn 200 3 1 rfl) fun _ => ?_
    refine aC_loop (ι := { k : Nat × List Int × Value // wayP (o.map (·.2)) i0 = wayP (o.map (·.2)) k.1 ++ k.2.1.reverse ∧ k.1 < o.length ∧ k.2.1.length + k.1 ≤ i0 ∧ k.2.2.oneCell' = true }) (fun k => ⟨[(1, _, _), (2, _, _), (3, _, _), (4, .int .i64 k.1.1, pInt k.1.1), (5, k.1.2.2, .val k.1.2.2)], [(1, _, _), (200, k.1.2.2, .own 3 1 k.1.2.1.length (k.1.2.1.map pInt))]⟩) (fun k => k.1.1) ⟨(i0, [], .slice none 0 0), by simp, hi0, by simp, rfl⟩ (fun a w H => H.weaken ⟨rfl, rfl, rfl, rfl, rfl, trivial⟩ ⟨rfl, rfl, trivial⟩) ?_
    rintro ⟨⟨cur, out, r⟩, hw, hc, hl, hr⟩
    dsimp only
    dsimp only at hw hc hl hr
    obtain ⟨⟨pq, f, s⟩, hx⟩ := get_some hc
    have hpf : (pFrom o).length = o.length := by unfold pFrom; rw [List.length_map]
    have hps : (pSym o).length = o.length := by unfold pSym; rw [List.length_map]
    have e1 : ((pFrom o).map pInt)[cur * 1]? = some (pInt f) := map_at (by unfold pFrom; rw [List.getElem?_map, hx]; rfl)
    have e2 : ((pSym o).map pInt)[cur * 1]? = some (pInt s) := map_at (by unfold pSym; rw [List.getElem?_map, hx]; rfl)
    have e3 : (o.map (·.2))[cur]? = some (f, s) := by rw [List.getElem?_map, hx]; rfl
    have hfc := hbk cur (f, s) e3
    refine nav ?_
    (refine aC_region ?_ <;> refine xL 12 (q_fldo 1 tFl95_1_LfP) ?_ <;> (refine yL 13 (q_ldo 1 tNa22_LdI) fun v13 hv13 => ?_; cases hv13) <;> refine xL 14 q_move ?_ <;> refine xL 15 (q_idxN tSl22_LbB) ?_ <;> (refine yL 16 (q_ld tNa3_LbB) fun v16 hv16 => ?_; cases hv16) <;> refine xL 17 q_geq ?_ <;> refine aL_end (nav ?_) <;> try dsimp only)
    (first | refine cCd ?_ ?_ | refine cC ?_ ?_) <;> intro hb17
    · first
      | exact Bool.noConfusion hb17
      | (
       obtain ⟨j, rfl⟩ : ∃ j : Nat, f = (j : Int) := ⟨f.toNat, by omega⟩
       dsimp only at hfc
       have hwn := wayP_on hbk e3 (by dsimp only; omega)
       dsimp only at hwn
       rw [Int.toNat_natCast] at hwn
       refine nav ?_
       (refine aC_region ?_ <;> refine xL 23 q_move ?_ <;> refine xL 24 (q_fldo 1 tFl95_2_LfP) ?_ <;> (refine yL 25 (q_ldo 1 tNa22_LdI) fun v25 hv25 => ?_; cases hv25) <;> refine xL 26 q_move ?_ <;> refine xL 27 (q_idxN tSl22_LbB) ?_ <;> (refine yL 28 (q_ld tNa3_LbB) fun v28 hv28 => ?_; cases hv28) <;> refine s_lit1 (kk := 1) 29 tEl22_LdI fun h29 ho29 => ?_ <;> refine s_app 200 29 30 tEl22_LdI fun h30 ho30 => ?_ <;> refine xL 5 q_assign ?_ <;> refine aL_end (nav ?_) <;> try dsimp only)
       refine aC_ent (relabel (l := 30) 200 rfl rfl) fun _ => ?_
       refine aC_ent (recast (l := 200) rfl (own_ints _ out s)) fun _ => ?_
       (refine aC_region ?_ <;> refine xL 18 (q_fldo 1 tFl95_1_LfP) ?_ <;> (refine yL 19 (q_ldo 1 tNa22_LdI) fun v19 hv19 => ?_; cases hv19) <;> refine xL 20 q_move ?_ <;> refine xL 21 (q_idxN tSl22_LbB) ?_ <;> (refine yL 22 (q_ld tNa3_LbB) fun v22 hv22 => ?_; cases hv22) <;> refine xL 4 q_assign ?_ <;> refine aL_end (nav ?_) <;> try dsimp only)
       refine aN_again (
        ⟨(j, out ++ [s], h30), by dsimp only; rw [hw, hwn, List.reverse_append]; simp, by dsimp only; omega, by dsimp only; rw [List.length_append, List.length_singleton]; omega, ho30⟩
        ) (by dsimp only; omega) ⟨rfl, rfl, rfl, rfl, rfl, trivial⟩ ⟨rfl, rfl, trivial⟩)
    · first
      | exact Bool.noConfusion hb17
      | (
       have hwn := wayP_end e3 (by dsimp only; omega)
       rw [hwn, List.nil_append] at hw
       refine nav ?_
       (refine aC_region ?_ <;> refine xL 31 q_move ?_ <;> (rcases Nat.eq_zero_or_pos out.length with h0' | h0' <;> first | (refine aL_ent (recast (l := 200) (p' := .own 3 1 0 []) rfl (by rw [List.eq_nil_of_length_eq_zero h0']; rfl)) fun _ => ?_; refine s_sortI0 200 revI0 (Tryz.call52) ?_; refine aL_ent (recast (l := 200) (p' := .own 3 1 out.length (out.reverse.map pInt)) rfl (by rw [List.eq_nil_of_length_eq_zero h0']; rfl)) fun _ => ?_) | (refine s_revI 200 revI (Tryz.call52) ?_ h0')) <;> refine aL_end (nav ?_) <;> try dsimp only) <;> (
        refine aC_ent (En.freeze (l := 200) (t := 5) rfl rfl) fun _ => ?_
        rw [show share (PV.own 3 1 out.length (out.reverse.map pInt)) = pInts out.reverse by rw [← List.length_reverse]; exact share_ints _ _ _ rfl]
        (refine aC_region ?_ <;> refine xL 33 q_move ?_ <;> refine xL 2 q_assign ?_ <;> refine xL 3 q_assign ?_ <;> refine aL_end (nav ?_) <;> try dsimp only)
        refine ret_ss (Tryz.results115) rfl rfl ?_
        rw [hcr, hw]; rfl)))
theorem fit_no1 {a b : Aut} (h : autOk a = false) : fitX a b = 1 := by unfold fitX; rw [if_pos (.inl h)]
theorem fit_no2 {a b : Aut} (h : autOk b = false) : fitX a b = 1 := by unfold fitX; rw [if_pos (.inr h)]
theorem fit_ne {a b : Aut} (h1 : autOk a = true) (h2 : autOk b = true) (h : ¬ a.syms = b.syms) : fitX a b = 29 := by unfold fitX; rw [if_neg (by rw [h1, h2]; simp), if_pos h]
theorem fit_ok {a b : Aut} (h1 : autOk a = true) (h2 : autOk b = true) (h : a.syms = b.syms) : fitX a b = 0 := by unfold fitX; rw [if_neg (by rw [h1, h2]; simp), if_neg (fun e => e h)]
theorem fit_zero {a b : Aut} (h : fitX a b = 0) : autOk a = true ∧ autOk b = true ∧ a.syms = b.syms := by
 unfold fitX at h
 split at h
 · omega
 · rename_i h1
   split at h
   · omega
   · rename_i h2
     refine ⟨?_, ?_, ?_⟩
     · cases e : autOk a with
       | true => rfl
       | false => exact absurd (.inl e) h1
     · cases e : autOk b with
       | true => rfl
       | false => exact absurd (.inr e) h1
     · exact Decidable.not_not.1 h2
def pPZ : PV := .agg [pInt 0, .val (.slice none 0 0), .val (.slice none 0 0), .val (.slice none 0 0), .val (.slice none 0 0)]
def resB (a b : Aut) (op : Int) : PV := match bothX a b with
 | .ok (A, B, q) => .tup [pPairs A B op q, pInt 0]
 | .error e => .tup [pPZ, pInt e]
theorem aFit_ff (a b : Aut) (ha : autOk a = false) (hb : autOk b = false) (hs : True) : AF Tryz.prog 70 [pAut a, pAut b] (· = pInt 1) := by
 have hva := aValid_e a
 have hvb := aValid_e b
 rw [ha] at hva
 rw [hb] at hvb
 refine AF.of_body 20 Tryz.func70 rfl Tryz.ntmps70 (Nat.le_of_ble_eq_true rfl) ?_
 intro w0 M0 vs hl hv
 obtain ⟨v0, v1, rfl⟩ := len2 hl
 clear hl hv
 refine nav ?_
 (refine aC_region ?_ <;> refine s_boxa 2 5 fun h2 => ?_ <;> refine s_boxa 3 5 fun h3 => ?_ <;> refine xL 4 q_assign ?_ <;> refine aL_end (nav ?_) <;> try dsimp only)
 (refine aC_region ?_ <;> (refine yL 6 (q_ldao 2 tAgg25_LdS) fun v6 hv6 => ?_; cases hv6) <;> (refine cS 7 (cA Tryz.call24 (hva)) fun v7 hv7 => ?_; cases hv7) <;> refine xL 8 q_not ?_ <;> refine xL 9 q_move ?_ <;> refine kL 10 ?_ <;> refine kL 11 ?_ <;> refine kL 12 ?_ <;> refine xL 13 q_pick ?_ <;> refine xL 5 q_assign ?_ <;> refine aL_end (nav ?_) <;> try dsimp only) <;> (
  (first | refine cCd ?_ ?_ | refine cC ?_ ?_) <;> intro hb5
  · first
    | exact Bool.noConfusion hb5
    | (
     refine nav ?_
     (refine aC_region ?_ <;> refine xL 4 q_assign ?_ <;> refine aL_end (nav ?_) <;> try dsimp only)
     exact ret_shr (Tryz.results70) rfl rfl)
  · first
    | exact Bool.noConfusion hb5
    | skip)
theorem aFit_ft (a b : Aut) (ha : autOk a = false) (hb : autOk b = true) (hs : True) : AF Tryz.prog 70 [pAut a, pAut b] (· = pInt 1) := by
 have hva := aValid_e a
 have hvb := aValid_e b
 rw [ha] at hva
 rw [hb] at hvb
 refine AF.of_body 20 Tryz.func70 rfl Tryz.ntmps70 (Nat.le_of_ble_eq_true rfl) ?_
 intro w0 M0 vs hl hv
 obtain ⟨v0, v1, rfl⟩ := len2 hl
 clear hl hv
 refine nav ?_
 (refine aC_region ?_ <;> refine s_boxa 2 5 fun h2 => ?_ <;> refine s_boxa 3 5 fun h3 => ?_ <;> refine xL 4 q_assign ?_ <;> refine aL_end (nav ?_) <;> try dsimp only)
 (refine aC_region ?_ <;> (refine yL 6 (q_ldao 2 tAgg25_LdS) fun v6 hv6 => ?_; cases hv6) <;> (refine cS 7 (cA Tryz.call24 (hva)) fun v7 hv7 => ?_; cases hv7) <;> refine xL 8 q_not ?_ <;> refine xL 9 q_move ?_ <;> refine kL 10 ?_ <;> refine kL 11 ?_ <;> refine kL 12 ?_ <;> refine xL 13 q_pick ?_ <;> refine xL 5 q_assign ?_ <;> refine aL_end (nav ?_) <;> try dsimp only) <;> (
  (first | refine cCd ?_ ?_ | refine cC ?_ ?_) <;> intro hb5
  · first
    | exact Bool.noConfusion hb5
    | (
     refine nav ?_
     (refine aC_region ?_ <;> refine xL 4 q_assign ?_ <;> refine aL_end (nav ?_) <;> try dsimp only)
     exact ret_shr (Tryz.results70) rfl rfl)
  · first
    | exact Bool.noConfusion hb5
    | skip)
theorem aFit_tf (a b : Aut) (ha : autOk a = true) (hb : autOk b = false) (hs : True) : AF Tryz.prog 70 [pAut a, pAut b] (· = pInt 1) := by
 have hva := aValid_e a
 have hvb := aValid_e b
 rw [ha] at hva
 rw [hb] at hvb
 refine AF.of_body 20 Tryz.func70 rfl Tryz.ntmps70 (Nat.le_of_ble_eq_true rfl) ?_
 intro w0 M0 vs hl hv
 obtain ⟨v0, v1, rfl⟩ := len2 hl
 clear hl hv
 refine nav ?_
 (refine aC_region ?_ <;> refine s_boxa 2 5 fun h2 => ?_ <;> refine s_boxa 3 5 fun h3 => ?_ <;> refine xL 4 q_assign ?_ <;> refine aL_end (nav ?_) <;> try dsimp only)
 (refine aC_region ?_ <;> (refine yL 6 (q_ldao 2 tAgg25_LdS) fun v6 hv6 => ?_; cases hv6) <;> (refine cS 7 (cA Tryz.call24 (hva)) fun v7 hv7 => ?_; cases hv7) <;> refine xL 8 q_not ?_ <;> refine xL 9 q_move ?_ <;> (refine yL 10 (q_ldao 3 tAgg25_LdS) fun v10 hv10 => ?_; cases hv10) <;> (refine cS 11 (cA Tryz.call24 (hvb)) fun v11 hv11 => ?_; cases hv11) <;> refine xL 12 q_not ?_ <;> refine xL 13 q_pick ?_ <;> refine xL 5 q_assign ?_ <;> refine aL_end (nav ?_) <;> try dsimp only) <;> (
  (first | refine cCd ?_ ?_ | refine cC ?_ ?_) <;> intro hb5
  · first
    | exact Bool.noConfusion hb5
    | (
     refine nav ?_
     (refine aC_region ?_ <;> refine xL 4 q_assign ?_ <;> refine aL_end (nav ?_) <;> try dsimp only)
     exact ret_shr (Tryz.results70) rfl rfl)
  · first
    | exact Bool.noConfusion hb5
    | skip)
theorem aFit_tn (a b : Aut) (ha : autOk a = true) (hb : autOk b = true) (hs : ¬ a.syms = b.syms) : AF Tryz.prog 70 [pAut a, pAut b] (· = pInt 29) := by
 have hva := aValid_e a
 have hvb := aValid_e b
 rw [ha] at hva
 rw [hb] at hvb
 refine AF.of_body 20 Tryz.func70 rfl Tryz.ntmps70 (Nat.le_of_ble_eq_true rfl) ?_
 intro w0 M0 vs hl hv
 obtain ⟨v0, v1, rfl⟩ := len2 hl
 clear hl hv
 refine nav ?_
 (refine aC_region ?_ <;> refine s_boxa 2 5 fun h2 => ?_ <;> refine s_boxa 3 5 fun h3 => ?_ <;> refine xL 4 q_assign ?_ <;> refine aL_end (nav ?_) <;> try dsimp only)
 (refine aC_region ?_ <;> (refine yL 6 (q_ldao 2 tAgg25_LdS) fun v6 hv6 => ?_; cases hv6) <;> (refine cS 7 (cA Tryz.call24 (hva)) fun v7 hv7 => ?_; cases hv7) <;> refine xL 8 q_not ?_ <;> refine xL 9 q_move ?_ <;> (refine yL 10 (q_ldao 3 tAgg25_LdS) fun v10 hv10 => ?_; cases hv10) <;> (refine cS 11 (cA Tryz.call24 (hvb)) fun v11 hv11 => ?_; cases hv11) <;> refine xL 12 q_not ?_ <;> refine xL 13 q_pick ?_ <;> refine xL 5 q_assign ?_ <;> refine aL_end (nav ?_) <;> try dsimp only) <;> (
  (first | refine cCd ?_ ?_ | refine cC ?_ ?_) <;> intro hb5
  · first
    | exact Bool.noConfusion hb5
    | (
     refine nav ?_
     (refine aC_region ?_ <;> refine xL 4 q_assign ?_ <;> refine aL_end (nav ?_) <;> try dsimp only)
     exact ret_shr (Tryz.results70) rfl rfl)
  · first
    | exact Bool.noConfusion hb5
    | (
     refine nav ?_
     (refine aC_region ?_ <;> refine xL 15 (q_fldo 2 tFl25_1_LdI) ?_ <;> (refine yL 16 (q_ldo 2 tNa3_LbB) fun v16 hv16 => ?_; cases hv16) <;> refine xL 17 (q_fldo 3 tFl25_1_LdI) ?_ <;> (refine yL 18 (q_ldo 3 tNa3_LbB) fun v18 hv18 => ?_; cases hv18) <;> refine xL 19 q_neq ?_ <;> refine xL 14 q_assign ?_ <;> refine aL_end (nav ?_) <;> try dsimp only)
     (first | refine cCd ?_ ?_ | refine cC ?_ ?_) <;> intro hb14
     · first
       | exact Bool.noConfusion hb14
       | (
        refine nav ?_
        (refine aC_region ?_ <;> refine xL 4 q_assign ?_ <;> refine aL_end (nav ?_) <;> try dsimp only)
        first | exact ret_shr (Tryz.results70) rfl rfl | exact absurd hs (by simpa using hb14))
     · first
       | exact Bool.noConfusion hb14
       | (
        refine nav ?_
        (refine aC_region ?_ <;> refine xL 4 q_assign ?_ <;> refine aL_end (nav ?_) <;> try dsimp only)
        first | exact ret_shr (Tryz.results70) rfl rfl | exact absurd (by simpa using hb14) hs)))
theorem aFit_tt (a b : Aut) (ha : autOk a = true) (hb : autOk b = true) (hs : a.syms = b.syms) : AF Tryz.prog 70 [pAut a, pAut b] (· = pInt 0) := by
 have hva := aValid_e a
 have hvb := aValid_e b
 rw [ha] at hva
 rw [hb] at hvb
 refine AF.of_body 20 Tryz.func70 rfl Tryz.ntmps70 (Nat.le_of_ble_eq_true rfl) ?_
 intro w0 M0 vs hl hv
 obtain ⟨v0, v1, rfl⟩ := len2 hl
 clear hl hv
 refine nav ?_
 (refine aC_region ?_ <;> refine s_boxa 2 5 fun h2 => ?_ <;> refine s_boxa 3 5 fun h3 => ?_ <;> refine xL 4 q_assign ?_ <;> refine aL_end (nav ?_) <;> try dsimp only)
 (refine aC_region ?_ <;> (refine yL 6 (q_ldao 2 tAgg25_LdS) fun v6 hv6 => ?_; cases hv6) <;> (refine cS 7 (cA Tryz.call24 (hva)) fun v7 hv7 => ?_; cases hv7) <;> refine xL 8 q_not ?_ <;> refine xL 9 q_move ?_ <;> (refine yL 10 (q_ldao 3 tAgg25_LdS) fun v10 hv10 => ?_; cases hv10) <;> (refine cS 11 (cA Tryz.call24 (hvb)) fun v11 hv11 => ?_; cases hv11) <;> refine xL 12 q_not ?_ <;> refine xL 13 q_pick ?_ <;> refine xL 5 q_assign ?_ <;> refine aL_end (nav ?_) <;> try dsimp only) <;> (
  (first | refine cCd ?_ ?_ | refine cC ?_ ?_) <;> intro hb5
  · first
    | exact Bool.noConfusion hb5
    | (
     refine nav ?_
     (refine aC_region ?_ <;> refine xL 4 q_assign ?_ <;> refine aL_end (nav ?_) <;> try dsimp only)
     exact ret_shr (Tryz.results70) rfl rfl)
  · first
    | exact Bool.noConfusion hb5
    | (
     refine nav ?_
     (refine aC_region ?_ <;> refine xL 15 (q_fldo 2 tFl25_1_LdI) ?_ <;> (refine yL 16 (q_ldo 2 tNa3_LbB) fun v16 hv16 => ?_; cases hv16) <;> refine xL 17 (q_fldo 3 tFl25_1_LdI) ?_ <;> (refine yL 18 (q_ldo 3 tNa3_LbB) fun v18 hv18 => ?_; cases hv18) <;> refine xL 19 q_neq ?_ <;> refine xL 14 q_assign ?_ <;> refine aL_end (nav ?_) <;> try dsimp only)
     (first | refine cCd ?_ ?_ | refine cC ?_ ?_) <;> intro hb14
     · first
       | exact Bool.noConfusion hb14
       | (
        refine nav ?_
        (refine aC_region ?_ <;> refine xL 4 q_assign ?_ <;> refine aL_end (nav ?_) <;> try dsimp only)
        first | exact ret_shr (Tryz.results70) rfl rfl | exact absurd hs (by simpa using hb14))
     · first
       | exact Bool.noConfusion hb14
       | (
        refine nav ?_
        (refine aC_region ?_ <;> refine xL 4 q_assign ?_ <;> refine aL_end (nav ?_) <;> try dsimp only)
        first | exact ret_shr (Tryz.results70) rfl rfl | exact absurd (by simpa using hb14) hs)))
theorem aFit_e (a b : Aut) : AF Tryz.prog 70 [pAut a, pAut b] (· = pInt (fitX a b)) := by
 cases ha : autOk a
 · rw [fit_no1 ha]
   cases hb : autOk b
   · exact aFit_ff a b ha hb trivial
   · exact aFit_ft a b ha hb trivial
 · cases hb : autOk b
   · rw [fit_no2 hb]; exact aFit_tf a b ha hb trivial
   · by_cases hs : a.syms = b.syms
     · rw [fit_ok ha hb hs]; exact aFit_tt a b ha hb hs
     · rw [fit_ne ha hb hs]; exact aFit_tn a b ha hb hs
theorem aBoth_oe (a b : Aut) (op : Int) {A : Aut} (ha : AF Tryz.prog 83 [pAut a] (· = .tup [pAut A, pInt 0])) (hb : AF Tryz.prog 83 [pAut b] (· = .tup [rawZ, pInt 13])) : AF Tryz.prog 71 [pAut a, pAut b, pInt op] (· = .tup [pPZ, pInt 13]) := by
 refine AF.of_body 42 Tryz.func71 rfl Tryz.ntmps71 (Nat.le_of_ble_eq_true rfl) ?_
 intro w0 M0 vs hl hv
 obtain ⟨v0, v1, v2, rfl⟩ := len3 hl
 obtain rfl := hv 2 _ _ rfl rfl
 clear hl hv
 refine nav ?_
 (refine aC_region ?_ <;> refine s_boxa 3 5 fun h3 => ?_ <;> refine s_boxa 4 5 fun h4 => ?_ <;> refine s_alloc [(.int .i64 0), (.slice none 0 0), (.slice none 0 0), (.slice none 0 0), (.slice none 0 0)] 5 6 tZr95_LfP fun h6 => ?_ <;> refine xL 7 q_assign ?_ <;> refine aL_end (nav ?_) <;> try dsimp only)
 (refine aC_region ?_ <;> (refine yL 15 (q_ldao 3 tAgg25_LdS) fun v15 hv15 => ?_; cases hv15) <;> (refine cP 16 (cA Tryz.call83 (ha)) fun va16 vb16 hva16 hvb16 => ?_; cases hvb16) <;> refine xL 14 q_move ?_ <;> refine xL 17 q_extract ?_ <;> refine xL 18 q_extract ?_ <;> refine s_alloc [(.int .i64 0), (.int .i64 0), (.slice none 0 0), (.slice none 0 0), (.slice none 0 0)] 5 8 tZr25_LfD fun h8 => ?_ <;> refine s_sta 8 tAgg25_LdS ?_ <;> refine xL 9 q_assign ?_ <;> refine aL_end (nav ?_) <;> try dsimp only)
 (refine aC_region ?_ <;> (refine yL 20 (q_ldao 4 tAgg25_LdS) fun v20 hv20 => ?_; cases hv20) <;> (refine cP 21 (cA Tryz.call83 (hb)) fun va21 vb21 hva21 hvb21 => ?_; cases hvb21) <;> refine xL 19 q_move ?_ <;> refine xL 22 q_extract ?_ <;> refine xL 23 q_extract ?_ <;> refine s_alloc [(.int .i64 0), (.int .i64 0), (.slice none 0 0), (.slice none 0 0), (.slice none 0 0)] 5 10 tZr25_LfD fun h10 => ?_ <;> refine s_sta 10 tAgg25_LdS ?_ <;> refine xL 11 q_assign ?_ <;> refine aL_end (nav ?_) <;> try dsimp only)
 (refine aC_region ?_ <;> refine xL 24 q_move ?_ <;> refine xL 25 q_neq ?_ <;> refine xL 26 q_move ?_ <;> refine xL 27 q_move ?_ <;> refine xL 28 q_neq ?_ <;> refine xL 29 q_pick ?_ <;> refine aL_end (nav ?_) <;> try dsimp only) <;> (
  (first | refine cCd ?_ ?_ | refine cC ?_ ?_) <;> intro hb29
  · refine nav ?_
    (refine aC_region ?_ <;> refine xL 30 (q_build0 stPairs rfl) ?_ <;> refine s_sta 6 tAgg95_LfP ?_ <;> refine xL 7 q_assign ?_ <;> refine aL_end (nav ?_) <;> try dsimp only)
    exact ret_cs (k := 5) 6 (by kernel_rfl) (Tryz.results71) rfl rfl rfl (Nat.le_of_ble_eq_true rfl) (by decide) rfl rfl
  · first | omega | exact absurd (by decide) hb29 | exact Bool.noConfusion hb29)
theorem aBoth_eo (a b : Aut) (op : Int) {A : Aut} (ha : AF Tryz.prog 83 [pAut a] (· = .tup [rawZ, pInt 13])) (hb : AF Tryz.prog 83 [pAut b] (· = .tup [pAut A, pInt 0])) : AF Tryz.prog 71 [pAut a, pAut b, pInt op] (· = .tup [pPZ, pInt 13]) := by
 refine AF.of_body 42 Tryz.func71 rfl Tryz.ntmps71 (Nat.le_of_ble_eq_true rfl) ?_
 intro w0 M0 vs hl hv
 obtain ⟨v0, v1, v2, rfl⟩ := len3 hl
 obtain rfl := hv 2 _ _ rfl rfl
 clear hl hv
 refine nav ?_
 (refine aC_region ?_ <;> refine s_boxa 3 5 fun h3 => ?_ <;> refine s_boxa 4 5 fun h4 => ?_ <;> refine s_alloc [(.int .i64 0), (.slice none 0 0), (.slice none 0 0), (.slice none 0 0), (.slice none 0 0)] 5 6 tZr95_LfP fun h6 => ?_ <;> refine xL 7 q_assign ?_ <;> refine aL_end (nav ?_) <;> try dsimp only)
 (refine aC_region ?_ <;> (refine yL 15 (q_ldao 3 tAgg25_LdS) fun v15 hv15 => ?_; cases hv15) <;> (refine cP 16 (cA Tryz.call83 (ha)) fun va16 vb16 hva16 hvb16 => ?_; cases hvb16) <;> refine xL 14 q_move ?_ <;> refine xL 17 q_extract ?_ <;> refine xL 18 q_extract ?_ <;> refine s_alloc [(.int .i64 0), (.int .i64 0), (.slice none 0 0), (.slice none 0 0), (.slice none 0 0)] 5 8 tZr25_LfD fun h8 => ?_ <;> refine s_sta 8 tAgg25_LdS ?_ <;> refine xL 9 q_assign ?_ <;> refine aL_end (nav ?_) <;> try dsimp only)
 (refine aC_region ?_ <;> (refine yL 20 (q_ldao 4 tAgg25_LdS) fun v20 hv20 => ?_; cases hv20) <;> (refine cP 21 (cA Tryz.call83 (hb)) fun va21 vb21 hva21 hvb21 => ?_; cases hvb21) <;> refine xL 19 q_move ?_ <;> refine xL 22 q_extract ?_ <;> refine xL 23 q_extract ?_ <;> refine s_alloc [(.int .i64 0), (.int .i64 0), (.slice none 0 0), (.slice none 0 0), (.slice none 0 0)] 5 10 tZr25_LfD fun h10 => ?_ <;> refine s_sta 10 tAgg25_LdS ?_ <;> refine xL 11 q_assign ?_ <;> refine aL_end (nav ?_) <;> try dsimp only)
 (refine aC_region ?_ <;> refine xL 24 q_move ?_ <;> refine xL 25 q_neq ?_ <;> refine xL 26 q_move ?_ <;> refine kL 27 ?_ <;> refine kL 28 ?_ <;> refine xL 29 q_pick ?_ <;> refine aL_end (nav ?_) <;> try dsimp only) <;> (
  (first | refine cCd ?_ ?_ | refine cC ?_ ?_) <;> intro hb29
  · refine nav ?_
    (refine aC_region ?_ <;> refine xL 30 (q_build0 stPairs rfl) ?_ <;> refine s_sta 6 tAgg95_LfP ?_ <;> refine xL 7 q_assign ?_ <;> refine aL_end (nav ?_) <;> try dsimp only)
    exact ret_cs (k := 5) 6 (by kernel_rfl) (Tryz.results71) rfl rfl rfl (Nat.le_of_ble_eq_true rfl) (by decide) rfl rfl
  · first | omega | exact absurd (by decide) hb29 | exact Bool.noConfusion hb29)
theorem aBoth_ee (a b : Aut) (op : Int)  (ha : AF Tryz.prog 83 [pAut a] (· = .tup [rawZ, pInt 13])) (hb : AF Tryz.prog 83 [pAut b] (· = .tup [rawZ, pInt 13])) : AF Tryz.prog 71 [pAut a, pAut b, pInt op] (· = .tup [pPZ, pInt 13]) := by
 refine AF.of_body 42 Tryz.func71 rfl Tryz.ntmps71 (Nat.le_of_ble_eq_true rfl) ?_
 intro w0 M0 vs hl hv
 obtain ⟨v0, v1, v2, rfl⟩ := len3 hl
 obtain rfl := hv 2 _ _ rfl rfl
 clear hl hv
 refine nav ?_
 (refine aC_region ?_ <;> refine s_boxa 3 5 fun h3 => ?_ <;> refine s_boxa 4 5 fun h4 => ?_ <;> refine s_alloc [(.int .i64 0), (.slice none 0 0), (.slice none 0 0), (.slice none 0 0), (.slice none 0 0)] 5 6 tZr95_LfP fun h6 => ?_ <;> refine xL 7 q_assign ?_ <;> refine aL_end (nav ?_) <;> try dsimp only)
 (refine aC_region ?_ <;> (refine yL 15 (q_ldao 3 tAgg25_LdS) fun v15 hv15 => ?_; cases hv15) <;> (refine cP 16 (cA Tryz.call83 (ha)) fun va16 vb16 hva16 hvb16 => ?_; cases hvb16) <;> refine xL 14 q_move ?_ <;> refine xL 17 q_extract ?_ <;> refine xL 18 q_extract ?_ <;> refine s_alloc [(.int .i64 0), (.int .i64 0), (.slice none 0 0), (.slice none 0 0), (.slice none 0 0)] 5 8 tZr25_LfD fun h8 => ?_ <;> refine s_sta 8 tAgg25_LdS ?_ <;> refine xL 9 q_assign ?_ <;> refine aL_end (nav ?_) <;> try dsimp only)
 (refine aC_region ?_ <;> (refine yL 20 (q_ldao 4 tAgg25_LdS) fun v20 hv20 => ?_; cases hv20) <;> (refine cP 21 (cA Tryz.call83 (hb)) fun va21 vb21 hva21 hvb21 => ?_; cases hvb21) <;> refine xL 19 q_move ?_ <;> refine xL 22 q_extract ?_ <;> refine xL 23 q_extract ?_ <;> refine s_alloc [(.int .i64 0), (.int .i64 0), (.slice none 0 0), (.slice none 0 0), (.slice none 0 0)] 5 10 tZr25_LfD fun h10 => ?_ <;> refine s_sta 10 tAgg25_LdS ?_ <;> refine xL 11 q_assign ?_ <;> refine aL_end (nav ?_) <;> try dsimp only)
 (refine aC_region ?_ <;> refine xL 24 q_move ?_ <;> refine xL 25 q_neq ?_ <;> refine xL 26 q_move ?_ <;> refine kL 27 ?_ <;> refine kL 28 ?_ <;> refine xL 29 q_pick ?_ <;> refine aL_end (nav ?_) <;> try dsimp only) <;> (
  (first | refine cCd ?_ ?_ | refine cC ?_ ?_) <;> intro hb29
  · refine nav ?_
    (refine aC_region ?_ <;> refine xL 30 (q_build0 stPairs rfl) ?_ <;> refine s_sta 6 tAgg95_LfP ?_ <;> refine xL 7 q_assign ?_ <;> refine aL_end (nav ?_) <;> try dsimp only)
    exact ret_cs (k := 5) 6 (by kernel_rfl) (Tryz.results71) rfl rfl rfl (Nat.le_of_ble_eq_true rfl) (by decide) rfl rfl
  · first | omega | exact absurd (by decide) hb29 | exact Bool.noConfusion hb29)
theorem aBoth_yes (a b A B : Aut) (op : Int) (q : List PrS × List (List Nat)) (ha : AF Tryz.prog 83 [pAut a] (· = .tup [pAut A, pInt 0])) (hb : AF Tryz.prog 83 [pAut b] (· = .tup [pAut B, pInt 0])) (hp : AF Tryz.prog 104 [pAut A, pAut B, pInt op] (· = .tup [pPairs A B op q, pBool true])) : AF Tryz.prog 71 [pAut a, pAut b, pInt op] (· = .tup [pPairs A B op q, pInt 0]) := by
 refine AF.of_body 42 Tryz.func71 rfl Tryz.ntmps71 (Nat.le_of_ble_eq_true rfl) ?_
 intro w0 M0 vs hl hv
 obtain ⟨v0, v1, v2, rfl⟩ := len3 hl
 obtain rfl := hv 2 _ _ rfl rfl
 clear hl hv
 refine nav ?_
 (refine aC_region ?_ <;> refine s_boxa 3 5 fun h3 => ?_ <;> refine s_boxa 4 5 fun h4 => ?_ <;> refine s_alloc [(.int .i64 0), (.slice none 0 0), (.slice none 0 0), (.slice none 0 0), (.slice none 0 0)] 5 6 tZr95_LfP fun h6 => ?_ <;> refine xL 7 q_assign ?_ <;> refine aL_end (nav ?_) <;> try dsimp only)
 (refine aC_region ?_ <;> (refine yL 15 (q_ldao 3 tAgg25_LdS) fun v15 hv15 => ?_; cases hv15) <;> (refine cP 16 (cA Tryz.call83 (ha)) fun va16 vb16 hva16 hvb16 => ?_; cases hvb16) <;> refine xL 14 q_move ?_ <;> refine xL 17 q_extract ?_ <;> refine xL 18 q_extract ?_ <;> refine s_alloc [(.int .i64 0), (.int .i64 0), (.slice none 0 0), (.slice none 0 0), (.slice none 0 0)] 5 8 tZr25_LfD fun h8 => ?_ <;> refine s_sta 8 tAgg25_LdS ?_ <;> refine xL 9 q_assign ?_ <;> refine aL_end (nav ?_) <;> try dsimp only)
 (refine aC_region ?_ <;> (refine yL 20 (q_ldao 4 tAgg25_LdS) fun v20 hv20 => ?_; cases hv20) <;> (refine cP 21 (cA Tryz.call83 (hb)) fun va21 vb21 hva21 hvb21 => ?_; cases hvb21) <;> refine xL 19 q_move ?_ <;> refine xL 22 q_extract ?_ <;> refine xL 23 q_extract ?_ <;> refine s_alloc [(.int .i64 0), (.int .i64 0), (.slice none 0 0), (.slice none 0 0), (.slice none 0 0)] 5 10 tZr25_LfD fun h10 => ?_ <;> refine s_sta 10 tAgg25_LdS ?_ <;> refine xL 11 q_assign ?_ <;> refine aL_end (nav ?_) <;> try dsimp only)
 (refine aC_region ?_ <;> refine xL 24 q_move ?_ <;> refine xL 25 q_neq ?_ <;> refine xL 26 q_move ?_ <;> refine xL 27 q_move ?_ <;> refine xL 28 q_neq ?_ <;> refine xL 29 q_pick ?_ <;> refine aL_end (nav ?_) <;> try dsimp only) <;> (
  (first | refine cCd ?_ ?_ | refine cC ?_ ?_) <;> intro hb29
  · first | omega | exact absurd rfl hb29 | exact Bool.noConfusion hb29
  · refine nav ?_
    (refine aC_region ?_ <;> (refine yL 32 (q_ldao 8 tAgg25_LdS) fun v32 hv32 => ?_; cases hv32) <;> (refine yL 33 (q_ldao 10 tAgg25_LdS) fun v33 hv33 => ?_; cases hv33) <;> refine xL 34 q_move ?_ <;> (refine cP 35 (cA Tryz.call104 (hp)) fun va35 vb35 hva35 hvb35 => ?_; cases hvb35) <;> refine xL 31 q_move ?_ <;> refine xL 36 q_extract ?_ <;> refine xL 37 q_extract ?_ <;> refine s_alloc [(.int .i64 0), (.slice none 0 0), (.slice none 0 0), (.slice none 0 0), (.slice none 0 0)] 5 12 tZr95_LfP fun h12 => ?_ <;> refine s_sta 12 tAgg95_LfP ?_ <;> refine xL 13 q_assign ?_ <;> refine aL_end (nav ?_) <;> try dsimp only)
    (refine aC_region ?_ <;> refine xL 38 q_move ?_ <;> refine xL 39 q_not ?_ <;> refine aL_end (nav ?_) <;> try dsimp only)
    (first | refine cCd ?_ ?_ | refine cC ?_ ?_) <;> intro hb39
    · first
      | exact Bool.noConfusion hb39
      | skip
    · first
      | exact Bool.noConfusion hb39
      | (
       refine nav ?_
       (refine aC_region ?_ <;> (refine yL 41 (q_ldao 12 tAgg95_LfP) fun v41 hv41 => ?_; cases hv41) <;> refine s_sta 6 tAgg95_LfP ?_ <;> refine xL 7 q_assign ?_ <;> refine aL_end (nav ?_) <;> try dsimp only)
       exact ret_cs (k := 5) 6 (by kernel_rfl) (Tryz.results71) rfl rfl rfl (Nat.le_of_ble_eq_true rfl) (by decide) rfl rfl))
abbrev V5 := { u : Value × Value × Value × Value × Value // En.one (PV.val u.1) = true ∧ En.one (PV.val u.2.1) = true ∧ En.one (PV.val u.2.2.1) = true ∧ En.one (PV.val u.2.2.2.1) = true ∧ En.one (PV.val u.2.2.2.2) = true }
theorem aBoth_no (a b A B : Aut) (op : Int) (ha : AF Tryz.prog 83 [pAut a] (· = .tup [pAut A, pInt 0])) (hb : AF Tryz.prog 83 [pAut b] (· = .tup [pAut B, pInt 0])) (hp : AF Tryz.prog 104 [pAut A, pAut B, pInt op] (fun p => ∃ i : V5, p = .tup [.agg [.val i.1.1, .val i.1.2.1, .val i.1.2.2.1, .val i.1.2.2.2.1, .val i.1.2.2.2.2], pBool false])) : AF Tryz.prog 71 [pAut a, pAut b, pInt op] (· = .tup [pPZ, pInt 13]) := by
 refine AF.of_body 42 Tryz.func71 rfl Tryz.ntmps71 (Nat.le_of_ble_eq_true rfl) ?_
 intro w0 M0 vs hl hv
 obtain ⟨v0, v1, v2, rfl⟩ := len3 hl
 obtain rfl := hv 2 _ _ rfl rfl
 clear hl hv
 refine nav ?_
 (refine aC_region ?_ <;> refine s_boxa 3 5 fun h3 => ?_ <;> refine s_boxa 4 5 fun h4 => ?_ <;> refine s_alloc [(.int .i64 0), (.slice none 0 0), (.slice none 0 0), (.slice none 0 0), (.slice none 0 0)] 5 6 tZr95_LfP fun h6 => ?_ <;> refine xL 7 q_assign ?_ <;> refine aL_end (nav ?_) <;> try dsimp only)
 (refine aC_region ?_ <;> (refine yL 15 (q_ldao 3 tAgg25_LdS) fun v15 hv15 => ?_; cases hv15) <;> (refine cP 16 (cA Tryz.call83 (ha)) fun va16 vb16 hva16 hvb16 => ?_; cases hvb16) <;> refine xL 14 q_move ?_ <;> refine xL 17 q_extract ?_ <;> refine xL 18 q_extract ?_ <;> refine s_alloc [(.int .i64 0), (.int .i64 0), (.slice none 0 0), (.slice none 0 0), (.slice none 0 0)] 5 8 tZr25_LfD fun h8 => ?_ <;> refine s_sta 8 tAgg25_LdS ?_ <;> refine xL 9 q_assign ?_ <;> refine aL_end (nav ?_) <;> try dsimp only)
 (refine aC_region ?_ <;> (refine yL 20 (q_ldao 4 tAgg25_LdS) fun v20 hv20 => ?_; cases hv20) <;> (refine cP 21 (cA Tryz.call83 (hb)) fun va21 vb21 hva21 hvb21 => ?_; cases hvb21) <;> refine xL 19 q_move ?_ <;> refine xL 22 q_extract ?_ <;> refine xL 23 q_extract ?_ <;> refine s_alloc [(.int .i64 0), (.int .i64 0), (.slice none 0 0), (.slice none 0 0), (.slice none 0 0)] 5 10 tZr25_LfD fun h10 => ?_ <;> refine s_sta 10 tAgg25_LdS ?_ <;> refine xL 11 q_assign ?_ <;> refine aL_end (nav ?_) <;> try dsimp only)
 (refine aC_region ?_ <;> refine xL 24 q_move ?_ <;> refine xL 25 q_neq ?_ <;> refine xL 26 q_move ?_ <;> refine xL 27 q_move ?_ <;> refine xL 28 q_neq ?_ <;> refine xL 29 q_pick ?_ <;> refine aL_end (nav ?_) <;> try dsimp only) <;> (
  (first | refine cCd ?_ ?_ | refine cC ?_ ?_) <;> intro hb29
  · first | omega | exact absurd rfl hb29 | exact Bool.noConfusion hb29
  · refine nav ?_
    (refine aC_region ?_ <;> (refine yL 32 (q_ldao 8 tAgg25_LdS) fun v32 hv32 => ?_; cases hv32) <;> (refine yL 33 (q_ldao 10 tAgg25_LdS) fun v33 hv33 => ?_; cases hv33) <;> refine xL 34 q_move ?_ <;> (refine cPx 35 (cA Tryz.call104 hp) (fun i35 v1 v2 hv1 hv2 => ?_) (fun _ => rfl); cases hv2; obtain ⟨⟨u0, u1, u2, u3, u4⟩, n0, n1, n2, n3, n4⟩ := i35; dsimp only at n0 n1 n2 n3 n4) <;> refine xL 31 q_move ?_ <;> refine xL 36 q_extract ?_ <;> refine xL 37 q_extract ?_ <;> refine s_alloc [(.int .i64 0), (.slice none 0 0), (.slice none 0 0), (.slice none 0 0), (.slice none 0 0)] 5 12 tZr95_LfP fun h12 => ?_ <;> refine s_sta 12 tAgg95_LfP ?_ <;> refine xL 13 q_assign ?_ <;> refine aL_end (nav ?_) <;> try dsimp only)
    (refine aC_region ?_ <;> refine xL 38 q_move ?_ <;> refine xL 39 q_not ?_ <;> refine aL_end (nav ?_) <;> try dsimp only)
    (first | refine cCd ?_ ?_ | refine cC ?_ ?_) <;> intro hb39
    · first
      | exact Bool.noConfusion hb39
      | (
       refine nav ?_
       (refine aC_region ?_ <;> refine xL 40 (q_build0 stPairs rfl) ?_ <;> refine s_sta 6 tAgg95_LfP ?_ <;> refine xL 7 q_assign ?_ <;> refine aL_end (nav ?_) <;> try dsimp only)
       exact ret_cs (k := 5) 6 (by kernel_rfl) (Tryz.results71) rfl rfl rfl (Nat.le_of_ble_eq_true rfl) (by decide) rfl rfl)
    · first
      | exact Bool.noConfusion hb39
      | skip)
theorem lim_err {x : Option Aut} {e : Int} (h : lim x = .error e) : e = 13 := by
 cases x with
 | some a => cases h
 | none => cases h; rfl
theorem redX_err {a : Aut} {e : Int} (h : redX a = .error e) : e = 13 := by
 unfold redX at h
 split at h
 · exact lim_err h
 · cases h; rfl
theorem aBoth_e (a b : Aut) (op : Int) (hf : fitX a b = 0) : AF Tryz.prog 71 [pAut a, pAut b, pInt op] (· = resB a b op) := by
 obtain ⟨h1, h2, h3⟩ := fit_zero hf
 have ha := aReduced_x a (aok_of h1)
 have hb := aReduced_x b (aok_of h2)
 unfold resB bothX
 cases ea : redX a with
 | error e =>
   obtain rfl := redX_err ea
   rw [ea] at ha
   cases eb : redX b with
   | error f =>
     obtain rfl := redX_err eb
     rw [eb] at hb
     exact aBoth_ee a b op ha hb
   | ok B => rw [eb] at hb; exact aBoth_eo a b op ha hb
 | ok A =>
   rw [ea] at ha
   cases eb : redX b with
   | error f =>
     obtain rfl := redX_err eb
     rw [eb] at hb
     exact aBoth_oe a b op ha hb
   | ok B =>
     rw [eb] at hb
     obtain ⟨dA, sA⟩ := redX_det (aok_of h1) ea
     obtain ⟨dB, sB⟩ := redX_det (aok_of h2) eb
     have hp := aProduct_e A B op dA dB (by rw [sA, sB, h3])
     dsimp only
     cases eq : prodQ A B with
     | some q => exact aBoth_yes a b A B op q ha hb (hp.mono fun p hr => by
        rcases hr with ⟨q', h4, h5⟩ | ⟨h4, _⟩
        · rw [eq] at h4; cases h4; exact h5
        · rw [eq] at h4; cases h4)
     | none => exact aBoth_no a b A B op ha hb (hp.mono fun p hr => by
        rcases hr with ⟨q', h4, h5⟩ | ⟨_, u0, u1, u2, u3, u4, n0, n1, n2, n3, n4, h5⟩
        · rw [eq] at h4; cases h4
        · exact ⟨⟨(u0, u1, u2, u3, u4), n0, n1, n2, n3, n4⟩, h5⟩)
theorem aCompare_bad (a b : Aut) (op e : Int) (he : ¬ e = 0) (hf : AF Tryz.prog 70 [pAut a, pAut b] (· = pInt e)) : AF Tryz.prog 85 [pAut a, pAut b, pInt op] (· = .tup [pBool false, pInts [], pInt e]) := by
 refine AF.of_body 38 Tryz.func85 rfl Tryz.ntmps85 (Nat.le_of_ble_eq_true rfl) ?_
 intro w0 M0 vs hl hv
 obtain ⟨v0, v1, v2, rfl⟩ := len3 hl
 obtain rfl := hv 2 _ _ rfl rfl
 clear hl hv
 refine nav ?_
 (refine aC_region ?_ <;> refine s_boxa 3 5 fun h3 => ?_ <;> refine s_boxa 4 5 fun h4 => ?_ <;> refine xL 6 q_assign ?_ <;> refine xL 7 q_assign ?_ <;> refine xL 8 q_assign ?_ <;> refine aL_end (nav ?_) <;> try dsimp only)
 (refine aC_region ?_ <;> (refine yL 14 (q_ldao 3 tAgg25_LdS) fun v14 hv14 => ?_; cases hv14) <;> (refine yL 15 (q_ldao 4 tAgg25_LdS) fun v15 hv15 => ?_; cases hv15) <;> (refine cS 16 (cA Tryz.call70 (hf)) fun v16 hv16 => ?_; cases hv16) <;> refine xL 9 q_assign ?_ <;> refine aL_end (nav ?_) <;> try dsimp only)
 (refine aC_region ?_ <;> refine xL 17 q_move ?_ <;> refine xL 18 q_neq ?_ <;> refine aL_end (nav ?_) <;> try dsimp only)
 (first | refine cCd ?_ ?_ | refine cC ?_ ?_) <;> intro hb18
 · refine nav ?_
   (refine aC_region ?_ <;> refine xL 19 q_move ?_ <;> refine xL 6 q_assign ?_ <;> refine xL 7 q_assign ?_ <;> refine xL 8 q_assign ?_ <;> refine aL_end (nav ?_) <;> try dsimp only)
   refine aR_ent (nilSlD (t := 7) rfl) fun _ => ?_
   exact ret_sss (Tryz.results85) rfl rfl rfl rfl
 · exact absurd (by simpa using hb18) he
theorem aCompare_err (a b : Aut) (op e : Int) (he : ¬ e = 0) (hf : AF Tryz.prog 70 [pAut a, pAut b] (· = pInt 0)) (hb : AF Tryz.prog 71 [pAut a, pAut b, pInt op] (· = .tup [pPZ, pInt e])) : AF Tryz.prog 85 [pAut a, pAut b, pInt op] (· = .tup [pBool false, pInts [], pInt e]) := by
 refine AF.of_body 38 Tryz.func85 rfl Tryz.ntmps85 (Nat.le_of_ble_eq_true rfl) ?_
 intro w0 M0 vs hl hv
 obtain ⟨v0, v1, v2, rfl⟩ := len3 hl
 obtain rfl := hv 2 _ _ rfl rfl
 clear hl hv
 refine nav ?_
 (refine aC_region ?_ <;> refine s_boxa 3 5 fun h3 => ?_ <;> refine s_boxa 4 5 fun h4 => ?_ <;> refine xL 6 q_assign ?_ <;> refine xL 7 q_assign ?_ <;> refine xL 8 q_assign ?_ <;> refine aL_end (nav ?_) <;> try dsimp only)
 (refine aC_region ?_ <;> (refine yL 14 (q_ldao 3 tAgg25_LdS) fun v14 hv14 => ?_; cases hv14) <;> (refine yL 15 (q_ldao 4 tAgg25_LdS) fun v15 hv15 => ?_; cases hv15) <;> (refine cS 16 (cA Tryz.call70 (hf)) fun v16 hv16 => ?_; cases hv16) <;> refine xL 9 q_assign ?_ <;> refine aL_end (nav ?_) <;> try dsimp only)
 (refine aC_region ?_ <;> refine xL 17 q_move ?_ <;> refine xL 18 q_neq ?_ <;> refine aL_end (nav ?_) <;> try dsimp only)
 (first | refine cCd ?_ ?_ | refine cC ?_ ?_) <;> intro hb18
 · first | omega | exact absurd rfl hb18 | exact Bool.noConfusion hb18
 · refine nav ?_
   (refine aC_region ?_ <;> (refine yL 21 (q_ldao 3 tAgg25_LdS) fun v21 hv21 => ?_; cases hv21) <;> (refine yL 22 (q_ldao 4 tAgg25_LdS) fun v22 hv22 => ?_; cases hv22) <;> refine xL 23 q_move ?_ <;> (refine cP 24 (cA Tryz.call71 (hb)) fun va24 vb24 hva24 hvb24 => ?_; cases hvb24) <;> refine xL 20 q_move ?_ <;> refine xL 25 q_extract ?_ <;> refine xL 26 q_extract ?_ <;> refine s_alloc [(.int .i64 0), (.slice none 0 0), (.slice none 0 0), (.slice none 0 0), (.slice none 0 0)] 5 10 tZr95_LfP fun h10 => ?_ <;> refine s_sta 10 tAgg95_LfP ?_ <;> refine xL 11 q_assign ?_ <;> refine aL_end (nav ?_) <;> try dsimp only)
   (refine aC_region ?_ <;> refine xL 27 q_move ?_ <;> refine xL 28 q_neq ?_ <;> refine aL_end (nav ?_) <;> try dsimp only)
   (first | refine cCd ?_ ?_ | refine cC ?_ ?_) <;> intro hb28
   · refine nav ?_
     (refine aC_region ?_ <;> refine xL 29 q_move ?_ <;> refine xL 6 q_assign ?_ <;> refine xL 7 q_assign ?_ <;> refine xL 8 q_assign ?_ <;> refine aL_end (nav ?_) <;> try dsimp only)
     refine aR_ent (nilSlD (t := 7) rfl) fun _ => ?_
     exact ret_sss (Tryz.results85) rfl rfl rfl rfl
   · exact absurd (by simpa using hb28) he
theorem aCompare_ok (a b A B : Aut) (op : Int) (q : List PrS × List (List Nat)) (x : List Int) (t : Bool) (hf : AF Tryz.prog 70 [pAut a, pAut b] (· = pInt 0)) (hb : AF Tryz.prog 71 [pAut a, pAut b, pInt op] (· = .tup [pPairs A B op q, pInt 0])) (hg : AF Tryz.prog 115 [pPairs A B op q] (· = .tup [pInts x, pBool t])) : AF Tryz.prog 85 [pAut a, pAut b, pInt op] (· = .tup [pBool (!t), pInts x, pInt 0]) := by
 refine AF.of_body 38 Tryz.func85 rfl Tryz.ntmps85 (Nat.le_of_ble_eq_true rfl) ?_
 intro w0 M0 vs hl hv
 obtain ⟨v0, v1, v2, rfl⟩ := len3 hl
 obtain rfl := hv 2 _ _ rfl rfl
 clear hl hv
 refine nav ?_
 (refine aC_region ?_ <;> refine s_boxa 3 5 fun h3 => ?_ <;> refine s_boxa 4 5 fun h4 => ?_ <;> refine xL 6 q_assign ?_ <;> refine xL 7 q_assign ?_ <;> refine xL 8 q_assign ?_ <;> refine aL_end (nav ?_) <;> try dsimp only)
 (refine aC_region ?_ <;> (refine yL 14 (q_ldao 3 tAgg25_LdS) fun v14 hv14 => ?_; cases hv14) <;> (refine yL 15 (q_ldao 4 tAgg25_LdS) fun v15 hv15 => ?_; cases hv15) <;> (refine cS 16 (cA Tryz.call70 (hf)) fun v16 hv16 => ?_; cases hv16) <;> refine xL 9 q_assign ?_ <;> refine aL_end (nav ?_) <;> try dsimp only)
 (refine aC_region ?_ <;> refine xL 17 q_move ?_ <;> refine xL 18 q_neq ?_ <;> refine aL_end (nav ?_) <;> try dsimp only)
 (first | refine cCd ?_ ?_ | refine cC ?_ ?_) <;> intro hb18
 · first | omega | exact absurd rfl hb18 | exact Bool.noConfusion hb18
 · refine nav ?_
   (refine aC_region ?_ <;> (refine yL 21 (q_ldao 3 tAgg25_LdS) fun v21 hv21 => ?_; cases hv21) <;> (refine yL 22 (q_ldao 4 tAgg25_LdS) fun v22 hv22 => ?_; cases hv22) <;> refine xL 23 q_move ?_ <;> (refine cP 24 (cA Tryz.call71 (hb)) fun va24 vb24 hva24 hvb24 => ?_; cases hvb24) <;> refine xL 20 q_move ?_ <;> refine xL 25 q_extract ?_ <;> refine xL 26 q_extract ?_ <;> refine s_alloc [(.int .i64 0), (.slice none 0 0), (.slice none 0 0), (.slice none 0 0), (.slice none 0 0)] 5 10 tZr95_LfP fun h10 => ?_ <;> refine s_sta 10 tAgg95_LfP ?_ <;> refine xL 11 q_assign ?_ <;> refine aL_end (nav ?_) <;> try dsimp only)
   (refine aC_region ?_ <;> refine xL 27 q_move ?_ <;> refine xL 28 q_neq ?_ <;> refine aL_end (nav ?_) <;> try dsimp only)
   (first | refine cCd ?_ ?_ | refine cC ?_ ?_) <;> intro hb28
   · first | omega | exact absurd rfl hb28 | exact Bool.noConfusion hb28
   · refine nav ?_
     (refine aC_region ?_ <;> (refine yL 31 (q_ldao 10 tAgg95_LfP) fun v31 hv31 => ?_; cases hv31) <;> (refine cP 32 (cA Tryz.call115 (hg)) fun va32 vb32 hva32 hvb32 => ?_; cases hvb32) <;> refine xL 30 q_move ?_ <;> refine xL 33 q_extract ?_ <;> refine xL 34 q_extract ?_ <;> refine xL 12 q_assign ?_ <;> refine xL 13 q_assign ?_ <;> refine aL_end (nav ?_) <;> try dsimp only)
     (refine aC_region ?_ <;> refine xL 35 q_move ?_ <;> refine xL 36 q_not ?_ <;> refine xL 37 q_move ?_ <;> refine xL 6 q_assign ?_ <;> refine xL 7 q_assign ?_ <;> refine xL 8 q_assign ?_ <;> refine aL_end (nav ?_) <;> try dsimp only)
     exact ret_sss (Tryz.results85) rfl rfl rfl rfl
def resC (x : Bool × List Int × Int) : PV := .tup [pBool x.1, pInts x.2.1, pInt x.2.2]
theorem aCompare_e (a b : Aut) (op : Int) : AF Tryz.prog 85 [pAut a, pAut b, pInt op] (· = resC (cmpX a b op)) := by
 have hf := aFit_e a b
 unfold cmpX
 by_cases h0 : fitX a b = 0
 · rw [if_neg (fun h => h h0)]
   have hb := aBoth_e a b op h0
   rw [h0] at hf
   unfold resB at hb
   cases e : bothX a b with
   | error f =>
     rw [e] at hb
     refine aCompare_err a b op f (fun hf0 => ?_) hf hb
     unfold bothX at e
     split at e
     · split at e <;> cases e
       omega
     · cases e; omega
   | ok x =>
     obtain ⟨A, B, o, rows⟩ := x
     rw [e] at hb
     obtain ⟨h1, h2, h3⟩ := fit_zero h0
     unfold bothX at e
     split at e
     · rename_i A' B' ea eb
       split at e
       · rename_i q' eq
         cases e
         obtain ⟨dA, sA⟩ := redX_det (aok_of h1) ea
         obtain ⟨dB, sB⟩ := redX_det (aok_of h2) eb
         have hok := (prod_ok dA dB (by rw [sA, sB, h3]) eq).1
         have hg := aFirst_e A B op o rows eq hok.zero hok.cap
         have := aCompare_ok a b A B op (o, rows) _ _ hf hb hg
         rw [Bool.not_not] at this
         exact this
       · cases e
     · cases e
 · rw [if_pos h0]
   exact aCompare_bad a b op _ h0 hf
theorem aEquivalent_c (a b : Aut) (t : Bool) (l : List Int) (e : Int) (h : AF Tryz.prog 85 [pAut a, pAut b, pInt 4] (· = .tup [pBool t, pInts l, pInt e])) : AF Tryz.prog 33 [pAut a, pAut b] (· = .tup [pBool t, pInts l, pInt e]) := by
 refine AF.of_body 13 Tryz.func33 rfl Tryz.ntmps33 (Nat.le_of_ble_eq_true rfl) ?_
 intro w0 M0 vs hl hv
 obtain ⟨v0, v1, rfl⟩ := len2 hl
 clear hl hv
 refine nav ?_
 (refine aC_region ?_ <;> refine s_boxa 2 5 fun h2 => ?_ <;> refine s_boxa 3 5 fun h3 => ?_ <;> refine xL 4 q_assign ?_ <;> refine xL 5 q_assign ?_ <;> refine xL 6 q_assign ?_ <;> refine aL_end (nav ?_) <;> try dsimp only)
 (refine aC_region ?_ <;> (refine yL 7 (q_ldao 2 tAgg25_LdS) fun v7 hv7 => ?_; cases hv7) <;> (refine yL 8 (q_ldao 3 tAgg25_LdS) fun v8 hv8 => ?_; cases hv8) <;> (refine cPx3 9 (cA Tryz.call85 h) fun va9 vb9 vc9 hva9 hvb9 hvc9 => ?_; cases hva9; cases hvc9) <;> refine xL 10 q_extract ?_ <;> refine xL 11 q_extract ?_ <;> refine xL 12 q_extract ?_ <;> refine xL 4 q_assign ?_ <;> refine xL 5 q_assign ?_ <;> refine xL 6 q_assign ?_ <;> refine aL_end (nav ?_) <;> try dsimp only)
 exact ret_sss (Tryz.results33) rfl rfl rfl rfl
theorem aEquivalent_e (a b : Aut) : AF Tryz.prog 33 [pAut a, pAut b] (· = resC (cmpX a b 4)) := aEquivalent_c a b _ _ _ (aCompare_e a b 4)
theorem flat_takeG {α β : Type} {f : α → List β} {m : Nat} (hf : ∀ x, (f x).length = m) : ∀ (L : List α) (k : Nat), (L.flatMap f).take (k * m) = (L.take k).flatMap f
 | [], k => by simp
 | x :: L, 0 => by simp
 | x :: L, k + 1 => by
   rw [List.take_succ_cons, List.flatMap_cons, List.flatMap_cons, ← flat_takeG hf L k, List.take_append, List.take_of_length_le (by rw [hf, Nat.add_mul]; omega), hf, show (k + 1) * m - m = k * m by rw [Nat.add_mul]; omega]
theorem flat_dropG {α β : Type} {f : α → List β} {m : Nat} (hf : ∀ x, (f x).length = m) : ∀ (L : List α) (k : Nat), (L.flatMap f).drop (k * m) = (L.drop k).flatMap f
 | [], k => by simp
 | x :: L, 0 => by simp
 | x :: L, k + 1 => by
   rw [List.drop_succ_cons, List.flatMap_cons, ← flat_dropG hf L k, List.drop_append, List.drop_of_length_le (by rw [hf, Nat.add_mul]; omega), hf, show (k + 1) * m - m = k * m by rw [Nat.add_mul]; omega, List.nil_append]
theorem ins_mk (l : List Mv) (m : Mv) : insM m (mkM l) = mkM (l ++ [m]) := mkM_eq (insM_asc (mkM_asc l)) fun x => by
 rw [insM_mem, mkM_mem, List.mem_append, List.mem_singleton]
 exact ⟨fun h => h.symm, fun h => h.symm⟩
theorem asc_chain : ∀ {l : List Mv}, AscM l → chainB mvLt l = true
 | [], _ => rfl
 | [_], _ => rfl
 | x :: y :: l, h => by
   have h' := List.pairwise_cons.1 h
   rw [chainB, Bool.and_eq_true]
   exact ⟨h'.1 y (List.mem_cons_self ..), asc_chain h'.2⟩
theorem srt_chain : ∀ {l : List Int}, Srt l → chainB ltI l = true
 | [], _ => rfl
 | [_], _ => rfl
 | x :: y :: l, h => by
   have h' := List.pairwise_cons.1 h
   rw [chainB, Bool.and_eq_true]
   exact ⟨by unfold ltI; simpa using h'.1 y (List.mem_cons_self ..), srt_chain h'.2⟩
theorem st_ok {a : Aut} {l : List Int} (h : InS a l) (hs : Srt l) : stOk a.n l = true := by
 unfold stOk
 rw [Bool.and_eq_true, List.all_eq_true]
 refine ⟨fun x hx => ?_, srt_chain hs⟩
 have := h x hx
 simp [this.1, this.2]
theorem ok_mk {a : Aut} (h : PreA a) (hs : Srt a.start) (hf : Srt a.fin) (hn : ¬ 2000 < a.n) (hm : ¬ 20000 < (mkM a.moves).length) : autOk (mkA a) = true := by
 have h1 := h.n0
 have h2 := h.s0
 have h3 := h.s1
 unfold autOk
 simp only [Bool.and_eq_true, decide_eq_true_eq]
 refine ⟨⟨⟨⟨⟨⟨⟨⟨h1, by show a.n ≤ 2000; omega⟩, h2⟩, h3⟩, by show (mkM a.moves).length ≤ 20000; omega⟩, st_ok h.st hs⟩, st_ok h.fi hf⟩, ?_⟩, asc_chain (mkM_asc _)⟩
 rw [List.all_eq_true]
 intro m hm'
 have hm' : m ∈ mkM a.moves := hm'
 have := h.mv m (mkM_mem.1 hm')
 unfold mvOk
 simp only [Bool.and_eq_true, decide_eq_true_eq]
 show ((((0 ≤ m.src ∧ m.src < a.n) ∧ 0 ≤ m.dst) ∧ m.dst < a.n) ∧ -1 ≤ m.sym) ∧ m.sym < a.syms
 omega
def doneX (b : Aut) : Except Int Aut := if 2000 < b.n ∨ 20000 < b.moves.length then .error 13 else minX b
theorem madeX_fin {a : Aut} (h : PreA a) (hs : Srt a.start) (hf : Srt a.fin) : madeX a = doneX (mkA a) := by
 unfold madeX redL doneX minX
 show (if 2000 < a.n ∨ 20000 < (mkM a.moves).length then _ else redX (mkA a)) = (if 2000 < a.n ∨ 20000 < (mkM a.moves).length then _ else _)
 by_cases hb : 2000 < a.n ∨ 20000 < (mkM a.moves).length
 · rw [if_pos hb, if_pos hb]
 · rw [if_neg hb, if_neg hb, if_pos (ok_mk h hs hf (fun h => hb (.inl h)) (fun h => hb (.inr h)))]
section
variable {a b : Aut}
theorem addI_srt {n : Int} {l : List Int} (h : Srt l) : Srt (addI n l) := List.pairwise_map.2 (h.imp fun h => by omega)
end
theorem ins_old {l : List Mv} {m : Mv} (h : AscM l) (hm : m ∈ l) : insM m l = l := ascM_ext (insM_asc h) h fun x => by
 rw [insM_mem]
 exact ⟨fun h => by rcases h with rfl | h <;> assumption, .inr⟩
theorem ins_new {l : List Mv} {m : Mv} {i : Nat} (h : AscM l) (hi : i ≤ l.length) (h1 : ∀ (j : Nat) (x : Mv), i ≤ j → l[j]? = some x → mvLt m x = true) (h2 : ∀ x, 0 < i → l[i - 1]? = some x → mvLt m x = false ∧ x ≠ m) :
 insM m l = l.take i ++ [m] ++ l.drop i := by
 refine ascM_ext (insM_asc h) ?_ fun x => ?_
 · have hlo : ∀ x ∈ l.take i, mvLt x m = true := fun x hx => by
    obtain ⟨j, hj⟩ := List.getElem?_of_mem hx
    have hj' := (List.getElem?_eq_some_iff.1 hj).1
    rw [List.length_take] at hj'
    rw [List.getElem?_take_of_lt (by omega)] at hj
    obtain ⟨y, hy⟩ : ∃ y, l[i - 1]? = some y := ⟨l[i - 1], List.getElem?_eq_getElem (by omega)⟩
    obtain ⟨h3, hym⟩ := h2 y (by omega) hy
    have h4 : mvLt y m = true := by
     cases h5 : mvLt y m with
     | true => rfl
     | false => exact absurd (mvLt_tri h5 h3) hym
    by_cases hji : j = i - 1
    · subst hji; rw [hj] at hy; cases hy; exact h4
    · refine mvLt_tr ?_ h4
      obtain ⟨h6, h7⟩ := List.getElem?_eq_some_iff.1 hj
      obtain ⟨h8, h9⟩ := List.getElem?_eq_some_iff.1 hy
      rw [← h7, ← h9]
      exact List.pairwise_iff_getElem.1 h j (i - 1) h6 h8 (by omega)
   have hhi : ∀ x ∈ l.drop i, mvLt m x = true := fun x hx => by
    obtain ⟨j, hj⟩ := List.getElem?_of_mem hx
    rw [List.getElem?_drop] at hj
    exact h1 (i + j) x (by omega) hj
   have hta : AscM (l.take i) := h.sublist (List.take_sublist ..)
   have hdr : AscM (l.drop i) := h.sublist (List.drop_sublist ..)
   refine List.pairwise_append.2 ⟨List.pairwise_append.2 ⟨hta, List.pairwise_singleton .., fun x hx y hy => by rw [List.mem_singleton.1 hy]; exact hlo x hx⟩, hdr, fun x hx y hy => ?_⟩
   rcases List.mem_append.1 hx with hx | hx
   · exact mvLt_tr (hlo x hx) (hhi y hy)
   · rw [List.mem_singleton.1 hx]; exact hhi y hy
 · rw [insM_mem]
   constructor
   · rintro (rfl | h)
     · simp
     · rw [← List.take_append_drop i l] at h
       rcases List.mem_append.1 h with h | h
       · exact List.mem_append_left _ (List.mem_append_left _ h)
       · exact List.mem_append_right _ h
   · intro h
     rcases List.mem_append.1 h with h | h
     · rcases List.mem_append.1 h with h | h
       · exact .inr (List.mem_of_mem_take h)
       · exact .inl (List.mem_singleton.1 h)
     · exact .inr (List.mem_of_mem_drop h)
theorem mv_at {l : List Mv} {k : Nat} {x : Mv} (h : l[k]? = some x) : (l.flatMap cMv)[k * 3 + 0]? = some (pInt x.src) ∧ (l.flatMap cMv)[k * 3 + 1]? = some (pInt x.dst) ∧ (l.flatMap cMv)[k * 3 + 2]? = some (pInt x.sym) := by
 have e := flat_drop cMv_len l k x h
 have key : ∀ i, i < 3 → (l.flatMap cMv)[k * 3 + i]? = (cMv x)[i]? := fun i hi => by
  rw [← e, List.getElem?_take_of_lt hi, List.getElem?_drop]
 exact ⟨key 0 (by omega), key 1 (by omega), key 2 (by omega)⟩
theorem r07given_ff (a b : Aut) (hla : a.moves.length ≤ 1000000) (hlb : b.moves.length ≤ 1000000) (ha : autOk a = false) (hb : autOk b = false) (hs : True) : AF Tryz.prog 89 [pAut a, pAut b] (· = pInt 1) := by
 have hva := r07Valid_e a hla
 have hvb := r07Valid_e b hlb
 rw [ha] at hva
 rw [hb] at hvb
 refine AF.of_body 18 Tryz.func89 rfl Tryz.ntmps89 (Nat.le_of_ble_eq_true rfl) ?_
 intro w0 M0 vs hl hv
 obtain ⟨v0, v1, rfl⟩ := len2 hl
 clear hl hv
 refine nav ?_
 (refine aC_region ?_ <;> refine s_boxa 2 5 fun h2 => ?_ <;> refine s_boxa 3 5 fun h3 => ?_ <;> refine xL 4 q_assign ?_ <;> refine aL_end (nav ?_) <;> try dsimp only)
 (refine aC_region ?_ <;> (refine yL 5 (q_ldao 2 tAgg25_LdS) fun v5 hv5 => ?_; cases hv5) <;> (refine cS 6 (cA Tryz.call25 (hva)) fun v6 hv6 => ?_; cases hv6) <;> refine xL 7 q_not ?_ <;> refine xL 8 q_move ?_ <;> refine kL 9 ?_ <;> refine kL 10 ?_ <;> refine kL 11 ?_ <;> refine xL 12 q_pick ?_ <;> refine aL_end (nav ?_) <;> try dsimp only) <;> (
  (first | refine cCd ?_ ?_ | refine cC ?_ ?_) <;> intro hb12
  · first
    | exact Bool.noConfusion hb12
    | (
     refine nav ?_
     (refine aC_region ?_ <;> refine xL 4 q_assign ?_ <;> refine aL_end (nav ?_) <;> try dsimp only)
     exact ret_shr (Tryz.results89) rfl rfl)
  · first
    | exact Bool.noConfusion hb12
    | skip)
theorem r07given_ft (a b : Aut) (hla : a.moves.length ≤ 1000000) (hlb : b.moves.length ≤ 1000000) (ha : autOk a = false) (hb : autOk b = true) (hs : True) : AF Tryz.prog 89 [pAut a, pAut b] (· = pInt 1) := by
 have hva := r07Valid_e a hla
 have hvb := r07Valid_e b hlb
 rw [ha] at hva
 rw [hb] at hvb
 refine AF.of_body 18 Tryz.func89 rfl Tryz.ntmps89 (Nat.le_of_ble_eq_true rfl) ?_
 intro w0 M0 vs hl hv
 obtain ⟨v0, v1, rfl⟩ := len2 hl
 clear hl hv
 refine nav ?_
 (refine aC_region ?_ <;> refine s_boxa 2 5 fun h2 => ?_ <;> refine s_boxa 3 5 fun h3 => ?_ <;> refine xL 4 q_assign ?_ <;> refine aL_end (nav ?_) <;> try dsimp only)
 (refine aC_region ?_ <;> (refine yL 5 (q_ldao 2 tAgg25_LdS) fun v5 hv5 => ?_; cases hv5) <;> (refine cS 6 (cA Tryz.call25 (hva)) fun v6 hv6 => ?_; cases hv6) <;> refine xL 7 q_not ?_ <;> refine xL 8 q_move ?_ <;> refine kL 9 ?_ <;> refine kL 10 ?_ <;> refine kL 11 ?_ <;> refine xL 12 q_pick ?_ <;> refine aL_end (nav ?_) <;> try dsimp only) <;> (
  (first | refine cCd ?_ ?_ | refine cC ?_ ?_) <;> intro hb12
  · first
    | exact Bool.noConfusion hb12
    | (
     refine nav ?_
     (refine aC_region ?_ <;> refine xL 4 q_assign ?_ <;> refine aL_end (nav ?_) <;> try dsimp only)
     exact ret_shr (Tryz.results89) rfl rfl)
  · first
    | exact Bool.noConfusion hb12
    | skip)
theorem r07given_tf (a b : Aut) (hla : a.moves.length ≤ 1000000) (hlb : b.moves.length ≤ 1000000) (ha : autOk a = true) (hb : autOk b = false) (hs : True) : AF Tryz.prog 89 [pAut a, pAut b] (· = pInt 1) := by
 have hva := r07Valid_e a hla
 have hvb := r07Valid_e b hlb
 rw [ha] at hva
 rw [hb] at hvb
 refine AF.of_body 18 Tryz.func89 rfl Tryz.ntmps89 (Nat.le_of_ble_eq_true rfl) ?_
 intro w0 M0 vs hl hv
 obtain ⟨v0, v1, rfl⟩ := len2 hl
 clear hl hv
 refine nav ?_
 (refine aC_region ?_ <;> refine s_boxa 2 5 fun h2 => ?_ <;> refine s_boxa 3 5 fun h3 => ?_ <;> refine xL 4 q_assign ?_ <;> refine aL_end (nav ?_) <;> try dsimp only)
 (refine aC_region ?_ <;> (refine yL 5 (q_ldao 2 tAgg25_LdS) fun v5 hv5 => ?_; cases hv5) <;> (refine cS 6 (cA Tryz.call25 (hva)) fun v6 hv6 => ?_; cases hv6) <;> refine xL 7 q_not ?_ <;> refine xL 8 q_move ?_ <;> (refine yL 9 (q_ldao 3 tAgg25_LdS) fun v9 hv9 => ?_; cases hv9) <;> (refine cS 10 (cA Tryz.call25 (hvb)) fun v10 hv10 => ?_; cases hv10) <;> refine xL 11 q_not ?_ <;> refine xL 12 q_pick ?_ <;> refine aL_end (nav ?_) <;> try dsimp only) <;> (
  (first | refine cCd ?_ ?_ | refine cC ?_ ?_) <;> intro hb12
  · first
    | exact Bool.noConfusion hb12
    | (
     refine nav ?_
     (refine aC_region ?_ <;> refine xL 4 q_assign ?_ <;> refine aL_end (nav ?_) <;> try dsimp only)
     exact ret_shr (Tryz.results89) rfl rfl)
  · first
    | exact Bool.noConfusion hb12
    | skip)
theorem r07given_tn (a b : Aut) (hla : a.moves.length ≤ 1000000) (hlb : b.moves.length ≤ 1000000) (ha : autOk a = true) (hb : autOk b = true) (hs : ¬ a.syms = b.syms) : AF Tryz.prog 89 [pAut a, pAut b] (· = pInt 29) := by
 have hva := r07Valid_e a hla
 have hvb := r07Valid_e b hlb
 rw [ha] at hva
 rw [hb] at hvb
 refine AF.of_body 18 Tryz.func89 rfl Tryz.ntmps89 (Nat.le_of_ble_eq_true rfl) ?_
 intro w0 M0 vs hl hv
 obtain ⟨v0, v1, rfl⟩ := len2 hl
 clear hl hv
 refine nav ?_
 (refine aC_region ?_ <;> refine s_boxa 2 5 fun h2 => ?_ <;> refine s_boxa 3 5 fun h3 => ?_ <;> refine xL 4 q_assign ?_ <;> refine aL_end (nav ?_) <;> try dsimp only)
 (refine aC_region ?_ <;> (refine yL 5 (q_ldao 2 tAgg25_LdS) fun v5 hv5 => ?_; cases hv5) <;> (refine cS 6 (cA Tryz.call25 (hva)) fun v6 hv6 => ?_; cases hv6) <;> refine xL 7 q_not ?_ <;> refine xL 8 q_move ?_ <;> (refine yL 9 (q_ldao 3 tAgg25_LdS) fun v9 hv9 => ?_; cases hv9) <;> (refine cS 10 (cA Tryz.call25 (hvb)) fun v10 hv10 => ?_; cases hv10) <;> refine xL 11 q_not ?_ <;> refine xL 12 q_pick ?_ <;> refine aL_end (nav ?_) <;> try dsimp only) <;> (
  (first | refine cCd ?_ ?_ | refine cC ?_ ?_) <;> intro hb12
  · first
    | exact Bool.noConfusion hb12
    | (
     refine nav ?_
     (refine aC_region ?_ <;> refine xL 4 q_assign ?_ <;> refine aL_end (nav ?_) <;> try dsimp only)
     exact ret_shr (Tryz.results89) rfl rfl)
  · first
    | exact Bool.noConfusion hb12
    | (
     refine nav ?_
     (refine aC_region ?_ <;> refine xL 13 (q_fldo 2 tFl25_1_LdI) ?_ <;> (refine yL 14 (q_ldo 2 tNa3_LbB) fun v14 hv14 => ?_; cases hv14) <;> refine xL 15 (q_fldo 3 tFl25_1_LdI) ?_ <;> (refine yL 16 (q_ldo 3 tNa3_LbB) fun v16 hv16 => ?_; cases hv16) <;> refine xL 17 q_neq ?_ <;> refine aL_end (nav ?_) <;> try dsimp only)
     (first | refine cCd ?_ ?_ | refine cC ?_ ?_) <;> intro hb17
     · first
       | exact Bool.noConfusion hb17
       | (
        refine nav ?_
        (refine aC_region ?_ <;> refine xL 4 q_assign ?_ <;> refine aL_end (nav ?_) <;> try dsimp only)
        first | exact ret_shr (Tryz.results89) rfl rfl | exact absurd hs (by simpa using hb17))
     · first
       | exact Bool.noConfusion hb17
       | (
        refine nav ?_
        (refine aC_region ?_ <;> refine xL 4 q_assign ?_ <;> refine aL_end (nav ?_) <;> try dsimp only)
        first | exact ret_shr (Tryz.results89) rfl rfl | exact absurd (by simpa using hb17) hs)))
theorem r07given_tt (a b : Aut) (hla : a.moves.length ≤ 1000000) (hlb : b.moves.length ≤ 1000000) (ha : autOk a = true) (hb : autOk b = true) (hs : a.syms = b.syms) : AF Tryz.prog 89 [pAut a, pAut b] (· = pInt 0) := by
 have hva := r07Valid_e a hla
 have hvb := r07Valid_e b hlb
 rw [ha] at hva
 rw [hb] at hvb
 refine AF.of_body 18 Tryz.func89 rfl Tryz.ntmps89 (Nat.le_of_ble_eq_true rfl) ?_
 intro w0 M0 vs hl hv
 obtain ⟨v0, v1, rfl⟩ := len2 hl
 clear hl hv
 refine nav ?_
 (refine aC_region ?_ <;> refine s_boxa 2 5 fun h2 => ?_ <;> refine s_boxa 3 5 fun h3 => ?_ <;> refine xL 4 q_assign ?_ <;> refine aL_end (nav ?_) <;> try dsimp only)
 (refine aC_region ?_ <;> (refine yL 5 (q_ldao 2 tAgg25_LdS) fun v5 hv5 => ?_; cases hv5) <;> (refine cS 6 (cA Tryz.call25 (hva)) fun v6 hv6 => ?_; cases hv6) <;> refine xL 7 q_not ?_ <;> refine xL 8 q_move ?_ <;> (refine yL 9 (q_ldao 3 tAgg25_LdS) fun v9 hv9 => ?_; cases hv9) <;> (refine cS 10 (cA Tryz.call25 (hvb)) fun v10 hv10 => ?_; cases hv10) <;> refine xL 11 q_not ?_ <;> refine xL 12 q_pick ?_ <;> refine aL_end (nav ?_) <;> try dsimp only) <;> (
  (first | refine cCd ?_ ?_ | refine cC ?_ ?_) <;> intro hb12
  · first
    | exact Bool.noConfusion hb12
    | (
     refine nav ?_
     (refine aC_region ?_ <;> refine xL 4 q_assign ?_ <;> refine aL_end (nav ?_) <;> try dsimp only)
     exact ret_shr (Tryz.results89) rfl rfl)
  · first
    | exact Bool.noConfusion hb12
    | (
     refine nav ?_
     (refine aC_region ?_ <;> refine xL 13 (q_fldo 2 tFl25_1_LdI) ?_ <;> (refine yL 14 (q_ldo 2 tNa3_LbB) fun v14 hv14 => ?_; cases hv14) <;> refine xL 15 (q_fldo 3 tFl25_1_LdI) ?_ <;> (refine yL 16 (q_ldo 3 tNa3_LbB) fun v16 hv16 => ?_; cases hv16) <;> refine xL 17 q_neq ?_ <;> refine aL_end (nav ?_) <;> try dsimp only)
     (first | refine cCd ?_ ?_ | refine cC ?_ ?_) <;> intro hb17
     · first
       | exact Bool.noConfusion hb17
       | (
        refine nav ?_
        (refine aC_region ?_ <;> refine xL 4 q_assign ?_ <;> refine aL_end (nav ?_) <;> try dsimp only)
        first | exact ret_shr (Tryz.results89) rfl rfl | exact absurd hs (by simpa using hb17))
     · first
       | exact Bool.noConfusion hb17
       | (
        refine nav ?_
        (refine aC_region ?_ <;> refine xL 4 q_assign ?_ <;> refine aL_end (nav ?_) <;> try dsimp only)
        first | exact ret_shr (Tryz.results89) rfl rfl | exact absurd (by simpa using hb17) hs)))
theorem r07given_e (a b : Aut) (hla : a.moves.length ≤ 1000000) (hlb : b.moves.length ≤ 1000000) : AF Tryz.prog 89 [pAut a, pAut b] (· = pInt (fitX a b)) := by
 cases ha : autOk a
 · rw [fit_no1 ha]
   cases hb : autOk b
   · exact r07given_ff a b hla hlb ha hb trivial
   · exact r07given_ft a b hla hlb ha hb trivial
 · cases hb : autOk b
   · rw [fit_no2 hb]; exact r07given_tf a b hla hlb ha hb trivial
   · by_cases hs : a.syms = b.syms
     · rw [fit_ok ha hb hs]; exact r07given_tt a b hla hlb ha hb hs
     · rw [fit_ne ha hb hs]; exact r07given_tn a b hla hlb ha hb hs
theorem r07insert_e (l : List Mv) (m : Mv) (hl : l.length ≤ 1000000) (ha : AscM l) : AF Tryz.prog 91 [pMvs l, .agg (cMv m)] (· = pMvs (insM m l)) := by
 refine AF.of_body 47 Tryz.func91 rfl Tryz.ntmps91 (Nat.le_of_ble_eq_true rfl) ?_
 intro w0 M0 vs hl hv
 obtain ⟨v0, v1, rfl⟩ := len2 hl
 clear hl hv
 refine aC_slen 0 rfl fun hlen => ?_
 refine nav ?_
 (refine aC_region ?_ <;> refine s_boxa 3 3 fun h3 => ?_ <;> refine xL 4 q_assign ?_ <;> refine aL_end (nav ?_) <;> try dsimp only)
 (refine aC_region ?_ <;> refine xL 7 q_move ?_ <;> refine xL 8 (q_len tSl23_LdI) ?_ <;> refine xL 5 q_assign ?_ <;> refine aL_end (nav ?_) <;> try dsimp only)
 refine aC_loop (ι := { i : Nat // i ≤ l.length ∧ ∀ (j : Nat) (x : Mv), i ≤ j → l[j]? = some x → mvLt m x = true }) (fun k => ⟨[(0, _, _), (3, _, _), (5, .int .i64 k.1, pInt k.1)], [(3, _, _)]⟩) (fun k => k.1) ⟨l.length, Nat.le_refl _, fun j x h1 h2 => by have := lt_of_get h2; omega⟩ (fun a w H => H.weaken ⟨rfl, rfl, rfl, trivial⟩ ⟨rfl, trivial⟩) ?_
 rintro ⟨i, hi, hp⟩
 dsimp only
 obtain ⟨x, hx⟩ : ∃ x : Mv, 0 < i → l[((i : Int) - 1).toNat]? = some x := by
  rcases Nat.eq_zero_or_pos i with h0 | h0
  · exact ⟨m, fun h => by omega⟩
  · obtain ⟨x, hx⟩ := get_some (show ((i : Int) - 1).toNat < l.length by omega)
    exact ⟨x, fun _ => hx⟩
 have hi1 : ((i : Int) - 1).toNat = i - 1 := by omega
 refine nav ?_
 (refine aC_draw (fun i => ([] : List Nat).elem i) [3] (by kernel_rfl) ?_ <;> refine xE 0 9 rfl q_move ?_ <;> refine xE 1 10 rfl q_gtr ?_ <;> refine xE 2 11 rfl q_move ?_ <;> (refine bDd 11 (fun hb11 => ?_) (fun hb11 => ?_) <;> (first | refine kD 3 12 rfl ?_ | (have hx2 := hx (by omega); have e1 := flat_drop cMv_len l ((i : Int) - 1).toNat x hx2; have e2 := flat_fit cMv_len hx2; refine yD 3 12 rfl (q_ldao (k := 3) (ps := cMv m) 3 (by kernel_rfl)) fun v12 hv12 => ?_; cases hv12))) <;> (first | refine kD 4 13 rfl ?_ | refine xD 4 13 rfl q_move ?_) <;> (first | refine kD 5 14 rfl ?_ | refine xD 5 14 rfl q_move ?_) <;> (first | refine kD 6 15 rfl ?_ | refine xD 6 15 rfl q_sub ?_) <;> (first | refine kD 7 16 rfl ?_ | refine xD 7 16 rfl (q_idx tSl23_LdI) ?_) <;> (first | refine kD 8 17 rfl ?_ | (refine yD 8 17 rfl (q_lda tAgg72_LdI) fun v17 hv17 => ?_; cases hv17)) <;> (refine aD_one 9 (by kernel_rfl) ?_) <;> (first | (refine aW_call (d := 18) rfl (cA Tryz.call81 (r07before_e m x)) fun v18 hv18 => ?_; cases hv18) | (refine aW_run rfl fun w9 M9 N9 DQ back => ?_; refine kL 18 ?_; refine aL_end (back _ (nrm ?_)))) <;> refine xE 10 19 rfl q_pick ?_ <;> refine aD_end (by kernel_rfl) (nav ?_) <;> try dsimp only) <;> (
  (first | refine cCd ?_ ?_ | refine cC ?_ ?_) <;> intro hb19
  · first
    | exact Bool.noConfusion hb19
    | (
     refine nav ?_
     (refine aC_region ?_ <;> refine xL 20 q_move ?_ <;> refine xL 21 q_sub ?_ <;> refine xL 5 q_assign ?_ <;> refine aL_end (nav ?_) <;> try dsimp only)
     have hi0 : 0 < i := by omega
     rw [show ((i : Int) - 1) = ((i - 1 : Nat) : Int) by omega]
     refine aN_again (
      ⟨i - 1, by omega, fun j y h1 h2 => by
       by_cases e : j = i - 1
       · have hx3 := hx hi0
         rw [hi1, ← e, h2] at hx3; cases hx3; exact mvCmp_lt.1 hb19
       · exact hp j y (by omega) h2⟩
      ) (by dsimp only; omega) ⟨rfl, rfl, rfl, trivial⟩ ⟨rfl, trivial⟩)
  · first
    | exact Bool.noConfusion hb19
    | (
     refine nav ?_
     (refine aC_draw (fun i => ([] : List Nat).elem i) [3] (by kernel_rfl) ?_ <;> refine xE 0 22 rfl q_move ?_ <;> refine xE 1 23 rfl q_gtr ?_ <;> refine xE 2 24 rfl q_move ?_ <;> (refine bDd 24 (fun hb24 => ?_) (fun hb24 => ?_) <;> (first | refine kD 3 25 rfl ?_ | (have hx2 := hx (by omega); have e1 := flat_drop cMv_len l ((i : Int) - 1).toNat x hx2; have e2 := flat_fit cMv_len hx2; refine xD 3 25 rfl q_move ?_))) <;> (first | refine kD 4 26 rfl ?_ | refine xD 4 26 rfl q_move ?_) <;> (first | refine kD 5 27 rfl ?_ | refine xD 5 27 rfl q_sub ?_) <;> (first | refine kD 6 28 rfl ?_ | refine xD 6 28 rfl (q_idx tSl23_LdI) ?_) <;> (first | refine kD 7 29 rfl ?_ | (refine yD 7 29 rfl (q_lda tAgg72_LdI) fun v29 hv29 => ?_; cases hv29)) <;> (first | refine kD 8 30 rfl ?_ | (refine yD 8 30 rfl (q_ldao 3 tAgg72_LdI) fun v30 hv30 => ?_; cases hv30)) <;> (first | refine kD 9 31 rfl ?_ | refine xD 9 31 rfl ((q_eqS (us := vMv x) (us' := vMv m) uMvS hMvS gMvS (eqMv_runG x m) rfl rfl)) ?_) <;> refine xE 10 32 rfl q_pick ?_ <;> refine aD_end (by kernel_rfl) (nav ?_) <;> try dsimp only) <;> (
      (first | refine cCd ?_ ?_ | refine cC ?_ ?_) <;> intro hb32
      · first
        | exact Bool.noConfusion hb32
        | (
         refine nav ?_
         (refine aC_region ?_ <;> refine xL 33 q_move ?_ <;> refine xL 4 q_assign ?_ <;> refine aL_end (nav ?_) <;> try dsimp only)
         refine ret_shr (Tryz.results91) rfl ?_
         first
          | (exfalso; simp at hb32; done)
          | (have hxm := eqM_iff.1 hb32
             rw [ins_old ha (hxm ▸ List.mem_of_getElem? (hx (by omega)))]))
      · first
        | exact Bool.noConfusion hb32
        | (
         refine nav ?_
         have g1 := flat_dropG cMv_len l
         have f5 : (l.flatMap cMv).length = l.length * 3 := flat_len cMv_len l
         have f1 : (((l.flatMap cMv).drop (0 * 3)).take ((i - 0) * 3)).length = (i - 0) * 3 := by rw [List.length_take, List.length_drop, f5]; omega
         have f3 : (((l.flatMap cMv).drop (i * 3)).take ((l.length - i) * 3)).length = (l.length - i) * 3 := by rw [List.length_take, List.length_drop, f5]; omega
         have f0 : ∀ q ∈ l.flatMap cMv, En.one q = true := List.all_eq_true.1 (cMv_one l)
         have f2 : (((l.flatMap cMv).drop (0 * 3)).take ((i - 0) * 3)).all En.one = true := List.all_eq_true.2 fun q hq => f0 q (List.mem_of_mem_drop (List.mem_of_mem_take hq))
         have f4 : (((l.flatMap cMv).drop (i * 3)).take ((l.length - i) * 3)).all En.one = true := List.all_eq_true.2 fun q hq => f0 q (List.mem_of_mem_drop (List.mem_of_mem_take hq))
         (refine aC_draw (fun i => ([] : List Nat).elem i) [3] (by kernel_rfl) ?_ <;> refine xD 1 35 rfl q_move ?_ <;> refine xD 2 36 rfl q_move ?_ <;> refine xD 3 37 rfl (y_slc_shr (i := 0) (j := i) tSl23_LdI rfl rfl rfl rfl (Nat.zero_le _) hi f5) ?_ <;> (refine yD 5 39 rfl (q_ldao 3 tAgg72_LdI) fun v39 hv39 => ?_; cases hv39) <;> (refine aD_two 0 6 (by kernel_rfl) ?_ ?_; rotate_right; (focus ((refine aW_run rfl fun w9 M9 N9 DQ back => ?_) <;> refine s_lit1a 40 tEl23_LdR fun h40 ho40 => ?_ <;> refine aL_end (back _ (nrm ?_)) <;> (refine aD_one 0 (by kernel_rfl) ?_) <;> (refine aW_run rfl fun w9 M9 N9 DQ back => ?_) <;> refine s_lit0 34 tEl23_LdR fun h34 ho34 => ?_ <;> refine aL_end (back _ (nrm ?_)) <;> (refine aD_one 4 (by kernel_rfl) ?_) <;> (refine aW_run rfl fun w9 M9 N9 DQ back => ?_) <;> refine s_apps 34 38 tEl23_LdR (fun h38 ho38 => ?_) f1 f2 <;> refine aL_end (back _ (nrm ?_)) <;> (refine aD_one 7 (by kernel_rfl) ?_) <;> (refine aW_run rfl fun w9 M9 N9 DQ back => ?_) <;> refine s_app 38 40 41 tEl23_LdR fun h41 ho41 => ?_ <;> refine aL_end (back _ (nrm ?_)) <;> refine xE 8 6 rfl q_assign ?_)); rotate_right; (focus ((refine aW_run rfl fun w9 M9 N9 DQ back => ?_) <;> refine s_lit0 34 tEl23_LdR fun h34 ho34 => ?_ <;> refine aL_end (back _ (nrm ?_)) <;> (refine aD_two 4 6 (by kernel_rfl) ?_ ?_; rotate_right; (focus ((refine aW_run rfl fun w9 M9 N9 DQ back => ?_) <;> refine s_lit1a 40 tEl23_LdR fun h40 ho40 => ?_ <;> refine aL_end (back _ (nrm ?_)) <;> (refine aD_one 4 (by kernel_rfl) ?_) <;> (refine aW_run rfl fun w9 M9 N9 DQ back => ?_) <;> refine s_apps 34 38 tEl23_LdR (fun h38 ho38 => ?_) f1 f2 <;> refine aL_end (back _ (nrm ?_)) <;> (refine aD_one 7 (by kernel_rfl) ?_) <;> (refine aW_run rfl fun w9 M9 N9 DQ back => ?_) <;> refine s_app 38 40 41 tEl23_LdR fun h41 ho41 => ?_ <;> refine aL_end (back _ (nrm ?_)) <;> refine xE 8 6 rfl q_assign ?_)); rotate_right; (focus ((refine aW_run rfl fun w9 M9 N9 DQ back => ?_) <;> refine s_apps 34 38 tEl23_LdR (fun h38 ho38 => ?_) f1 f2 <;> refine aL_end (back _ (nrm ?_)) <;> (refine aD_one 6 (by kernel_rfl) ?_) <;> (refine aW_run rfl fun w9 M9 N9 DQ back => ?_) <;> refine s_lit1a 40 tEl23_LdR fun h40 ho40 => ?_ <;> refine aL_end (back _ (nrm ?_)) <;> (refine aD_one 7 (by kernel_rfl) ?_) <;> (refine aW_run rfl fun w9 M9 N9 DQ back => ?_) <;> refine s_app 38 40 41 tEl23_LdR fun h41 ho41 => ?_ <;> refine aL_end (back _ (nrm ?_)) <;> refine xE 8 6 rfl q_assign ?_)))))) <;> refine aD_end (by kernel_rfl) (nav ?_) <;> try dsimp only) <;> (
          (refine aC_region ?_ <;> refine xL 42 q_move ?_ <;> refine xL 43 q_move ?_ <;> refine xL 44 q_move ?_ <;> refine xL 45 (y_slc_shr (i := i) (j := l.length) tSl23_LdI rfl rfl rfl rfl hi (Nat.le_refl _) f5) ?_ <;> refine s_apps 41 46 tEl23_LdR (fun h46 ho46 => ?_) f3 f4 <;> refine xL 4 q_assign ?_ <;> refine aL_end (nav ?_) <;> try dsimp only)
          have hn : ∀ y, 0 < i → l[i - 1]? = some y → mvLt m y = false ∧ y ≠ m := fun y h0 hy => by
           first
            | (exfalso; omega)
            | (have hx3 := hx h0
               rw [hi1, hy] at hx3; cases hx3
               refine ⟨?_, fun e => ?_⟩
               · cases hc : mvLt m x with
                 | false => rfl
                 | true => exact absurd (mvCmp_lt.2 hc) hb19
               · simp [eqM_iff.2 e] at hb32)
          have hcells : [] ++ ((l.flatMap cMv).drop (0 * 3)).take ((i - 0) * 3) ++ cMv m ++ ((l.flatMap cMv).drop (i * 3)).take ((l.length - i) * 3) = (insM m l).flatMap cMv := by
           rw [ins_new ha hi hp hn, List.flatMap_append, List.flatMap_append, List.flatMap_singleton, Nat.zero_mul, List.drop_zero, Nat.sub_zero, flat_takeG cMv_len, flat_dropG cMv_len, List.take_of_length_le (show ((l.drop i).flatMap cMv).length ≤ (l.length - i) * 3 by rw [flat_len cMv_len, List.length_drop]; exact Nat.le_refl _), List.nil_append]
          have hlen2 : 0 + (i - 0) + 1 + (l.length - i) = (insM m l).length := by
           rw [ins_new ha hi hp hn, List.length_append, List.length_append, List.length_take, List.length_drop, List.length_singleton]; omega
          refine aR_ent (recast (l := 46) (p' := .own 72 3 (insM m l).length ((insM m l).flatMap cMv)) rfl (by rw [← hcells, ← hlen2]; rfl)) fun _ => ?_
          refine aR_ent (En.freeze (l := 46) (t := 4) rfl rfl) fun _ => ?_
          rw [share_mvl _ _ _ rfl]
          exact ret_shr (Tryz.results91) rfl rfl)))))
theorem r07finish_g (a : Aut) (hl : a.moves.length ≤ 1000000) {p0 p1 p2 p3 p4 : PV} {E : Int} (r5 : R5 p0 p1 p2 p3 p4) (hm : AF Tryz.prog 27 [pAut a] (· = .tup [.agg [p0, p1, p2, p3, p4], pInt E])) : AF Tryz.prog 92 [pAut a] (· = if 2000 < a.n ∨ 20000 < a.moves.length then .tup [rawZ, pInt 13] else .tup [.agg [p0, p1, p2, p3, p4], pInt E]) := by
 obtain ⟨o0, o1, o2, o3, o4⟩ := r5.o
 refine AF.of_body 20 Tryz.func92 rfl Tryz.ntmps92 (Nat.le_of_ble_eq_true rfl) ?_
 intro w0 M0 vs hl hv
 obtain ⟨v0, rfl⟩ := len1 hl
 clear hl hv
 refine nav ?_
 (refine aC_region ?_ <;> refine s_boxa 1 5 fun h1 => ?_ <;> refine s_alloc [(.int .i64 0), (.int .i64 0), (.slice none 0 0), (.slice none 0 0), (.slice none 0 0)] 5 2 tZr25_LfD fun h2 => ?_ <;> refine xL 3 q_assign ?_ <;> refine aL_end (nav ?_) <;> try dsimp only)
 (refine aC_region ?_ <;> refine xL 4 (q_fldo 1 tFl25_0_LdI) ?_ <;> (refine yL 5 (q_ldo 1 tNa3_LbB) fun v5 hv5 => ?_; cases hv5) <;> refine xL 6 q_gtr ?_ <;> refine xL 7 q_move ?_ <;> (refine bLd 7 (fun hb7 => ?_) (fun hb7 => ?_) <;> (first | refine kL 8 ?_ | refine xL 8 (q_fldo 1 tFl25_4_LdI) ?_)) <;> (first | refine kL 9 ?_ | (refine yL 9 (q_ldo 1 tNa23_LdI) fun v9 hv9 => ?_; cases hv9)) <;> (first | refine kL 10 ?_ | refine xL 10 (q_len tSl23_LdI) ?_) <;> (first | refine kL 11 ?_ | refine xL 11 q_gtr ?_) <;> refine xL 12 q_pick ?_ <;> refine aL_end (nav ?_) <;> try dsimp only) <;> (
  (first | refine cCd ?_ ?_ | refine cC ?_ ?_) <;> intro hb12
  · first
    | exact Bool.noConfusion hb12
    | (
     refine nav ?_
     (refine aC_region ?_ <;> (refine cP 13 (cA Tryz.call75 (r07limit_e)) fun va13 vb13 hva13 hvb13 => ?_; cases hvb13) <;> refine xL 14 q_extract ?_ <;> refine xL 15 q_extract ?_ <;> refine s_sta 2 tAgg25_LdS ?_ <;> refine xL 3 q_assign ?_ <;> refine aL_end (nav ?_) <;> try dsimp only)
     exact ret_cs (k := 5) 2 (by kernel_rfl) (Tryz.results92) rfl rfl rfl (Nat.le_of_ble_eq_true rfl) (by decide) rfl (by rw [if_pos (by omega)]; rfl))
  · first
    | exact Bool.noConfusion hb12
    | (
     refine nav ?_
     (refine aC_region ?_ <;> (refine yL 16 (q_ldao 1 tAgg25_LdS) fun v16 hv16 => ?_; cases hv16) <;> (refine cP 17 (cA Tryz.call27 hm) (fun va17 vb17 hva17 hvb17 => ?_) (hsh := r5.t E); cases hvb17) <;> refine xL 18 q_extract ?_ <;> refine xL 19 q_extract ?_ <;> refine s_sta 2 tAgg25_LdS ?_ <;> refine xL 3 q_assign ?_ <;> refine aL_end (nav ?_) <;> try dsimp only)
     exact ret_cs (k := 5) 2 (by kernel_rfl) (Tryz.results92) rfl rfl rfl (Nat.le_of_ble_eq_true rfl) (by decide) r5.s (by rw [if_neg (by omega)]; rfl)))
theorem r07finish_e (a : Aut) (hl : a.moves.length ≤ 1000000) : AF Tryz.prog 92 [pAut a] (· = resW (doneX a)) := by
 have h := r07Minimal_e a hl
 unfold doneX
 cases hx : minX a with
 | ok A =>
   rw [hx] at h
   have := r07finish_g a hl (R5.aut A) h
   refine this.mono fun p hp => ?_
   rw [hp]; split <;> rfl
 | error e =>
   rw [hx] at h
   have := r07finish_g a hl R5.raw h
   refine this.mono fun p hp => ?_
   rw [hp]; split <;> rfl
theorem ints_one (l : List Int) : (l.map pInt).all En.one = true := by rw [List.all_eq_true]; intro p hp; obtain ⟨z, _, rfl⟩ := List.mem_map.1 hp; rfl
theorem ints_len1 (l : List Int) : (l.map pInt).length = l.length * 1 := by rw [List.length_map, Nat.mul_one]
theorem ints_app (e : Nat) (l m : List Int) : PV.own e 1 (l.length + m.length) (l.map pInt ++ m.map pInt) = .own e 1 (l ++ m).length ((l ++ m).map pInt) := by rw [List.map_append, List.length_append]
theorem fit_vok {a b : Aut} (h : fitX a b = 0) : VOk a ∧ VOk b ∧ a.syms = b.syms := by
 obtain ⟨h1, h2, h3⟩ := fit_zero h
 exact ⟨vok_of h1, vok_of h2, h3⟩
theorem fin_5 (x : Except Int Aut) : ∃ (p0 p1 p2 p3 p4 : PV) (E : Int), R5 p0 p1 p2 p3 p4 ∧ resW x = .tup [.agg [p0, p1, p2, p3, p4], pInt E] := by
 cases x with
 | ok A => exact ⟨_, _, _, _, _, _, R5.aut A, rfl⟩
 | error e => exact ⟨_, _, _, _, _, _, R5.raw, rfl⟩
theorem mvs_len3 (l : List Mv) : (l.flatMap cMv).length = l.length * 3 := flat_len cMv_len l
end Go.Proofs.YtgigclnaicbiaaaGreatDoor
namespace Go.En
open Go.RowKit Go.Cb
set_option linter.all false
section
variable {P : Program} {st : St} {o : Oper}
theorem y_idx_slc {t e k e' k' n a : Nat} {x y : Operand} {h : Value} {p q : PV} {cs : List PV} {kd : IntKind} {i : Int} (l : Nat) (hT : SlT P t e k = true) (ho : o.op = .indexAddr t x y) (hx : ev st.slots x = some (slc h a n k, p)) (hy : ev st.slots y = some (.int kd i, q)) (hl : lk st.heap l = some (h, .own e' k' n cs)) (h0 : 0 ≤ i) (h1 : (a : Int) + i < n) {m : Nat} (hm : m = (a + i.toNat) * k) :
 YE P st o (· = padd (sbase h) m) (.val (padd (sbase h) m)) :=
 .exact fun M F w' w H => by
  subst hm
  have hv := (H.ev hx).1
  have hi := (H.ev hy).1
  obtain ⟨g, cap, rfl, hc, _⟩ := own_hdr (H.tr l _ _ hl) (by omega)
  refine ⟨.val _, ?_⟩
  have hca : cap ≠ a := by omega
  simp only [slc, hca, if_false, Option.map_some, add_none, Nat.zero_add] at hv
  simp [execOp, ho, hv, hi, run_indexAt hT h0 (show i < ((n - a : Nat) : Int) by omega), sbase, padd, Nat.add_mul]
theorem y_len_slc {t e k e' k' n a : Nat} {x : Operand} {h : Value} {p : PV} {cs : List PV} (l : Nat) (hT : SlT P t e k = true) (ho : o.op = .call { callee := .builtin .len, args := #[x], argTypes := #[t] }) (hx : ev st.slots x = some (slc h a n k, p)) (hl : lk st.heap l = some (h, .own e' k' n cs)) {m : Nat} (hm : m = n - a) : YE P st o (· = .int .i64 m) (.val (.int .i64 m)) :=
 .exact fun M F w' w H => by
  subst hm
  have hv := (H.ev hx).1
  obtain ⟨xs, Fs, hrow, hlen, _⟩ := (H.tr l _ _ hl).row
  rcases row_form hrow with ⟨rfl, rfl, _⟩ | ⟨g, cap, rfl, h1, h2, h3⟩
  · exact ⟨.val _, by simp [execOp, ho, hv, resolve, invoke, builtin, Builtin.len_, run_underlying (SlT.und hT), goInt, slc]⟩
  · exact ⟨.val _, by simp [execOp, ho, hv, resolve, invoke, builtin, Builtin.len_, run_underlying (SlT.und hT), goInt, slc]⟩
end
end Go.En
namespace Go.Proofs.YtgigclnaicbiaaaGreatDoor
open Go.RowKit Go.Cb Go.En
set_option linter.all false
set_option maxRecDepth 100000
theorem setL_row (L : List Mv) (k : Nat) (x : Mv) (h : k < L.length) : setL (L.flatMap cMv) (k * 3) (cMv x) = (L.set k x).flatMap cMv := by
 have e : L = L.take k ++ [L[k]] ++ L.drop (k + 1) := by
  rw [List.append_assoc, List.singleton_append, List.getElem_cons_drop, List.take_append_drop]
 have e2 : L.set k x = L.take k ++ [x] ++ L.drop (k + 1) := by
  rw [List.set_eq_take_append_cons_drop, if_pos h, List.append_assoc]; rfl
 rw [e2]
 conv => lhs; rw [e]
 simp only [List.flatMap_append, List.flatMap_singleton]
 exact setL_at (α := Int) (cMv x) _ _ _ _ (by rw [flat_len cMv_len, List.length_take, Nat.min_eq_left (Nat.le_of_lt h)]) rfl
theorem le_nt {x y : Mv} (h : ¬ mvCmp x y < 0) : y = x ∨ mvLt y x = true := by
 rw [mvCmp_lt] at h
 cases h2 : mvLt y x with
 | true => exact .inr rfl
 | false => exact .inl (mvLt_tri h2 (by simpa using h))
theorem mk_one {l : List Mv} (h : 1 ≤ l.length) : mkM (l.take 1) = l.take 1 := by
 cases l with
 | nil => simp at h
 | cons x l => rfl
theorem mk_same {l : List Mv} {p : Nat} {x y : Mv} (hy : l[p]? = some y) (hx : l[p + 1]? = some x) (he : eqM x y = true) : mkM (l.take (p + 1 + 1)) = mkM (l.take (p + 1)) := by
 have e := eqM_iff.1 he
 subst e
 refine ascM_ext (mkM_asc _) (mkM_asc _) fun z => ?_
 rw [mkM_mem, mkM_mem, take_snoc hx, List.mem_append, List.mem_singleton]
 exact ⟨fun h => h.elim id fun h => by subst h; rw [take_snoc hy]; exact List.mem_append_right _ (List.mem_singleton.2 rfl), .inl⟩
theorem mk_new {l : List Mv} (hs : Sorted l) {p : Nat} {x y : Mv} (hy : l[p]? = some y) (hx : l[p + 1]? = some x) (he : eqM x y = false) : mkM (l.take (p + 1 + 1)) = mkM (l.take (p + 1)) ++ [x] := by
 have hyx : mvLt y x = true := by
  rcases le_nt (hs p (p + 1) y x (by omega) hy hx) with h | h
  · subst h; rw [eqM_iff.2 rfl] at he; cases he
  · exact h
 refine (mkM_eq ?_ fun z => ?_).symm
 · refine List.pairwise_append.2 ⟨mkM_asc _, List.pairwise_singleton .., fun z hz w hw => ?_⟩
   rw [List.mem_singleton.1 hw]
   rw [mkM_mem] at hz
   obtain ⟨i, hi⟩ := List.getElem?_of_mem hz
   have hi' := lt_of_get hi
   rw [List.length_take] at hi'
   rw [List.getElem?_take_of_lt (by omega)] at hi
   by_cases e : i = p
   · subst e; rw [hi] at hy; cases hy; exact hyx
   · rcases le_nt (hs i p z y (by omega) hi hy) with h | h
     · subst h; exact hyx
     · exact mvLt_tr h hyx
 · rw [List.mem_append, mkM_mem, List.mem_singleton, take_snoc hx, List.mem_append, List.mem_singleton]
theorem slc_one {hv : Value} (h : hv.oneCell' = true) (i j k : Nat) : (slc hv i j k).oneCell' = true := by
 unfold slc; split
 · rfl
 · exact h
set_option maxHeartbeats 2000000 in
theorem compactMv_e (l : List Mv) (hl : l.length ≤ 1000000) (hs : Sorted l) (hv : Value) (hvo : hv.oneCell' = true) : AFh False Tryz.prog 117 [(0, hv, .val hv)] [(1000, hv, .own 72 3 l.length (l.flatMap cMv))] (fun v q h => v.oneCell' = true ∧ q = .val v ∧ h = [(1000, v, .own 72 3 (mkM l).length ((mkM l).flatMap cMv))]) := by
 refine AFh.of_body 61 Tryz.func117 rfl Tryz.ntmps117 (Nat.le_of_ble_eq_true rfl) rfl ?_
 intro w0 M0 N0
 refine nav ?_
 (refine aC_region ?_ <;> refine xL 2 q_assign ?_ <;> refine aL_end (nav ?_) <;> try dsimp only)
 (refine aC_region ?_ <;> refine xL 6 q_move ?_ <;> refine xL 7 (q_leno 1000 tSl23_LdI) ?_ <;> refine xL 8 q_lss ?_ <;> refine aL_end (nav ?_) <;> try dsimp only)
 (first | refine cCd ?_ ?_ | refine cC ?_ ?_) <;> intro hb8
 · first
   | exact Bool.noConfusion hb8
   | (
    refine nav ?_
    (refine aC_region ?_ <;> refine xL 9 q_move ?_ <;> refine xL 2 q_assign ?_ <;> refine aL_end (nav ?_) <;> try dsimp only)
    refine ret_h [(1000, hv, PV.own 72 3 l.length (l.flatMap cMv))] (Tryz.results117) rfl ⟨rfl, trivial⟩ ⟨hvo, rfl, ?_⟩
    have hm : mkM l = l := by
     match l, hl, hb8 with
     | [], _, _ => rfl
     | [_], _, _ => rfl
     | _ :: _ :: _, _, h => simp at h; omega
    rw [hm])
 · first
   | exact Bool.noConfusion hb8
   | (
    refine nav ?_
    (refine aC_region ?_ <;> refine xL 3 q_assign ?_ <;> refine aL_end (nav ?_) <;> try dsimp only)
    refine aC_loop (ι := { k : Nat // 1 ≤ k ∧ k ≤ l.length ∧ mkM (l.take k) = l.take k }) (fun k => ⟨[(0, _, _), (3, .int .i64 k.1, pInt k.1)], [(1000, _, _)]⟩) (fun k => l.length - k.1) ⟨1, Nat.le_refl _, by omega, mk_one (by omega)⟩ (fun a w H => H.weaken ⟨rfl, rfl, trivial⟩ ⟨rfl, trivial⟩) ?_
    rintro ⟨k1, hk1, hk, hmk⟩
    dsimp only
    obtain ⟨k, rfl⟩ : ∃ k, k1 = k + 1 := ⟨k1 - 1, by omega⟩
    refine nav ?_
    (refine aC_region ?_ <;> refine xL 10 q_move ?_ <;> refine xL 11 q_move ?_ <;> refine xL 12 (q_leno 1000 tSl23_LdI) ?_ <;> refine xL 13 q_lss ?_ <;> refine aL_end (nav ?_) <;> try dsimp only)
    (first | refine cCd ?_ ?_ | refine cC ?_ ?_) <;> intro hb13
    · first
      | exact Bool.noConfusion hb13
      | (
       obtain ⟨x, hx⟩ := get_some (show k + 1 < l.length by omega)
       obtain ⟨y, hy⟩ := get_some (show k < l.length by omega)
       have e1 := flat_drop cMv_len l (k + 1) x hx
       have e2 := flat_fit cMv_len hx
       have e3 : ((l.flatMap cMv).drop ((((k + 1 : Nat) : Int) - 1).toNat * 3)).take 3 = cMv y := by rw [show (((k + 1 : Nat) : Int) - 1).toNat * 3 = k * 3 by omega]; exact flat_drop cMv_len l k y hy
       have e4 := flat_fit cMv_len hy
       have hlt : k + 1 < l.length := lt_of_get hx
       refine nav ?_
       (refine aC_draw (fun i => ([] : List Nat).elem i) [1000] (by kernel_rfl) ?_ <;> refine xD 0 16 rfl q_move ?_ <;> refine xD 1 17 rfl q_move ?_ <;> refine xD 2 18 rfl (q_idxoN 1000 tSl23_LdI) ?_ <;> (refine yD 3 19 rfl (q_ldao 1000 tAgg72_LdI) fun v19 hv19 => ?_; cases hv19) <;> refine xD 4 20 rfl q_move ?_ <;> refine xE 5 21 rfl q_move ?_ <;> refine xE 6 22 rfl q_sub ?_ <;> refine xE 7 23 rfl (q_idxo 1000 tSl23_LdI) ?_ <;> (refine yE 8 24 rfl (q_ldao 1000 tAgg72_LdI) fun v24 hv24 => ?_; cases hv24) <;> refine xE 9 25 rfl ((q_eqS (us := vMv x) (us' := vMv y) uMvS hMvS gMvS (eqMv_runG x y) rfl rfl)) ?_ <;> refine aD_end (by kernel_rfl) (nav ?_) <;> try dsimp only)
       (first | refine cCd ?_ ?_ | refine cC ?_ ?_) <;> intro hb25
       · first
         | exact Bool.noConfusion hb25
         | (
          have hsm := mk_same hy hx (by simpa using hb25)
          have hl1 : (mkM (l.take (k + 1 + 1))).length = k + 1 := by rw [hsm, hmk, List.length_take]; omega
          refine nav ?_
          (refine aC_region ?_ <;> refine xL 26 q_move ?_ <;> refine xL 27 q_move ?_ <;> refine xL 28 (y_slc_own (i := k + 1) (j := l.length) 1000 tSl23_LdI rfl rfl rfl rfl rfl (Nat.le_of_lt hlt) (Nat.le_refl _)) ?_ <;> refine xL 4 q_assign ?_ <;> refine aL_end (nav ?_) <;> try dsimp only)
          (refine aC_region ?_ <;> refine xL 5 q_assign ?_ <;> refine aL_end (nav ?_) <;> try dsimp only)
          refine aC_loop (ι := { q : Nat × Nat × List Mv // 1 ≤ q.1 ∧ k + 1 + q.1 ≤ l.length ∧ q.2.1 = (mkM (l.take (k + 1 + q.1))).length ∧ q.2.2.length = l.length ∧ q.2.2.take q.2.1 = mkM (l.take (k + 1 + q.1)) ∧ q.2.1 ≤ k + q.1 ∧ ∀ i, k + q.1 ≤ i → q.2.2[i]? = l[i]? }) (fun k => ⟨[(0, _, _), (4, _, _), (3, .int .i64 k.1.2.1, pInt k.1.2.1), (5, .int .i64 k.1.1, pInt k.1.1)], [(1000, hv, .own 72 3 l.length (k.1.2.2.flatMap cMv))]⟩) (fun k => l.length - k.1.1) ⟨(1, k + 1, l), Nat.le_refl _, by dsimp only; omega, hl1.symm, rfl, by dsimp only; rw [hsm, hmk], Nat.le_refl _, fun i _ => rfl⟩ (fun a w H => H.weaken ⟨rfl, rfl, rfl, rfl, trivial⟩ ⟨rfl, trivial⟩) ?_
          rintro ⟨⟨j, K, L⟩, hj1, hj, hK, hLl, hLt, hKj, hLr⟩
          dsimp only
          dsimp only at hj1 hj hK hLl hLt hKj hLr
          obtain ⟨j', rfl⟩ : ∃ j', j = j' + 1 := ⟨j - 1, by omega⟩
          have hK2 : (K : Int) ≤ 1000000 := by omega
          rw [show k + 1 + (j' + 1) = k + 1 + j' + 1 from rfl] at hK hLt
          refine nav ?_
          (refine aC_region ?_ <;> refine xL 29 q_move ?_ <;> refine xL 30 q_move ?_ <;> refine xL 31 ((y_len_slc (a := k + 1) (m := l.length - (k + 1)) 1000 tSl23_LdI rfl rfl rfl rfl)) ?_ <;> refine xL 32 q_lss ?_ <;> refine aL_end (nav ?_) <;> try dsimp only)
          (first | refine cCd ?_ ?_ | refine cC ?_ ?_) <;> intro hb32
          · first
            | exact Bool.noConfusion hb32
            | (
             obtain ⟨u, hu⟩ := get_some (show k + 1 + (j' + 1) < l.length by omega)
             obtain ⟨v, hv2⟩ := get_some (show k + 1 + j' < l.length by omega)
             have hu' : L[k + 1 + (j' + 1)]? = some u := by rw [hLr _ (by omega)]; exact hu
             have hv' : L[k + 1 + j']? = some v := by rw [hLr _ (by omega)]; exact hv2
             have g1 := flat_drop cMv_len L _ u hu'
             have g2 := flat_fit cMv_len hu'
             have g3 := flat_drop cMv_len L _ v hv'
             have g4 := flat_fit cMv_len hv'
             have g5 : K < L.length := by omega
             have g6 : K * 3 + 3 ≤ (L.flatMap cMv).length := by rw [flat_len cMv_len]; omega
             refine nav ?_
             (refine aC_draw (fun i => ([] : List Nat).elem i) [1000] (by kernel_rfl) ?_ <;> refine xD 0 35 rfl q_move ?_ <;> refine xD 1 36 rfl q_move ?_ <;> refine xD 2 37 rfl ((y_idx_slc (a := k + 1) (m := (k + 1 + (j' + 1)) * 3) 1000 tSl23_LdI rfl rfl rfl rfl (by omega) (by omega) (by omega))) ?_ <;> (refine yD 3 38 rfl (q_ldao 1000 tAgg72_LdI) fun v38 hv38 => ?_; cases hv38) <;> refine xD 4 39 rfl q_move ?_ <;> refine xE 5 40 rfl q_move ?_ <;> refine xE 6 41 rfl q_sub ?_ <;> refine xE 7 42 rfl ((y_idx_slc (a := k + 1) (m := (k + 1 + j') * 3) 1000 tSl23_LdI rfl rfl rfl rfl (by omega) (by omega) (by omega))) ?_ <;> (refine yE 8 43 rfl (q_ldao 1000 tAgg72_LdI) fun v43 hv43 => ?_; cases hv43) <;> refine xE 9 44 rfl ((q_neS (us := vMv u) (us' := vMv v) uMvS hMvS gMvS (eqMv_runG u v) rfl rfl)) ?_ <;> refine aD_end (by kernel_rfl) (nav ?_) <;> try dsimp only)
             (first | refine cCd ?_ ?_ | refine cC ?_ ?_) <;> intro hb44
             · first
               | exact Bool.noConfusion hb44
               | (
                have hnw2 := mk_new hs hv2 hu (by simpa using hb44)
                have hset := setL_row L K u g5
                have hlen2 : K + 1 = (mkM (l.take (k + 1 + j' + 1 + 1))).length := by rw [hnw2, List.length_append, List.length_singleton, hK]
                have htk2 : (L.set K u).take (K + 1) = mkM (l.take (k + 1 + j' + 1 + 1)) := by
                 rw [hnw2, ← hLt, List.take_set, take_snoc (List.getElem?_eq_getElem g5), List.set_append_right _ _ (by rw [List.length_take]; omega), List.length_take, Nat.min_eq_left (by omega), Nat.sub_self]; rfl
                refine nav ?_
                (refine aC_region ?_ <;> refine xL 45 q_move ?_ <;> refine xL 46 q_move ?_ <;> refine xL 47 q_move ?_ <;> refine xL 48 q_move ?_ <;> refine xL 49 ((y_idx_slc (a := k + 1) (m := (k + 1 + (j' + 1)) * 3) 1000 tSl23_LdI rfl rfl rfl rfl (by omega) (by omega) (by omega))) ?_ <;> (refine yL 50 (q_ldao 1000 tAgg72_LdI) fun v50 hv50 => ?_; cases hv50) <;> refine xL 51 (q_idxoN 1000 tSl23_LdI) ?_ <;> refine s_sta 1000 tAgg72_LdI ?_ <;> refine aL_end (nav ?_) <;> try dsimp only)
                (refine aC_region ?_ <;> refine xL 52 q_move ?_ <;> refine xL 53 q_add ?_ <;> refine xL 3 q_assign ?_ <;> refine aL_end (nav ?_) <;> try dsimp only)
                (refine aC_region ?_ <;> refine xL 33 q_move ?_ <;> refine xL 34 q_add ?_ <;> refine xL 5 q_assign ?_ <;> refine aL_end (nav ?_) <;> try dsimp only)
                try rw [hset]
                first
                 | (exact aN_again (
                     ⟨(j' + 1 + 1, K + 1, L.set K u), by dsimp only; omega, by dsimp only; omega, hlen2, by dsimp only; rw [List.length_set]; exact hLl, htk2, by dsimp only; omega, fun i hi => by dsimp only at hi ⊢; rw [List.getElem?_set_ne (by omega)]; exact hLr i (by omega)⟩
                     ) (by dsimp only; omega) ⟨rfl, rfl, rfl, rfl, trivial⟩ ⟨rfl, trivial⟩)
                 | (exact aN_again (
                     ⟨(j' + 1 + 1, K, L), by dsimp only; omega, by dsimp only; omega, hK.trans (by rw [show k + 1 + (j' + 1 + 1) = k + 1 + j' + 1 + 1 by omega, hsm2]), hLl, hLt.trans (by rw [show k + 1 + (j' + 1 + 1) = k + 1 + j' + 1 + 1 by omega, hsm2]), by dsimp only; omega, fun i hi => hLr i (by dsimp only at hi; omega)⟩
                     ) (by dsimp only; omega) ⟨rfl, rfl, rfl, rfl, trivial⟩ ⟨rfl, trivial⟩))
             · first
               | exact Bool.noConfusion hb44
               | (
                have hsm2 := mk_same hv2 hu (by simpa using hb44)
                refine nav ?_
                (refine aC_region ?_ <;> refine xL 33 q_move ?_ <;> refine xL 34 q_add ?_ <;> refine xL 5 q_assign ?_ <;> refine aL_end (nav ?_) <;> try dsimp only)
                try rw [hset]
                first
                 | (exact aN_again (
                     ⟨(j' + 1 + 1, K + 1, L.set K u), by dsimp only; omega, by dsimp only; omega, hlen2, by dsimp only; rw [List.length_set]; exact hLl, htk2, by dsimp only; omega, fun i hi => by dsimp only at hi ⊢; rw [List.getElem?_set_ne (by omega)]; exact hLr i (by omega)⟩
                     ) (by dsimp only; omega) ⟨rfl, rfl, rfl, rfl, trivial⟩ ⟨rfl, trivial⟩)
                 | (exact aN_again (
                     ⟨(j' + 1 + 1, K, L), by dsimp only; omega, by dsimp only; omega, hK.trans (by rw [show k + 1 + (j' + 1 + 1) = k + 1 + j' + 1 + 1 by omega, hsm2]), hLl, hLt.trans (by rw [show k + 1 + (j' + 1 + 1) = k + 1 + j' + 1 + 1 by omega, hsm2]), by dsimp only; omega, fun i hi => hLr i (by dsimp only at hi; omega)⟩
                     ) (by dsimp only; omega) ⟨rfl, rfl, rfl, rfl, trivial⟩ ⟨rfl, trivial⟩)))
          · first
            | exact Bool.noConfusion hb32
            | (
             have hall : l.take (k + 1 + j' + 1) = l := List.take_of_length_le (by omega)
             rw [hall] at hK hLt
             have hKl : K ≤ l.length := by omega
             refine nav ?_
             (refine aC_region ?_ <;> refine xL 54 q_move ?_ <;> refine xL 55 q_move ?_ <;> refine xL 56 (y_slc_own (i := K) (j := l.length) 1000 tSl23_LdI rfl rfl rfl rfl rfl hKl (Nat.le_refl _)) ?_ <;> (refine aL_clear 1000 tEl23_LdR (by decide) rfl rfl rfl rfl rfl hKl ?_; intro cs2 hcs1 hcs2) <;> refine aL_end (nav ?_) <;> try dsimp only)
             (refine aC_region ?_ <;> refine xL 57 q_move ?_ <;> refine xL 58 q_move ?_ <;> refine xL 59 (y_slc_own (i := 0) (j := K) 1000 tSl23_LdI rfl rfl rfl rfl rfl (Nat.zero_le _) hKl) ?_ <;> refine xL 2 q_assign ?_ <;> refine aL_end (nav ?_) <;> try dsimp only)
             refine aR_ent (trim (l := 1000) K rfl hKl) fun _ => ?_
             refine ret_h [(1000, slc hv 0 K 3, PV.own 72 3 K (cs2.take (K * 3)))] (Tryz.results117) rfl ⟨rfl, trivial⟩ ⟨slc_one hvo _ _ _, rfl, ?_⟩
             rw [hcs2, ← hLt, flat_takeG cMv_len]
             rw [show (L.take K).length = K by rw [List.length_take]; omega]))
       · first
         | exact Bool.noConfusion hb25
         | (
          have hnw := mk_new hs hy hx (by simpa using hb25)
          rw [hmk, ← take_snoc hx] at hnw
          refine nav ?_
          (refine aC_region ?_ <;> refine xL 14 q_move ?_ <;> refine xL 15 q_add ?_ <;> refine xL 3 q_assign ?_ <;> refine aL_end (nav ?_) <;> try dsimp only)
          refine aN_again (
           ⟨k + 1 + 1, by omega, by omega, hnw⟩
           ) (by dsimp only; omega) ⟨rfl, rfl, trivial⟩ ⟨rfl, trivial⟩))
    · first
      | exact Bool.noConfusion hb13
      | (
       refine nav ?_
       (refine aC_region ?_ <;> refine xL 60 q_move ?_ <;> refine xL 2 q_assign ?_ <;> refine aL_end (nav ?_) <;> try dsimp only)
       refine ret_h [(1000, hv, PV.own 72 3 l.length (l.flatMap cMv))] (Tryz.results117) rfl ⟨rfl, trivial⟩ ⟨hvo, rfl, ?_⟩
       rw [List.take_of_length_le (show l.length ≤ k + 1 by omega)] at hmk
       rw [hmk]))
theorem mk_perm {l m : List Mv} (h : l.Perm m) : mkM l = mkM m := mkM_eq (mkM_asc l) fun x => by rw [mkM_mem]; exact h.mem_iff
theorem aMade_d (a : Aut) (hl : a.moves.length ≤ 1000000) (V hM : Value) (hMo : hM.oneCell' = true) {p0 p1 p2 p3 p4 : PV} {E : Int} (h5 : R5 p0 p1 p2 p3 p4) (hr : AF Tryz.prog 83 [pAut (mkA a)] (· = .tup [.agg [p0, p1, p2, p3, p4], pInt E])) : AFh False Tryz.prog 88 [(0, V, .agg [pInt a.n, pInt a.syms, pInts a.start, pInts a.fin, .val hM])] [(1000, hM, .own 72 3 a.moves.length (a.moves.flatMap cMv))] (fun v q h => (∃ V1 : Value, v = .tuple [V1, .int .i64 E].toArray) ∧ q = .tup [.agg [p0, p1, p2, p3, p4], pInt E] ∧ h = []) := by
 obtain ⟨o0, o1, o2, o3, o4⟩ := h5.o
 refine AFh.of_body 15 Tryz.func88 rfl Tryz.ntmps88 (Nat.le_of_ble_eq_true rfl) rfl ?_
 intro w0 M0 N0
 have hone : En.one (PV.val hM) = true := hMo
 refine nav ?_
 (refine aC_region ?_ <;> refine s_boxa 1 5 fun h1 => ?_ <;> refine s_alloc [(.int .i64 0), (.int .i64 0), (.slice none 0 0), (.slice none 0 0), (.slice none 0 0)] 5 2 tZr25_LfD fun h2 => ?_ <;> refine xL 3 q_assign ?_ <;> refine aL_end (nav ?_) <;> try dsimp only)
 (refine aC_region ?_ <;> refine xL 4 (q_fldo 1 tFl25_4_LdI) ?_ <;> (refine yL 5 (q_ldo 1 tNa23_LdI) fun v5 hv5 => ?_; cases hv5) <;> (rcases Nat.eq_zero_or_pos a.moves.length with h0 | h0 <;> first | (refine aL_ent (recast (l := 1000) (p' := .own 72 3 0 []) rfl (by rw [List.eq_nil_of_length_eq_zero h0]; rfl)) fun _ => ?_; refine aL_sort0 (l := 1000) sortMv_none rfl rfl (Nat.le_of_ble_eq_true rfl) rfl (Tryz.call116) rfl rfl rfl ?_; obtain ⟨rows', hperm, hord⟩ : ∃ rows' : List Mv, rows'.Perm a.moves ∧ Sorted rows' := ⟨[], by rw [List.eq_nil_of_length_eq_zero h0], fun i j x y _ h => by simp at h⟩; refine aL_ent (recast (l := 1000) (p' := .own 72 3 rows'.length (rows'.flatMap cMv)) rfl (by rw [List.eq_nil_of_length_eq_zero (hperm.length_eq.trans h0)]; rfl)) fun _ => ?_) | (refine aL_sort (l := 1000) (β := Mv) (f := cMv) (cmp := mvCmp) (rows := a.moves) sortMv_c cMv_len (by decide) (fun _ => rfl) mvCmp_irr mvCmp_tr mvCmp_nt (fun x y M W u v _ _ hu hv => mv_exact2 x y M W u v hu hv) h0 (by omega) rfl rfl (Nat.le_of_ble_eq_true rfl) rfl (Tryz.call116) rfl rfl rfl (fun rows' hperm hord => ?_); refine aL_ent (recast (l := 1000) (p' := .own 72 3 rows'.length (rows'.flatMap cMv)) rfl (by rw [hperm.length_eq])) fun _ => ?_)) <;> refine aL_end (nav ?_) <;> try dsimp only) <;> (
  (refine aC_region ?_ <;> refine xL 7 (q_fldo 1 tFl25_4_LdI) ?_ <;> (refine yL 8 (q_ldo 1 tNa23_LdI) fun v8 hv8 => ?_; cases hv8) <;> (refine aL_heap [(1000, hM, PV.own 72 3 rows'.length (rows'.flatMap cMv)), (1, _, _), (2, _, _)] ⟨rfl, rfl, rfl, trivial⟩ ?_; refine aL_ch [1, 2] 9 (Tryz.call117) (compactMv_e rows' (by have := hperm.length_eq; omega) hord hM hMo) ?_; rintro v9 _ _ ⟨hv9, rfl, rfl⟩; refine aL_ent (recast (l := 1000) (p' := .own 72 3 (mkM a.moves).length ((mkM a.moves).flatMap cMv)) rfl (by rw [mk_perm hperm])) fun _ => ?_; have hone9 : En.one (PV.val v9) = true := hv9) <;> refine xL 10 (q_fldo 1 tFl25_4_LdI) ?_ <;> refine s_st 1 tNa23_LdI tSz23_LdR ?_ <;> refine aL_end (nav ?_) <;> try dsimp only)
  refine aC_ent (freezeCell (l := 1) (l' := 1000) (j := 4) rfl rfl rfl rfl) fun _ => ?_
  rw [share_mvl _ _ _ rfl]
  (refine aC_region ?_ <;> (refine yL 11 (q_ldao 1 tAgg25_LdS) fun v11 hv11 => ?_; cases hv11) <;> (refine cP 12 (cA Tryz.call83 hr) (fun va12 vb12 hva12 hvb12 => ?_) (hsh := h5.t E); cases hvb12) <;> refine xL 13 q_extract ?_ <;> refine xL 14 q_extract ?_ <;> refine s_sta 2 tAgg25_LdS ?_ <;> refine xL 3 q_assign ?_ <;> refine aL_end (nav ?_) <;> try dsimp only)
  exact ret_hcs (k := 5) 2 [] (by kernel_rfl) (Tryz.results88) rfl rfl rfl (Nat.le_of_ble_eq_true rfl) (by decide) h5.s trivial fun V => ⟨⟨V, rfl⟩, rfl, rfl⟩)
def shL (m : Int) (x : Mv) : List Mv := (List.range m.toNat).map fun j => ⟨x.src * m + (j : Nat), x.dst * m + (j : Nat), x.sym⟩
def shR (n m : Int) (x : Mv) : List Mv := (List.range n.toNat).map fun i => ⟨(i : Nat) * m + x.src, (i : Nat) * m + x.dst, x.sym⟩
def shI (m : Int) (l k : List Int) : List Int := l.flatMap fun i => addI (i * m) k
def shM (n m : Int) (l k : List Mv) : List Mv := l.flatMap (shL m) ++ k.flatMap (shR n m)
def shufA (a b : Aut) : Aut := ⟨a.n * b.n, a.syms, shI b.n a.start b.start, shI b.n a.fin b.fin, shM a.n b.n a.moves b.moves⟩
def shufX (a b : Aut) : Except Int Aut := if ¬ fitX a b = 0 then .error (fitX a b) else if 2000 < a.n * b.n ∨ 40000 < (a.moves.length : Int) * b.n + (b.moves.length : Int) * a.n then .error 13 else madeX (shufA a b)
theorem lex_lt {m i j i' j' : Int} (h : i < i') (h0 : 0 ≤ j) (h1 : j < m) (h2 : 0 ≤ j') : i * m + j < i' * m + j' := by
 have h3 : (i + 1) * m ≤ i' * m := Int.mul_le_mul_of_nonneg_right (by omega) (by omega)
 rw [Int.add_mul, Int.one_mul] at h3
 omega
theorem lex_inj {m i j i' j' : Int} (h : i * m + j = i' * m + j') (h1 : 0 ≤ j ∧ j < m) (h2 : 0 ≤ j' ∧ j' < m) : i = i' ∧ j = j' := by
 have h3 : i = i' := by
  rcases Int.lt_trichotomy i i' with h3 | h3 | h3
  · have := lex_lt h3 h1.1 h1.2 h2.1; omega
  · exact h3
  · have := lex_lt h3 h2.1 h2.2 h1.1; omega
 subst h3
 exact ⟨rfl, by omega⟩
theorem lex_in {n m i j : Int} (hi : 0 ≤ i ∧ i < n) (hj : 0 ≤ j ∧ j < m) : 0 ≤ i * m + j ∧ i * m + j < n * m := by
 have h3 : (i + 1) * m ≤ n * m := Int.mul_le_mul_of_nonneg_right (by omega) (by omega)
 have h4 : 0 ≤ i * m := Int.mul_nonneg hi.1 (by omega)
 rw [Int.add_mul, Int.one_mul] at h3
 omega
theorem mem_shI {m x : Int} {l k : List Int} : x ∈ shI m l k ↔ ∃ i ∈ l, ∃ j ∈ k, i * m + j = x := by
 unfold shI
 simp only [List.mem_flatMap, mem_addI]
 constructor
 · rintro ⟨i, h1, j, h2, h3⟩; exact ⟨i, h1, j, h2, by omega⟩
 · rintro ⟨i, h1, j, h2, h3⟩; exact ⟨i, h1, j, h2, by omega⟩
theorem mem_shL {m : Int} {x y : Mv} : y ∈ shL m x ↔ ∃ j : Nat, (j : Int) < m ∧ (⟨x.src * m + (j : Nat), x.dst * m + (j : Nat), x.sym⟩ : Mv) = y := by
 unfold shL
 rw [List.mem_map]
 constructor
 · rintro ⟨j, h1, h2⟩; rw [List.mem_range] at h1; exact ⟨j, by omega, h2⟩
 · rintro ⟨j, h1, h2⟩; exact ⟨j, by rw [List.mem_range]; omega, h2⟩
theorem mem_shR {n m : Int} {x y : Mv} : y ∈ shR n m x ↔ ∃ i : Nat, (i : Int) < n ∧ (⟨(i : Nat) * m + x.src, (i : Nat) * m + x.dst, x.sym⟩ : Mv) = y := by
 unfold shR
 rw [List.mem_map]
 constructor
 · rintro ⟨j, h1, h2⟩; rw [List.mem_range] at h1; exact ⟨j, by omega, h2⟩
 · rintro ⟨j, h1, h2⟩; exact ⟨j, by rw [List.mem_range]; omega, h2⟩
theorem shI_srt {m : Int} {l k : List Int} (hk : ∀ j ∈ k, 0 ≤ j ∧ j < m) (h1 : Srt l) (h2 : Srt k) : Srt (shI m l k) := by
 induction l with
 | nil => exact .nil
 | cons i l ih =>
   have h := List.pairwise_cons.1 h1
   show Srt (addI (i * m) k ++ shI m l k)
   refine List.pairwise_append.2 ⟨addI_srt h2, ih h.2, fun x hx y hy => ?_⟩
   obtain ⟨j, hj, rfl⟩ := mem_addI.1 hx
   obtain ⟨i', hi', j', hj', rfl⟩ := mem_shI.1 hy
   have := lex_lt (h.1 i' hi') (hk j hj).1 (hk j hj).2 (hk j' hj').1
   omega
section
variable {a b : Aut}
theorem mem_shM {x : Mv} : x ∈ shM a.n b.n a.moves b.moves ↔ (∃ y ∈ a.moves, ∃ j : Nat, (j : Int) < b.n ∧ (⟨y.src * b.n + (j : Nat), y.dst * b.n + (j : Nat), y.sym⟩ : Mv) = x) ∨ ∃ y ∈ b.moves, ∃ i : Nat, (i : Int) < a.n ∧ (⟨(i : Nat) * b.n + y.src, (i : Nat) * b.n + y.dst, y.sym⟩ : Mv) = x := by
 unfold shM
 simp only [List.mem_append, List.mem_flatMap, mem_shL, mem_shR]
theorem shuf_pre (ha : VOk a) (hb : VOk b) (hs : a.syms = b.syms) : PreA (shufA a b) := by
 have h1 := ha.n0
 have h2 := hb.n0
 have hI : ∀ {l k : List Int}, InS a l → InS b k → ∀ x ∈ shI b.n l k, 0 ≤ x ∧ x < a.n * b.n := fun hl hk x hx => by
  obtain ⟨i, hi, j, hj, rfl⟩ := mem_shI.1 hx
  exact lex_in (hl i hi) (hk j hj)
 refine ⟨Int.mul_nonneg h1 h2, ha.s0, ha.s1, hI ha.st hb.st, hI ha.fi hb.fi, srt_nodup (shI_srt hb.st ha.ss hb.ss), srt_nodup (shI_srt hb.fi ha.fs hb.fs), fun x hx => ?_⟩
 rcases mem_shM.1 hx with ⟨y, hy, j, hj, rfl⟩ | ⟨y, hy, i, hi, rfl⟩
 · have h3 := ha.mv y hy
   have h4 := lex_in (m := b.n) (n := a.n) (i := y.src) (j := j) ⟨h3.1, h3.2.1⟩ ⟨by omega, hj⟩
   have h5 := lex_in (m := b.n) (n := a.n) (i := y.dst) (j := j) ⟨h3.2.2.1, h3.2.2.2.1⟩ ⟨by omega, hj⟩
   exact ⟨h4.1, h4.2, h5.1, h5.2, h3.2.2.2.2⟩
 · have h3 := hb.mv y hy
   have h4 := lex_in (m := b.n) (n := a.n) (i := i) (j := y.src) ⟨by omega, hi⟩ ⟨h3.1, h3.2.1⟩
   have h5 := lex_in (m := b.n) (n := a.n) (i := i) (j := y.dst) ⟨by omega, hi⟩ ⟨h3.2.2.1, h3.2.2.2.1⟩
   exact ⟨h4.1, h4.2, h5.1, h5.2, h3.2.2.2.2.1, by have := h3.2.2.2.2.2; show y.sym < a.syms; omega⟩
theorem shL_len (m : Int) (x : Mv) : (shL m x).length = m.toNat := by unfold shL; simp
theorem shR_len (n m : Int) (x : Mv) : (shR n m x).length = n.toNat := by unfold shR; simp
theorem flat_len {α β : Type} {f : α → List β} {n : Nat} (h : ∀ x, (f x).length = n) : ∀ l : List α, (l.flatMap f).length = l.length * n
 | [] => by simp
 | x :: l => by rw [List.flatMap_cons, List.length_append, h, flat_len h l, List.length_cons, Nat.succ_mul, Nat.add_comm]
theorem nodup_flat {α β : Type} {f : α → List β} {l : List α} (hl : l.Nodup) (hf : ∀ x ∈ l, (f x).Nodup) (hd : ∀ x ∈ l, ∀ y ∈ l, ∀ z, z ∈ f x → z ∈ f y → x = y) : (l.flatMap f).Nodup := by
 induction l with
 | nil => exact List.nodup_nil
 | cons x l ih =>
   rw [List.nodup_cons] at hl
   rw [List.flatMap_cons]
   refine app_nodup (hf x (List.mem_cons_self ..)) (ih hl.2 (fun y hy => hf y (List.mem_cons_of_mem _ hy)) fun y hy z hz => hd y (List.mem_cons_of_mem _ hy) z (List.mem_cons_of_mem _ hz)) fun z hz hz' => ?_
   obtain ⟨y, hy, hyz⟩ := List.mem_flatMap.1 hz'
   have := hd x (List.mem_cons_self ..) y (List.mem_cons_of_mem _ hy) z hz hyz
   rw [this] at hl
   exact hl.1 hy
theorem nodup_le {l m : List Mv} (h : l.Nodup) (hm : ∀ x ∈ l, x ∈ m) : l.length ≤ m.length := by
 have h1 : (mkM l).length ≤ m.length := asc_len (mkM_asc l) fun x hx => hm x (mkM_mem.1 hx)
 rw [mkM_nd_len h] at h1; exact h1
theorem rng_nodup {β : Type} {n : Nat} {f : Nat → β} (h : ∀ i j, f i = f j → i = j) : ((List.range n).map f).Nodup := map_nodup List.nodup_range fun x _ y _ e => h x y e
theorem shuf_many (ha : VOk a) (hb : VOk b) (h : 40000 < (a.moves.length : Int) * b.n + (b.moves.length : Int) * a.n) : 20000 < (mkM (shufA a b).moves).length := by
 have h1 := ha.n0
 have h2 := hb.n0
 have hL : (a.moves.flatMap (shL b.n)).Nodup := nodup_flat (asc_nodup2 ha.ms) (fun x _ => rng_nodup fun i j e => by have := (Mv.mk.inj e).1; omega) fun x hx y hy z hz hz' => by
  obtain ⟨j, hj, e⟩ := mem_shL.1 hz
  obtain ⟨j', hj', e'⟩ := mem_shL.1 hz'
  have e2 := Mv.mk.inj (e.trans e'.symm)
  have h3 := (lex_inj e2.1 ⟨by omega, hj⟩ ⟨by omega, hj'⟩).1
  have h4 := (lex_inj e2.2.1 ⟨by omega, hj⟩ ⟨by omega, hj'⟩).1
  cases x; cases y
  simp only [Mv.mk.injEq] at h3 h4 e2 ⊢
  exact ⟨h3, h4, e2.2.2⟩
 have hR : (b.moves.flatMap (shR a.n b.n)).Nodup := nodup_flat (asc_nodup2 hb.ms) (fun x hx => rng_nodup fun i j e => by
  have h3 := hb.mv x hx
  have h4 := (lex_inj (Mv.mk.inj e).1 ⟨h3.1, h3.2.1⟩ ⟨h3.1, h3.2.1⟩).1
  omega) fun x hx y hy z hz hz' => by
  obtain ⟨j, hj, e⟩ := mem_shR.1 hz
  obtain ⟨j', hj', e'⟩ := mem_shR.1 hz'
  have h5 := hb.mv x hx
  have h6 := hb.mv y hy
  have e2 := Mv.mk.inj (e.trans e'.symm)
  have h3 := (lex_inj e2.1 ⟨h5.1, h5.2.1⟩ ⟨h6.1, h6.2.1⟩).2
  have h4 := (lex_inj e2.2.1 ⟨h5.2.2.1, h5.2.2.2.1⟩ ⟨h6.2.2.1, h6.2.2.2.1⟩).2
  cases x; cases y
  simp only [Mv.mk.injEq] at h3 h4 e2 ⊢
  exact ⟨h3, h4, e2.2.2⟩
 have l1 := nodup_le hL (m := mkM (shufA a b).moves) fun x hx => mkM_mem.2 (List.mem_append_left _ hx)
 have l2 := nodup_le hR (m := mkM (shufA a b).moves) fun x hx => mkM_mem.2 (List.mem_append_right _ hx)
 rw [flat_len (shL_len b.n)] at l1
 rw [flat_len (shR_len a.n b.n)] at l2
 have e1 : ((a.moves.length * b.n.toNat : Nat) : Int) = a.moves.length * b.n := by rw [Int.natCast_mul, Int.toNat_of_nonneg h2]
 have e2 : ((b.moves.length * a.n.toNat : Nat) : Int) = b.moves.length * a.n := by rw [Int.natCast_mul, Int.toNat_of_nonneg h1]
 omega
theorem shufX_fin (ha : VOk a) (hb : VOk b) (hs : a.syms = b.syms) (hf : fitX a b = 0) : shufX a b = if 2000 < a.n * b.n then .error 13 else doneX (mkA (shufA a b)) := by
 unfold shufX
 rw [if_neg (fun h => h hf), ← madeX_fin (shuf_pre ha hb hs) (shI_srt hb.st ha.ss hb.ss) (shI_srt hb.fi ha.fs hb.fs)]
 by_cases h1 : 2000 < a.n * b.n
 · rw [if_pos (.inl h1), if_pos h1]
 · rw [if_neg h1]
   by_cases h2 : 40000 < (a.moves.length : Int) * b.n + (b.moves.length : Int) * a.n
   · rw [if_pos (.inr h2)]
     unfold madeX redL
     rw [if_pos (.inr (shuf_many ha hb h2))]
   · rw [if_neg (fun h => h.elim h1 h2)]
def apA (m : Int) (i j : Nat) (l : List Mv) : List Mv := (l.filter fun x => decide (x.src = (i : Int))).map fun x => ⟨(i : Nat) * m + (j : Nat), x.dst * m + (j : Nat), x.sym⟩
def apB (m : Int) (i j : Nat) (l : List Mv) : List Mv := (l.filter fun x => decide (x.src = (j : Int))).map fun x => ⟨(i : Nat) * m + (j : Nat), (i : Nat) * m + x.dst, x.sym⟩
def ownM (a b : Aut) (i j : Nat) : List Mv := mkM (apA b.n i j a.moves ++ apB b.n i j b.moves)
def rowM (a b : Aut) (i J : Nat) : List Mv := (List.range J).flatMap (ownM a b i)
def allM (a b : Aut) (I : Nat) : List Mv := (List.range I).flatMap fun i => rowM a b i b.n.toNat
def cellI (m : Int) (l k : List Int) (i j : Nat) : List Int := if hasI l (i : Nat) && hasI k (j : Nat) then [(i : Nat) * m + (j : Nat)] else []
def rowI (m : Int) (l k : List Int) (i J : Nat) : List Int := (List.range J).flatMap (cellI m l k i)
def allI (m : Int) (l k : List Int) (I : Nat) : List Int := (List.range I).flatMap fun i => rowI m l k i m.toNat
theorem flat_snoc {β : Type} (f : Nat → List β) (n : Nat) : (List.range (n + 1)).flatMap f = (List.range n).flatMap f ++ f n := by rw [List.range_succ, List.flatMap_append, List.flatMap_singleton]
theorem mem_ownM {i j : Nat} {x : Mv} : x ∈ ownM a b i j ↔ (∃ y ∈ a.moves, y.src = (i : Nat) ∧ (⟨(i : Nat) * b.n + (j : Nat), y.dst * b.n + (j : Nat), y.sym⟩ : Mv) = x) ∨ ∃ y ∈ b.moves, y.src = (j : Nat) ∧ (⟨(i : Nat) * b.n + (j : Nat), (i : Nat) * b.n + y.dst, y.sym⟩ : Mv) = x := by
 unfold ownM apA apB
 simp only [mkM_mem, List.mem_append, List.mem_map, List.mem_filter, decide_eq_true_eq, and_assoc]
theorem own_src {i j : Nat} {x : Mv} (h : x ∈ ownM a b i j) : x.src = (i : Nat) * b.n + (j : Nat) := by
 rcases mem_ownM.1 h with ⟨y, _, _, rfl⟩ | ⟨y, _, _, rfl⟩ <;> rfl
theorem flat_asc {f : Nat → List Mv} {n : Nat} (h1 : ∀ i, i < n → AscM (f i)) (h2 : ∀ i j x y, i < j → j < n → x ∈ f i → y ∈ f j → mvLt x y = true) : AscM ((List.range n).flatMap f) := by
 induction n with
 | zero => exact .nil
 | succ n ih =>
   rw [flat_snoc]
   refine List.pairwise_append.2 ⟨ih (fun i hi => h1 i (by omega)) fun i j x y hij hj => h2 i j x y hij (by omega), h1 n (by omega), fun x hx y hy => ?_⟩
   obtain ⟨i, hi, hx⟩ := List.mem_flatMap.1 hx
   rw [List.mem_range] at hi
   exact h2 i n x y hi (by omega) hx hy
theorem row_src {i J : Nat} {x : Mv} (h : x ∈ rowM a b i J) : ∃ j, j < J ∧ x.src = (i : Nat) * b.n + (j : Nat) := by
 obtain ⟨j, hj, hx⟩ := List.mem_flatMap.1 h
 rw [List.mem_range] at hj
 exact ⟨j, hj, own_src hx⟩
theorem allM_asc (I : Nat) : AscM (allM a b I) := by
 refine flat_asc (fun i _ => flat_asc (fun j _ => mkM_asc _) fun j j' x y hj hj' hx hy => ?_) fun i i' x y hi hi' hx hy => ?_
 · rw [mvLt_iff, own_src hx, own_src hy]; omega
 · obtain ⟨j, hj, e⟩ := row_src hx
   obtain ⟨j', hj', e'⟩ := row_src hy
   rw [mvLt_iff, e, e']
   exact .inl (lex_lt (by omega) (by omega) (by omega) (by omega))
theorem allM_eq (ha : VOk a) (hb : VOk b) : allM a b a.n.toNat = mkM (shufA a b).moves := by
 refine mkM_eq (allM_asc _) fun x => ?_
 show _ ↔ x ∈ shM a.n b.n a.moves b.moves
 rw [mem_shM]
 unfold allM rowM
 simp only [List.mem_flatMap, List.mem_range, mem_ownM]
 constructor
 · rintro ⟨i, hi, j, hj, ⟨y, hy, hs, rfl⟩ | ⟨y, hy, hs, rfl⟩⟩
   · exact .inl ⟨y, hy, j, by omega, by rw [hs]⟩
   · exact .inr ⟨y, hy, i, by omega, by rw [hs]⟩
 · rintro (⟨y, hy, j, hj, rfl⟩ | ⟨y, hy, i, hi, rfl⟩)
   · have h3 := ha.mv y hy
     have e : ((y.src.toNat : Nat) : Int) = y.src := Int.toNat_of_nonneg h3.1
     exact ⟨y.src.toNat, by omega, j, by omega, .inl ⟨y, hy, e.symm, by rw [e]⟩⟩
   · have h3 := hb.mv y hy
     have e : ((y.src.toNat : Nat) : Int) = y.src := Int.toNat_of_nonneg h3.1
     exact ⟨i, by omega, y.src.toNat, by omega, .inr ⟨y, hy, e.symm, by rw [e]⟩⟩
theorem mem_cellI {m : Int} {l k : List Int} {i j : Nat} {x : Int} : x ∈ cellI m l k i j ↔ (i : Int) ∈ l ∧ (j : Int) ∈ k ∧ (i : Nat) * m + (j : Nat) = x := by
 unfold cellI
 split
 · rename_i h
   rw [Bool.and_eq_true, hasI_iff, hasI_iff] at h
   rw [List.mem_singleton]
   exact ⟨fun e => ⟨h.1, h.2, e.symm⟩, fun e => e.2.2.symm⟩
 · rename_i h
   rw [Bool.and_eq_true, hasI_iff, hasI_iff] at h
   exact ⟨fun e => (by cases e), fun e => absurd ⟨e.1, e.2.1⟩ h⟩
theorem flat_srt {f : Nat → List Int} {n : Nat} (h1 : ∀ i, i < n → Srt (f i)) (h2 : ∀ i j x y, i < j → j < n → x ∈ f i → y ∈ f j → x < y) : Srt ((List.range n).flatMap f) := by
 induction n with
 | zero => exact .nil
 | succ n ih =>
   rw [flat_snoc]
   refine List.pairwise_append.2 ⟨ih (fun i hi => h1 i (by omega)) fun i j x y hij hj => h2 i j x y hij (by omega), h1 n (by omega), fun x hx y hy => ?_⟩
   obtain ⟨i, hi, hx⟩ := List.mem_flatMap.1 hx
   rw [List.mem_range] at hi
   exact h2 i n x y hi (by omega) hx hy
theorem allI_eq {n m : Int} {l k : List Int} (hl : ∀ i ∈ l, 0 ≤ i ∧ i < n) (hk : ∀ j ∈ k, 0 ≤ j ∧ j < m) (h1 : Srt l) (h2 : Srt k) : allI m l k n.toNat = shI m l k := by
 refine srt_ext (flat_srt (fun i _ => flat_srt (fun j _ => ?_) fun j j' x y hj hj' hx hy => ?_) fun i i' x y hi hi' hx hy => ?_) (shI_srt hk h1 h2) fun x => ?_
 · unfold cellI; split
   · exact List.pairwise_singleton ..
   · exact .nil
 · obtain ⟨_, _, rfl⟩ := mem_cellI.1 hx
   obtain ⟨_, _, rfl⟩ := mem_cellI.1 hy
   omega
 · obtain ⟨j, hj, hx⟩ := List.mem_flatMap.1 hx
   obtain ⟨j', hj', hy⟩ := List.mem_flatMap.1 hy
   rw [List.mem_range] at hj hj'
   obtain ⟨_, _, rfl⟩ := mem_cellI.1 hx
   obtain ⟨_, _, rfl⟩ := mem_cellI.1 hy
   exact lex_lt (by omega) (by omega) (by omega) (by omega)
 · rw [mem_shI]
   unfold allI rowI
   simp only [List.mem_flatMap, List.mem_range, mem_cellI]
   constructor
   · rintro ⟨i, hi, j, hj, h3, h4, rfl⟩; exact ⟨_, h3, _, h4, rfl⟩
   · rintro ⟨i, hi, j, hj, rfl⟩
     have h3 := hl i hi
     have h4 := hk j hj
     have e1 : ((i.toNat : Nat) : Int) = i := Int.toNat_of_nonneg h3.1
     have e2 : ((j.toNat : Nat) : Int) = j := Int.toNat_of_nonneg h4.1
     exact ⟨i.toNat, by omega, j.toNat, by omega, by rw [e1]; exact hi, by rw [e2]; exact hj, by rw [e1, e2]⟩
theorem apA_yes {m : Int} {i j : Nat} {l : List Mv} {k : Nat} {x : Mv} (h : l[k]? = some x) (hs : x.src = (i : Nat)) : apA m i j (l.take (k + 1)) = apA m i j (l.take k) ++ [⟨(i : Nat) * m + (j : Nat), x.dst * m + (j : Nat), x.sym⟩] := by
 unfold apA
 rw [take_snoc h, List.filter_append, List.map_append, List.filter_cons_of_pos (by simpa using hs)]; rfl
theorem apA_no {m : Int} {i j : Nat} {l : List Mv} {k : Nat} {x : Mv} (h : l[k]? = some x) (hs : ¬ x.src = (i : Nat)) : apA m i j (l.take (k + 1)) = apA m i j (l.take k) := by
 unfold apA
 rw [take_snoc h, List.filter_append, List.filter_cons_of_neg (by simpa using hs)]; simp
theorem apB_yes {m : Int} {i j : Nat} {l : List Mv} {k : Nat} {x : Mv} (h : l[k]? = some x) (hs : x.src = (j : Nat)) : apB m i j (l.take (k + 1)) = apB m i j (l.take k) ++ [⟨(i : Nat) * m + (j : Nat), (i : Nat) * m + x.dst, x.sym⟩] := by
 unfold apB
 rw [take_snoc h, List.filter_append, List.map_append, List.filter_cons_of_pos (by simpa using hs)]; rfl
theorem apB_no {m : Int} {i j : Nat} {l : List Mv} {k : Nat} {x : Mv} (h : l[k]? = some x) (hs : ¬ x.src = (j : Nat)) : apB m i j (l.take (k + 1)) = apB m i j (l.take k) := by
 unfold apB
 rw [take_snoc h, List.filter_append, List.filter_cons_of_neg (by simpa using hs)]; simp
theorem all_more {I : Nat} {J : Nat} (hI : I < a.n.toNat) (hJ : J ≤ b.n.toNat) : (allM a b I ++ rowM a b I J).length ≤ (allM a b a.n.toNat).length := by
 have h1 : ∀ (f : Nat → List Mv) {p q : Nat}, p ≤ q → ((List.range p).flatMap f).length ≤ ((List.range q).flatMap f).length := fun f p q h => by
  induction q with
  | zero => rw [Nat.le_zero.1 h]; exact Nat.le_refl _
  | succ q ih =>
    rcases Nat.lt_or_ge q p with h2 | h2
    · rw [show p = q + 1 by omega]; exact Nat.le_refl _
    · rw [flat_snoc, List.length_append]
      have := ih h2; omega
 have h2 := h1 (ownM a b I) hJ
 have h3 := h1 (fun i => rowM a b i b.n.toNat) (show I + 1 ≤ a.n.toNat from hI)
 rw [flat_snoc, List.length_append] at h3
 rw [List.length_append]
 unfold allM rowM at *
 omega
end
end Go.Proofs.YtgigclnaicbiaaaGreatDoor
