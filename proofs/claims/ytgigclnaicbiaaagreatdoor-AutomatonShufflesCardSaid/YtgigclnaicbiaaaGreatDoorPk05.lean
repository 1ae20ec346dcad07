/-
  Walks: the reference's automata: the classes of a table's states.
  Walks: the reference's automata: the automaton of a table.
  Walks: the reference's automata: the least automaton of a table.
  Plain laws: searches that go alike; the least automaton of a table whose final states are turned. No program in sight.
  Walks: the reference's automata: Minimal and Complement.
  Walks: automata: moves are sorted, each is kept once.
  Plain laws: automata that operations make. No program in sight.
  The engine: four operations that come up together. No program in sight.
  Walks: automata: what an operation made is minimized; Star.
  Walks: automata: Star.
  Plain laws: automata side by side; unions, concatenations, reversals. No program in sight.
  The engine: maps keyed by pairs of numbers. No program in sight.
  The engine: three values are handed back. No program in sight.
  The engine: a row of numbers is turned round by the library. No program in sight.
  The engine: a struct that lies in cells and two values are handed back. No program in sight.
  The engine: a struct is handed back beside what is owned. No program in sight.
  Walks: automata: two automata side by side.
  Plain laws: minimal automata are deterministic and complete; their products. No program in sight.
  Walks: the reference's automata: the table of an automaton.
  Walks: automata: products.
  Plain laws: how what a search has met was met; ways back; turning round. No program in sight.
-/
import Derived.Test.YtgigclnaicbiaaaGreatDoorPk04
import Derived.Test.YtgigclnaicbiaaaGreatDoorMShelfF
import Derived.Test.YtgigclnaicbiaaaGreatDoorPk02
namespace Go.Proofs.YtgigclnaicbiaaaGreatDoor
open Go.RowKit Go.Cb Go.En
set_option linter.all false
set_option maxRecDepth 100000
theorem tFl100_0_LfI : FldT Tryz.prog 100 0 0 = true := by kernel_rfl
def pTabR (t : Tab) : PV := .agg [pInt (t.m : Nat), .sl t.fin.length (t.fin.map pBool), .sl t.rows.length (t.rows.map pNats)]
def digN (l : List Nat) : ByteArray := digB (toI l)
theorem digN_id {o : List (List Nat)} {x : List Nat} (h : ∀ l ∈ o, ∀ y ∈ toI l, 0 ≤ y ∧ y ≤ 2000) (hx : ∀ y ∈ toI x, 0 ≤ y ∧ y ≤ 2000) : posK digN o (digN x) = posK id o x := posK_inj fun l hl => by
 unfold digN
 rw [digB_inj (h l hl) hx, toI_inj]; rfl
set_option maxHeartbeats 4000000 in
theorem r07classes_e (t : Tab) (ht : TOk t) : AF Tryz.prog 109 [pTabR t] (· = .own 3 1 t.rows.length (vec t.rows.length fun s => pInt (clsT t s : Nat))) := by
 have hn1 := ht.n1
 have hfl := ht.fl
 have hm1 := ht.m1
 refine AF.of_body 89 Tryz.func109 rfl Tryz.ntmps109 (Nat.le_of_ble_eq_true rfl) ?_
 intro w0 M0 vs hl hv
 obtain ⟨v0, rfl⟩ := len1 hl
 clear hl hv
 refine nav ?_
 (refine aC_region ?_ <;> refine s_boxa 1 3 fun h1 => ?_ <;> refine xL 2 q_assign ?_ <;> refine aL_end (nav ?_) <;> try dsimp only)
 (refine aC_region ?_ <;> refine xL 14 (q_fldo 1 tFl100_2_LfH) ?_ <;> (refine yL 15 (q_ldo 1 tNa28_LfB) fun v15 hv15 => ?_; cases hv15) <;> refine xL 16 (q_len tSl28_LdS) ?_ <;> refine xL 3 q_assign ?_ <;> refine aL_end (nav ?_) <;> try dsimp only)
 (refine aC_region ?_ <;> refine xL 17 q_move ?_ <;> refine s_make 18 tEl22_LdI fun h18 ho18 => ?_ <;> refine xL 4 q_assign ?_ <;> refine aL_end (nav ?_) <;> try dsimp only)
 refine aC_ent (relabel (l := 18) 303 rfl rfl) fun _ => ?_
 rw [upTo_zero _ (finC t.fin)]
 (refine aC_region ?_ <;> refine xL 5 q_assign ?_ <;> refine aL_end (nav ?_) <;> try dsimp only)
 refine aC_loop (ι := { s : Nat // s ≤ t.rows.length }) (fun k => ⟨[(1, _, _), (3, _, _), (4, _, _), (5, .int .i64 k.1, pInt k.1)], [(1, _, _), (303, h18, .own 3 1 t.rows.length (vec t.rows.length fun j => pInt (upTo k.1 (finC t.fin) j)))]⟩) (fun k => t.rows.length - k.1) ⟨0, Nat.zero_le _⟩ (fun a w H => H.weaken ⟨rfl, rfl, rfl, rfl, trivial⟩ ⟨rfl, rfl, trivial⟩) ?_
 rintro ⟨s, hs⟩
 dsimp only
 refine nav ?_
 (refine aC_region ?_ <;> refine xL 19 q_move ?_ <;> refine xL 20 q_move ?_ <;> refine xL 21 q_lss ?_ <;> refine aL_end (nav ?_) <;> try dsimp only)
 (first | refine cCd ?_ ?_ | refine cC ?_ ?_) <;> intro hb21
 · first
   | exact Bool.noConfusion hb21
   | (
    obtain ⟨b, hb⟩ := get_some (show s < t.fin.length by omega)
    have e1 := map_at (f := pBool) hb
    have e2 := vec_len t.rows.length (fun j => pInt (upTo s (finC t.fin) j))
    refine nav ?_
    (refine aC_region ?_ <;> refine xL 24 (q_fldo 1 tFl100_1_LfH) ?_ <;> (refine yL 25 (q_ldo 1 tNa66_LdJ) fun v25 hv25 => ?_; cases hv25) <;> refine xL 26 q_move ?_ <;> refine xL 27 (q_idxN tSl66_LdJ) ?_ <;> (refine yL 28 (q_ld tNa4_LdJ) fun v28 hv28 => ?_; cases hv28) <;> refine aL_end (nav ?_) <;> try dsimp only)
    (first | refine cCd ?_ ?_ | refine cC ?_ ?_) <;> intro hb28
    · first
      | exact Bool.noConfusion hb28
      | (
       refine nav ?_
       (refine aC_region ?_ <;> refine xL 29 q_move ?_ <;> refine xL 30 q_move ?_ <;> refine xL 31 (q_idxoN 303 tSl22_LbB) ?_ <;> refine s_st 303 tNa3_LbB tSz3_LdJ ?_ <;> refine aL_end (nav ?_) <;> try dsimp only)
       (refine aC_region ?_ <;> refine xL 22 q_move ?_ <;> refine xL 23 q_add ?_ <;> refine xL 5 q_assign ?_ <;> refine aL_end (nav ?_) <;> try dsimp only)
       try rw [upTo_set (x := 1) (by unfold finC; rw [hb]; show (1 : Int) = ((if b = true then 1 else 0 : Nat) : Int); rw [if_pos hb28]; rfl)]
       try rw [upTo_skip (by unfold finC; rw [hb]; show (if b = true then 1 else 0) = 0; rw [if_neg (by simpa using hb28)])]
       refine aN_again (
        ⟨s + 1, by omega⟩
        ) (by dsimp only; omega) ⟨rfl, rfl, rfl, rfl, trivial⟩ ⟨rfl, rfl, trivial⟩)
    · first
      | exact Bool.noConfusion hb28
      | (
       refine nav ?_
       (refine aC_region ?_ <;> refine xL 22 q_move ?_ <;> refine xL 23 q_add ?_ <;> refine xL 5 q_assign ?_ <;> refine aL_end (nav ?_) <;> try dsimp only)
       try rw [upTo_set (x := 1) (by unfold finC; rw [hb]; show (1 : Int) = ((if b = true then 1 else 0 : Nat) : Int); rw [if_pos hb28]; rfl)]
       try rw [upTo_skip (by unfold finC; rw [hb]; show (if b = true then 1 else 0) = 0; rw [if_neg (by simpa using hb28)])]
       refine aN_again (
        ⟨s + 1, by omega⟩
        ) (by dsimp only; omega) ⟨rfl, rfl, rfl, rfl, trivial⟩ ⟨rfl, rfl, trivial⟩))
 · first
   | exact Bool.noConfusion hb21
   | (
    have hsn : s = t.rows.length := by omega
    subst hsn
    rw [upTo_full]
    refine nav ?_
    (refine aC_region ?_ <;> refine xL 6 q_assign ?_ <;> refine aL_end (nav ?_) <;> try dsimp only)
    refine aC_loop (ι := { q : Value × (Nat → Nat) × Nat × Nat // COk t.rows.length q.2.1 q.2.2.1 ∧ clsIt t.rows q.2.2.2 q.2.1 q.2.2.1 = clsT t ∧ t.rows.length + 2 ≤ q.2.2.2 + q.2.2.1 ∧ q.1.oneCell' = true }) (fun k => ⟨[(1, _, _), (3, _, _), (4, k.1.1, .val k.1.1), (6, .int .i64 k.1.2.2.1, pInt k.1.2.2.1)], [(1, _, _), (303, k.1.1, .own 3 1 t.rows.length (vec t.rows.length fun j => pInt (k.1.2.1 j : Nat)))]⟩) (fun k => t.rows.length + 2 - k.1.2.2.1) ⟨(h18, finC t.fin, 0, t.rows.length + 2), COk.start _ _, rfl, by dsimp only; omega, ho18⟩ (fun a w H => H.weaken ⟨rfl, rfl, rfl, rfl, trivial⟩ ⟨rfl, rfl, trivial⟩) ?_
    rintro ⟨⟨hv3, c, cnt, fuel⟩, hC, hit, hfu, hv3o⟩
    dsimp only
    dsimp only at hC hit hfu hv3o
    have hle := hC.le
    have hbd := hC.bd
    obtain ⟨f, rfl⟩ : ∃ f, fuel = f + 1 := ⟨fuel - 1, by omega⟩
    have hgr := hC.grow
    have hnx := hC.next
    refine nav ?_
    (refine aC_region ?_ <;> refine s_mkmap 32 fun h32 ho32 => ?_ <;> refine xL 7 q_assign ?_ <;> refine aL_end (nav ?_) <;> try dsimp only)
    (refine aC_region ?_ <;> refine xL 33 q_move ?_ <;> refine s_make 34 tEl22_LdI fun h34 ho34 => ?_ <;> refine xL 8 q_assign ?_ <;> refine aL_end (nav ?_) <;> try dsimp only)
    (refine aC_region ?_ <;> refine xL 9 q_assign ?_ <;> refine aL_end (nav ?_) <;> try dsimp only)
    refine aC_ent (relabel (l := 32) 304 rfl rfl) fun _ => ?_
    refine aC_ent (relabel (l := 34) 305 rfl rfl) fun _ => ?_
    rw [upTo_zero _ (nextC t.rows c)]
    refine aC_ent (recast (l := 304) (p' := .omap (skv (numE digN 1 (fstK (keyC t.rows c) 0)))) rfl rfl) fun _ => ?_
    (refine aC_region ?_ <;> refine xL 10 q_assign ?_ <;> refine aL_end (nav ?_) <;> try dsimp only)
    refine aC_loop (ι := { s : Nat // s ≤ t.rows.length }) (fun k => ⟨[(1, _, _), (3, _, _), (4, _, _), (6, _, _), (7, _, _), (8, _, _), (9, .int .i64 (fstK (keyC t.rows c) k.1).length, pInt (fstK (keyC t.rows c) k.1).length), (10, .int .i64 k.1, pInt k.1)], [(1, _, _), (303, _, _), (304, h32, .omap (skv (numE digN 1 (fstK (keyC t.rows c) k.1)))), (305, h34, .own 3 1 t.rows.length (vec t.rows.length fun j => pInt (upTo k.1 (nextC t.rows c) j)))]⟩) (fun k => t.rows.length - k.1) ⟨0, Nat.zero_le _⟩ (fun a w H => H.weaken ⟨rfl, rfl, rfl, rfl, rfl, rfl, rfl, rfl, trivial⟩ ⟨rfl, rfl, rfl, rfl, trivial⟩) ?_
    rintro ⟨s, hs⟩
    dsimp only
    refine nav ?_
    (refine aC_region ?_ <;> refine xL 35 q_move ?_ <;> refine xL 36 q_move ?_ <;> refine xL 37 q_lss ?_ <;> refine aL_end (nav ?_) <;> try dsimp only)
    (first | refine cCd ?_ ?_ | refine cC ?_ ?_) <;> intro hb37
    · first
      | exact Bool.noConfusion hb37
      | (
       have hlt : s < t.rows.length := by omega
       obtain ⟨r, hr⟩ := get_some hlt
       have e1 := map_at (f := pNats) hr
       have hrl := ht.rl r (List.mem_of_getElem? hr)
       have hrt := ht.to r (List.mem_of_getElem? hr)
       have htl := toI_len r
       have e2 := vec_at1 (fun j => pInt (c j : Nat)) hlt
       have e3 := vec_len t.rows.length (fun j => pInt (upTo s (nextC t.rows c) j))
       have hkl := fstK_len (keyC t.rows c) s
       refine nav ?_
       (refine aC_region ?_ <;> refine xL 40 q_move ?_ <;> refine xL 41 q_move ?_ <;> refine xL 42 (q_idxoN 303 tSl22_LbB) ?_ <;> (refine yL 43 (q_ldo 303 tNa3_LbB) fun v43 hv43 => ?_; cases hv43) <;> refine s_lit1 (kk := 1) 44 tEl22_LdI fun h44 ho44 => ?_ <;> refine xL 11 q_assign ?_ <;> refine aL_end (nav ?_) <;> try dsimp only)
       refine aC_ent (relabel (l := 44) 306 rfl rfl) fun _ => ?_
       refine aC_ent (recast (l := 306) (p' := .own 3 1 (keyP c s r 0).length ((toI (keyP c s r 0)).map pInt)) rfl rfl) fun _ => ?_
       (refine aC_region ?_ <;> refine xL 12 q_assign ?_ <;> refine aL_end (nav ?_) <;> try dsimp only)
       refine aC_loop (ι := { q : Nat × Value // q.1 ≤ r.length ∧ q.2.oneCell' = true }) (fun k => ⟨[(1, _, _), (3, _, _), (4, _, _), (6, _, _), (7, _, _), (8, _, _), (9, _, _), (10, _, _), (11, k.1.2, .val k.1.2), (12, .int .i64 k.1.1, pInt k.1.1)], [(1, _, _), (303, _, _), (304, _, _), (305, _, _), (306, k.1.2, .own 3 1 (keyP c s r k.1.1).length ((toI (keyP c s r k.1.1)).map pInt))]⟩) (fun k => r.length - k.1.1) ⟨(0, h44), Nat.zero_le _, ho44⟩ (fun a w H => H.weaken ⟨rfl, rfl, rfl, rfl, rfl, rfl, rfl, rfl, rfl, rfl, trivial⟩ ⟨rfl, rfl, rfl, rfl, rfl, trivial⟩) ?_
       rintro ⟨⟨u, hv⟩, hu, hvo⟩
       dsimp only
       dsimp only at hu hvo
       have hkpl := keyP_len c s r u hu
       refine nav ?_
       (refine aC_region ?_ <;> refine xL 45 q_move ?_ <;> refine xL 46 (q_fldo 1 tFl100_0_LfI) ?_ <;> (refine yL 47 (q_ldo 1 tNa3_LbB) fun v47 hv47 => ?_; cases hv47) <;> refine xL 48 q_lss ?_ <;> refine aL_end (nav ?_) <;> try dsimp only)
       (first | refine cCd ?_ ?_ | refine cC ?_ ?_) <;> intro hb48
       · first
         | exact Bool.noConfusion hb48
         | (
          obtain ⟨x, hx⟩ := get_some (show u < r.length by omega)
          have hxn := hrt x (List.mem_of_getElem? hx)
          have e4 : ((toI r).map pInt)[u * 1]? = some (pInt (x : Nat)) := by rw [Nat.mul_one, List.getElem?_map]; unfold toI; rw [List.getElem?_map, hx]; rfl
          have e5 := vec_at1 (fun j => pInt (c j : Nat)) hxn
          refine nav ?_
          (refine aC_region ?_ <;> refine xL 51 q_move ?_ <;> refine xL 52 q_move ?_ <;> refine xL 53 (q_fldo 1 tFl100_2_LfH) ?_ <;> (refine yL 54 (q_ldo 1 tNa28_LfB) fun v54 hv54 => ?_; cases hv54) <;> refine xL 55 q_move ?_ <;> refine xL 56 (q_idxN tSl28_LdS) ?_ <;> (refine yL 57 (q_ld tNa22_LdI) fun v57 hv57 => ?_; cases hv57) <;> refine xL 58 q_move ?_ <;> refine xL 59 (q_idxN tSl22_LbB) ?_ <;> (refine yL 60 (q_ld tNa3_LbB) fun v60 hv60 => ?_; cases hv60) <;> refine xL 61 (q_idxoN 303 tSl22_LbB) ?_ <;> (refine yL 62 (q_ldo 303 tNa3_LbB) fun v62 hv62 => ?_; cases hv62) <;> refine s_lit1 (kk := 1) 63 tEl22_LdI fun h63 ho63 => ?_ <;> (refine s_app 306 63 64 tEl22_LdI fun h64 ho64 => ?_; refine aL_ent (relabel (l := 64) 306 rfl rfl) fun _ => ?_; refine aL_ent (recast (l := 306) rfl ((own_nats _ (keyP c s r u) (c x)).trans (by rw [keyP_snoc hx]))) fun _ => ?_) <;> refine xL 11 q_assign ?_ <;> refine aL_end (nav ?_) <;> try dsimp only)
          (refine aC_region ?_ <;> refine xL 49 q_move ?_ <;> refine xL 50 q_add ?_ <;> refine xL 12 q_assign ?_ <;> refine aL_end (nav ?_) <;> try dsimp only)
          refine aN_again (
           ⟨(u + 1, h64), lt_of_get hx, ho64⟩
           ) (by dsimp only; omega) ⟨rfl, rfl, rfl, rfl, rfl, rfl, rfl, rfl, rfl, rfl, trivial⟩ ⟨rfl, rfl, rfl, rfl, rfl, trivial⟩)
       · first
         | exact Bool.noConfusion hb48
         | (
          have hK := keyP_full (c := c) hr (show r.length ≤ u by omega)
          rw [hK]
          have hkb := keyC_bd ht hbd hlt
          have hkl2 : (keyC t.rows c s).length ≤ 1000 := by rw [← hK, hkpl]; omega
          have hid := digN_id (o := fstK (keyC t.rows c) s) (x := keyC t.rows c s) (fun l hl => by obtain ⟨i, hi, rfl⟩ := fstK_mem.1 hl; exact keyC_bd ht hbd (by omega)) hkb
          have hlook := num1_look digN (fstK (keyC t.rows c) s) (keyC t.rows c s)
          refine nav ?_
          refine aC_ent (En.freeze (l := 306) (t := 11) rfl rfl) fun _ => ?_
          rw [share_ints _ _ _ (by rw [toI_len])]
          (refine aC_region ?_ <;> refine xL 65 q_move ?_ <;> refine xL 66 q_move ?_ <;> (refine cS 67 (cA Tryz.call107 (r07digits_e (toI (keyC t.rows c s)) (by rw [toI_len]; omega) hkb)) fun v67 hv67 => ?_; cases hv67) <;> refine xL 68 (q_lookoE 304 tMp135_LfB (hk := kok_skv _ _) (hu := hlook)) ?_ <;> refine xL 13 q_assign ?_ <;> refine aL_end (nav ?_) <;> try dsimp only)
          (refine aC_region ?_ <;> refine xL 69 q_move ?_ <;> refine xL 70 q_eql ?_ <;> refine aL_end (nav ?_) <;> try dsimp only)
          (first | refine cCd ?_ ?_ | refine cC ?_ ?_) <;> intro hb70
          · first
            | exact Bool.noConfusion hb70
            | (
             have hnew : ¬ posK digN (fstK (keyC t.rows c) s) (digN (keyC t.rows c s)) < (fstK (keyC t.rows c) s).length := fun hh => by
              unfold num1 at hb70
              rw [if_pos hh] at hb70; omega
             have hnew2 := hnew
             rw [hid] at hnew2
             have hnn := nextC_new hlt hnew2
             have hff := fstK_new hnew2
             refine nav ?_
             (refine aC_region ?_ <;> refine xL 71 q_move ?_ <;> refine xL 72 q_add ?_ <;> refine xL 9 q_assign ?_ <;> refine aL_end (nav ?_) <;> try dsimp only)
             (refine aC_region ?_ <;> refine xL 73 q_move ?_ <;> refine xL 13 q_assign ?_ <;> refine aL_end (nav ?_) <;> try dsimp only)
             (refine aC_region ?_ <;> refine xL 74 q_move ?_ <;> refine xL 75 q_move ?_ <;> (refine cS 76 (cA Tryz.call107 (r07digits_e (toI (keyC t.rows c s)) (by rw [toI_len]; omega) hkb)) fun v76 hv76 => ?_; cases hv76) <;> refine xL 77 q_move ?_ <;> (refine s_mput 304 tMp135_LfB ?_; rw [show mput (skv (numE digN 1 (fstK (keyC t.rows c) s))) (.string (digB (toI (keyC t.rows c s)))) (.int .i64 (((fstK (keyC t.rows c) s).length : Int) + 1)) = skv (numE digN 1 (fstK (keyC t.rows c) (s + 1))) by rw [hff]; exact num1_put hnew]) <;> refine aL_end (nav ?_) <;> try dsimp only)
             (refine aC_region ?_ <;> refine xL 78 q_move ?_ <;> refine xL 79 q_move ?_ <;> refine xL 80 q_move ?_ <;> refine xL 81 q_sub ?_ <;> refine xL 82 (q_idxoN 305 tSl22_LbB) ?_ <;> refine s_st 305 tNa3_LbB tSz3_LdJ ?_ <;> refine aL_end (nav ?_) <;> try dsimp only)
             (refine aC_region ?_ <;> refine xL 38 q_move ?_ <;> refine xL 39 q_add ?_ <;> refine xL 10 q_assign ?_ <;> refine aL_end (nav ?_) <;> try dsimp only)
             try rw [upTo_set (x := ((fstK (keyC t.rows c) s).length : Int) + 1 - 1) (by rw [hnn]; omega)]
             try rw [show (((fstK (keyC t.rows c) s).length : Nat) : Int) + 1 = ((fstK (keyC t.rows c) (s + 1)).length : Nat) by rw [hff, List.length_append]; rfl]
             try rw [upTo_set hnum, ← hfo]
             refine aN_again (
              ⟨s + 1, by omega⟩
              ) (by dsimp only; omega) ⟨rfl, rfl, rfl, rfl, rfl, rfl, rfl, rfl, trivial⟩ ⟨rfl, rfl, rfl, rfl, trivial⟩)
          · first
            | exact Bool.noConfusion hb70
            | (
             have hold : posK digN (fstK (keyC t.rows c) s) (digN (keyC t.rows c s)) < (fstK (keyC t.rows c) s).length := by
              rcases Nat.lt_or_ge (posK digN (fstK (keyC t.rows c) s) (digN (keyC t.rows c s))) (fstK (keyC t.rows c) s).length with hh | hh
              · exact hh
              · unfold num1 at hb70
                rw [if_neg (by omega)] at hb70; exact absurd rfl hb70
             have hold2 := hold
             rw [hid] at hold2
             have hno := nextC_old hlt hold2
             have hfo := fstK_old hold2
             have hnum : ((num1 digN (fstK (keyC t.rows c) s) (keyC t.rows c s) : Nat) : Int) - 1 = (nextC t.rows c s : Nat) := by unfold num1; rw [if_pos hold, hid, hno]; omega
             have hnb : num1 digN (fstK (keyC t.rows c) s) (keyC t.rows c s) ≤ 2001 := by unfold num1; rw [if_pos hold]; omega
             refine nav ?_
             (refine aC_region ?_ <;> refine xL 78 q_move ?_ <;> refine xL 79 q_move ?_ <;> refine xL 80 q_move ?_ <;> refine xL 81 q_sub ?_ <;> refine xL 82 (q_idxoN 305 tSl22_LbB) ?_ <;> refine s_st 305 tNa3_LbB tSz3_LdJ ?_ <;> refine aL_end (nav ?_) <;> try dsimp only)
             (refine aC_region ?_ <;> refine xL 38 q_move ?_ <;> refine xL 39 q_add ?_ <;> refine xL 10 q_assign ?_ <;> refine aL_end (nav ?_) <;> try dsimp only)
             try rw [upTo_set (x := ((fstK (keyC t.rows c) s).length : Int) + 1 - 1) (by rw [hnn]; omega)]
             try rw [show (((fstK (keyC t.rows c) s).length : Nat) : Int) + 1 = ((fstK (keyC t.rows c) (s + 1)).length : Nat) by rw [hff, List.length_append]; rfl]
             try rw [upTo_set hnum, ← hfo]
             refine aN_again (
              ⟨s + 1, by omega⟩
              ) (by dsimp only; omega) ⟨rfl, rfl, rfl, rfl, rfl, rfl, rfl, rfl, trivial⟩ ⟨rfl, rfl, rfl, rfl, trivial⟩)))
    · first
      | exact Bool.noConfusion hb37
      | (
       have hsn : s = t.rows.length := by omega
       subst hsn
       rw [upTo_full]
       refine nav ?_
       refine aC_ent (relabel (l := 303) 302 rfl rfl) fun _ => ?_
       refine aC_ent (relabel (l := 305) 303 rfl rfl) fun _ => ?_
       (refine aC_region ?_ <;> refine xL 83 q_move ?_ <;> refine xL 4 q_assign ?_ <;> refine aL_end (nav ?_) <;> try dsimp only)
       (refine aC_region ?_ <;> refine xL 84 q_move ?_ <;> refine xL 85 q_move ?_ <;> refine xL 86 q_eql ?_ <;> refine aL_end (nav ?_) <;> try dsimp only)
       (first | refine cCd ?_ ?_ | refine cC ?_ ?_) <;> intro hb86
       · first
         | exact Bool.noConfusion hb86
         | (
          have hcc : cntC t.rows c = cnt := by unfold cntC; omega
          refine nav ?_
          (refine aC_region ?_ <;> refine xL 87 q_move ?_ <;> refine xL 2 q_assign ?_ <;> refine aL_end (nav ?_) <;> try dsimp only)
          refine ret_own 303 (Tryz.results109) rfl rfl ?_
          rw [← hit, clsIt_stop hcc])
       · first
         | exact Bool.noConfusion hb86
         | (
          have hcc : ¬ cntC t.rows c = cnt := by unfold cntC; omega
          refine nav ?_
          (refine aC_region ?_ <;> refine xL 88 q_move ?_ <;> refine xL 6 q_assign ?_ <;> refine aL_end (nav ?_) <;> try dsimp only)
          refine aN_again (
           ⟨(h34, nextC t.rows c, cntC t.rows c, f), hnx, by dsimp only; rw [← hit, clsIt_more hcc], by dsimp only; omega, ho34⟩
           ) (by have := hnx.le; dsimp only; omega) ⟨rfl, rfl, rfl, rfl, trivial⟩ ⟨rfl, rfl, trivial⟩)))
def finF (fin : List Bool) (i : Nat) : Bool := (fin[i]?).getD false
def autT (t : Tab) : Aut := ⟨(t.rows.length : Nat), (t.m : Nat), [0], listedL t.rows.length (finF t.fin), movesT t.rows⟩
theorem movesT_take {rows : List (List Nat)} {k : Nat} {r : List Nat} (h : rows[k]? = some r) : movesT (rows.take (k + 1)) = movesT (rows.take k) ++ rowMv k r := by
 rw [take_snoc h, movesT_snoc, List.length_take, Nat.min_eq_left (by have := lt_of_get h; omega)]
theorem rowMv_take {i : Nat} {r : List Nat} {s n : Nat} (h : r[s]? = some n) : rowMv i (r.take (s + 1)) = rowMv i (r.take s) ++ [⟨(i : Nat), (n : Nat), (s : Nat)⟩] := by
 rw [take_snoc h, rowMv_snoc, List.length_take, Nat.min_eq_left (by have := lt_of_get h; omega)]
theorem movesT_len2 {rows : List (List Nat)} {m : Nat} (h : ∀ r ∈ rows, r.length = m) (k : Nat) : (movesT (rows.take k)).length ≤ rows.length * m := by
 rw [movesT_len (rows.take k) fun r hr => h r (List.mem_of_mem_take hr), List.length_take]
 exact Nat.mul_le_mul_right m (Nat.min_le_right _ _)
set_option maxHeartbeats 4000000 in
theorem r07auto_e (t : Tab) (hfl : t.fin.length = t.rows.length) (hrw : ∀ r ∈ t.rows, r.length = t.m) (hn1 : t.rows.length ≤ 2000) (hm1 : t.m ≤ 40) : AF Tryz.prog 110 [pTabR t] (· = pAut (autT t)) := by
 have hnm : t.rows.length * t.m ≤ 80000 := Nat.le_trans (Nat.mul_le_mul hn1 hm1) (by decide)
 refine AF.of_body 54 Tryz.func110 rfl Tryz.ntmps110 (Nat.le_of_ble_eq_true rfl) ?_
 intro w0 M0 vs hl hv
 obtain ⟨v0, rfl⟩ := len1 hl
 clear hl hv
 refine nav ?_
 (refine aC_region ?_ <;> refine s_boxa 1 3 fun h1 => ?_ <;> refine s_alloc [(.int .i64 0), (.int .i64 0), (.slice none 0 0), (.slice none 0 0), (.slice none 0 0)] 5 2 tZr25_LfD fun h2 => ?_ <;> refine aL_end (nav ?_) <;> try dsimp only)
 (refine aC_region ?_ <;> refine xL 6 (q_fldo 1 tFl100_2_LfH) ?_ <;> (refine yL 7 (q_ldo 1 tNa28_LfB) fun v7 hv7 => ?_; cases hv7) <;> refine xL 8 (q_len tSl28_LdS) ?_ <;> refine xL 9 (q_fldo 1 tFl100_0_LfI) ?_ <;> (refine yL 10 (q_ldo 1 tNa3_LbB) fun v10 hv10 => ?_; cases hv10) <;> (refine s_lit1 (kk := 1) 11 tEl22_LdI fun h11 ho11 => ?_; refine aL_ent (En.freeze (l := 11) (t := 11) rfl rfl) fun _ => ?_; rw [show share (PV.own 3 1 1 [PV.val (.int .i64 0)]) = pInts [0] from rfl]) <;> refine xL 12 (q_build tSt25_LfD) ?_ <;> refine s_alloc [(.int .i64 0), (.int .i64 0), (.slice none 0 0), (.slice none 0 0), (.slice none 0 0)] 5 3 tZr25_LfD fun h3 => ?_ <;> refine s_sta 3 tAgg25_LdS ?_ <;> refine aL_end (nav ?_) <;> try dsimp only)
 refine aC_ent (nilCells (l := 3) [pInt (t.rows.length : Nat), pInt (t.m : Nat), pInts [0], .own 3 1 0 [], .own 72 3 0 []] rfl rfl (fun i p p' h1 h2 => by
  match i with
  | 0 => cases h1; cases h2; exact .inl rfl
  | 1 => cases h1; cases h2; exact .inl rfl
  | 2 => cases h1; cases h2; exact .inl rfl
  | 3 => cases h1; cases h2; exact .inr ⟨rfl, _, _, rfl⟩
  | 4 => cases h1; cases h2; exact .inr ⟨rfl, _, _, rfl⟩
  | i + 5 => simp at h2)) fun _ => ?_
 refine aC_ent (focusO (l := 3) (l' := 301) (j := 3) rfl rfl rfl rfl) fun i => ?_
 obtain ⟨v301, ho301⟩ := i
 refine aC_ent (focusO (l := 3) (l' := 302) (j := 4) rfl rfl rfl rfl) fun i => ?_
 obtain ⟨v302, ho302⟩ := i
 dsimp only [List.set]
 (refine aC_region ?_ <;> refine xL 4 q_assign ?_ <;> refine aL_end (nav ?_) <;> try dsimp only)
 refine aC_loop (ι := { q : Nat × Value × Value // q.1 ≤ t.rows.length ∧ q.2.1.oneCell' = true ∧ q.2.2.oneCell' = true }) (fun k => ⟨[(1, _, _), (2, _, _), (3, _, _), (4, .int .i64 k.1.1, pInt k.1.1)], [(1, _, _), (2, _, _), (3, h3, .own 25 5 1 [pInt (t.rows.length : Nat), pInt (t.m : Nat), pInts [0], .val k.1.2.1, .val k.1.2.2]), (301, k.1.2.1, .own 3 1 (listedL k.1.1 (finF t.fin)).length ((listedL k.1.1 (finF t.fin)).map pInt)), (302, k.1.2.2, .own 72 3 (movesT (t.rows.take k.1.1)).length ((movesT (t.rows.take k.1.1)).flatMap cMv))]⟩) (fun k => t.rows.length - k.1.1) ⟨(0, v301, v302), Nat.zero_le _, ho301, ho302⟩ (fun a w H => H.weaken ⟨rfl, rfl, rfl, rfl, trivial⟩ ⟨rfl, rfl, rfl, rfl, rfl, trivial⟩) ?_
 rintro ⟨⟨i, hF, hM⟩, hi, hFo, hMo⟩
 dsimp only
 dsimp only at hi hFo hMo
 have hll := listedL_len i (finF t.fin)
 have hml := movesT_len2 hrw i
 refine nav ?_
 (refine aC_region ?_ <;> refine xL 13 q_move ?_ <;> refine xL 14 (q_fldo 1 tFl100_2_LfH) ?_ <;> (refine yL 15 (q_ldo 1 tNa28_LfB) fun v15 hv15 => ?_; cases hv15) <;> refine xL 16 (q_len tSl28_LdS) ?_ <;> refine xL 17 q_lss ?_ <;> refine aL_end (nav ?_) <;> try dsimp only)
 (first | refine cCd ?_ ?_ | refine cC ?_ ?_) <;> intro hb17
 · first
   | exact Bool.noConfusion hb17
   | (
    obtain ⟨b, hb⟩ := get_some (show i < t.fin.length by omega)
    have e2 := map_at (f := pBool) hb
    obtain ⟨row, hrow⟩ := get_some (show i < t.rows.length by omega)
    have e3 := map_at (f := pNats) hrow
    have hrl := hrw row (List.mem_of_getElem? hrow)
    have hrtl := toI_len row
    have hfa : finF t.fin i = b := by unfold finF; rw [hb]; rfl
    have hL1 := listedL_snoc i (finF t.fin)
    rw [hfa] at hL1
    refine nav ?_
    (refine aC_region ?_ <;> refine xL 20 (q_fldo 1 tFl100_1_LfH) ?_ <;> (refine yL 21 (q_ldo 1 tNa66_LdJ) fun v21 hv21 => ?_; cases hv21) <;> refine xL 22 q_move ?_ <;> refine xL 23 (q_idxN tSl66_LdJ) ?_ <;> (refine yL 24 (q_ld tNa4_LdJ) fun v24 hv24 => ?_; cases hv24) <;> refine aL_end (nav ?_) <;> try dsimp only)
    (first | refine cCd ?_ ?_ | refine cC ?_ ?_) <;> intro hb24
    · first
      | exact Bool.noConfusion hb24
      | (
       rw [if_pos hb24] at hL1
       refine nav ?_
       (refine aC_region ?_ <;> refine xL 25 (q_fldo 3 tFl25_3_LdI) ?_ <;> (refine yL 26 (q_ldo 3 tNa22_LdI) fun v26 hv26 => ?_; cases hv26) <;> refine xL 27 q_move ?_ <;> refine s_lit1 (kk := 1) 28 tEl22_LdI fun h28 ho28 => ?_ <;> (refine s_app 301 28 29 tEl22_LdI fun h29 ho29 => ?_; refine aL_ent (relabel (l := 29) 301 rfl rfl) fun _ => ?_; refine aL_ent (recast (l := 301) rfl (own_ints _ (listedL i (finF t.fin)) i)) fun _ => ?_) <;> refine xL 30 (q_fldo 3 tFl25_3_LdI) ?_ <;> refine s_st 3 tNa22_LdI tSz22_LdK ?_ <;> refine aL_end (nav ?_) <;> try dsimp only)
       (refine aC_region ?_ <;> refine xL 5 q_assign ?_ <;> refine aL_end (nav ?_) <;> try dsimp only)
       rw [← hL1]
       rw [show movesT (t.rows.take i) = movesT (t.rows.take i) ++ rowMv i (row.take 0) from (List.append_nil _).symm]
       refine aC_loop (ι := { q : Nat × Value // q.1 ≤ t.m ∧ q.2.oneCell' = true }) (fun k => ⟨[(1, _, _), (2, _, _), (3, _, _), (4, _, _), (5, .int .i64 k.1.1, pInt k.1.1)], [(1, _, _), (2, _, _), (301, _, _), (3, h3, .own 25 5 1 [pInt (t.rows.length : Nat), pInt (t.m : Nat), pInts [0], _, .val k.1.2]), (302, k.1.2, .own 72 3 (movesT (t.rows.take i) ++ rowMv i (row.take k.1.1)).length ((movesT (t.rows.take i) ++ rowMv i (row.take k.1.1)).flatMap cMv))]⟩) (fun k => t.m - k.1.1) ⟨(0, hM), Nat.zero_le _, hMo⟩ (fun a w H => H.weaken ⟨rfl, rfl, rfl, rfl, rfl, trivial⟩ ⟨rfl, rfl, rfl, rfl, rfl, trivial⟩) ?_
       rintro ⟨⟨s, hM'⟩, hs, hM'o⟩
       dsimp only
       dsimp only at hs hM'o
       have hrm := rowMv_len i (row.take s)
       rw [List.length_take] at hrm
       have hal : (movesT (t.rows.take i) ++ rowMv i (row.take s)).length ≤ 90000 := by rw [List.length_append]; omega
       refine nav ?_
       (refine aC_region ?_ <;> refine xL 31 q_move ?_ <;> refine xL 32 (q_fldo 1 tFl100_0_LfI) ?_ <;> (refine yL 33 (q_ldo 1 tNa3_LbB) fun v33 hv33 => ?_; cases hv33) <;> refine xL 34 q_lss ?_ <;> refine aL_end (nav ?_) <;> try dsimp only)
       (first | refine cCd ?_ ?_ | refine cC ?_ ?_) <;> intro hb34
       · first
         | exact Bool.noConfusion hb34
         | (
          obtain ⟨y, hy⟩ := get_some (show s < row.length by omega)
          have e4 : ((toI row).map pInt)[s * 1]? = some (pInt (y : Nat)) := by rw [Nat.mul_one, List.getElem?_map]; unfold toI; rw [List.getElem?_map, hy]; rfl
          refine nav ?_
          (refine aC_draw (fun i => ([16] : List Nat).elem i) [1, 3] (by kernel_rfl) ?_ <;> refine xD 0 37 rfl (q_fldo 3 tFl25_4_LdI) ?_ <;> (refine yD 1 38 rfl (q_ldo 3 tNa23_LdI) fun v38 hv38 => ?_; cases hv38) <;> refine xD 2 39 rfl q_move ?_ <;> refine xD 3 40 rfl (q_fldo 1 tFl100_2_LfH) ?_ <;> (refine yD 4 41 rfl (q_ldo 1 tNa28_LfB) fun v41 hv41 => ?_; cases hv41) <;> refine xD 5 42 rfl q_move ?_ <;> refine xD 6 43 rfl (q_idxN tSl28_LdS) ?_ <;> (refine yD 7 44 rfl (q_ld tNa22_LdI) fun v44 hv44 => ?_; cases hv44) <;> refine xD 8 45 rfl q_move ?_ <;> refine xD 9 46 rfl (q_idxN tSl22_LbB) ?_ <;> (refine yD 10 47 rfl (q_ld tNa3_LbB) fun v47 hv47 => ?_; cases hv47) <;> refine xE 11 48 rfl q_move ?_ <;> refine xE 12 49 rfl (q_build tSt72_LfD) ?_ <;> (refine aD_one 13 (by kernel_rfl) ?_) <;> (refine aW_run rfl fun w9 M9 N9 DQ back => ?_) <;> refine s_lit1a 50 tEl23_LdR fun h50 ho50 => ?_ <;> refine aL_end (back _ (nrm ?_)) <;> (refine aD_one 14 (by kernel_rfl) ?_) <;> (refine aW_run rfl fun w9 M9 N9 DQ back => ?_) <;> refine s_app 302 50 51 tEl23_LdR fun h51 ho51 => ?_ <;> refine aL_end (back _ (nrm ?_)) <;> refine xE 15 52 rfl (q_fldo 3 tFl25_4_LdI) ?_ <;> (refine aD_one 16 (by kernel_rfl) ?_) <;> (refine aW_last rfl rfl (by kernel_rfl) fun DQ back => ?_) <;> refine s_st 3 tNa23_LdI tSz23_LdR ?_ <;> refine aL_end (back _ (nav ?_)) <;> try dsimp only)
          refine aC_ent (relabel (l := 51) 302 rfl rfl) fun _ => ?_
          refine aC_ent (recast (l := 302) rfl (snoc_mv _ (movesT (t.rows.take i) ++ rowMv i (row.take s)) ⟨(i : Nat), (y : Nat), (s : Nat)⟩)) fun _ => ?_
          rw [List.append_assoc, ← rowMv_take hy]
          (refine aC_region ?_ <;> refine xL 35 q_move ?_ <;> refine xL 36 q_add ?_ <;> refine xL 5 q_assign ?_ <;> refine aL_end (nav ?_) <;> try dsimp only)
          refine aN_again (
           ⟨(s + 1, h51), (by dsimp only; omega), ho51⟩
           ) (by dsimp only; omega) ⟨rfl, rfl, rfl, rfl, rfl, trivial⟩ ⟨rfl, rfl, rfl, rfl, rfl, trivial⟩)
       · first
         | exact Bool.noConfusion hb34
         | (
          have hsm : s = t.m := by omega
          subst hsm
          rw [List.take_of_length_le (show row.length ≤ t.m by omega), ← movesT_take hrow]
          refine nav ?_
          (refine aC_region ?_ <;> refine xL 18 q_move ?_ <;> refine xL 19 q_add ?_ <;> refine xL 4 q_assign ?_ <;> refine aL_end (nav ?_) <;> try dsimp only)
          first
           | (exact aN_again (
               ⟨(i + 1, h29, hM'), (by dsimp only; omega), ho29, hM'o⟩
               ) (by dsimp only; omega) ⟨rfl, rfl, rfl, rfl, trivial⟩ ⟨rfl, rfl, rfl, rfl, rfl, trivial⟩)
           | (exact aN_again (
               ⟨(i + 1, hF, hM'), (by dsimp only; omega), hFo, hM'o⟩
               ) (by dsimp only; omega) ⟨rfl, rfl, rfl, rfl, trivial⟩ ⟨rfl, rfl, rfl, rfl, rfl, trivial⟩)))
    · first
      | exact Bool.noConfusion hb24
      | (
       rw [if_neg (by simpa using hb24), List.append_nil] at hL1
       refine nav ?_
       (refine aC_region ?_ <;> refine xL 5 q_assign ?_ <;> refine aL_end (nav ?_) <;> try dsimp only)
       rw [← hL1]
       rw [show movesT (t.rows.take i) = movesT (t.rows.take i) ++ rowMv i (row.take 0) from (List.append_nil _).symm]
       refine aC_loop (ι := { q : Nat × Value // q.1 ≤ t.m ∧ q.2.oneCell' = true }) (fun k => ⟨[(1, _, _), (2, _, _), (3, _, _), (4, _, _), (5, .int .i64 k.1.1, pInt k.1.1)], [(1, _, _), (2, _, _), (301, _, _), (3, h3, .own 25 5 1 [pInt (t.rows.length : Nat), pInt (t.m : Nat), pInts [0], _, .val k.1.2]), (302, k.1.2, .own 72 3 (movesT (t.rows.take i) ++ rowMv i (row.take k.1.1)).length ((movesT (t.rows.take i) ++ rowMv i (row.take k.1.1)).flatMap cMv))]⟩) (fun k => t.m - k.1.1) ⟨(0, hM), Nat.zero_le _, hMo⟩ (fun a w H => H.weaken ⟨rfl, rfl, rfl, rfl, rfl, trivial⟩ ⟨rfl, rfl, rfl, rfl, rfl, trivial⟩) ?_
       rintro ⟨⟨s, hM'⟩, hs, hM'o⟩
       dsimp only
       dsimp only at hs hM'o
       have hrm := rowMv_len i (row.take s)
       rw [List.length_take] at hrm
       have hal : (movesT (t.rows.take i) ++ rowMv i (row.take s)).length ≤ 90000 := by rw [List.length_append]; omega
       refine nav ?_
       (refine aC_region ?_ <;> refine xL 31 q_move ?_ <;> refine xL 32 (q_fldo 1 tFl100_0_LfI) ?_ <;> (refine yL 33 (q_ldo 1 tNa3_LbB) fun v33 hv33 => ?_; cases hv33) <;> refine xL 34 q_lss ?_ <;> refine aL_end (nav ?_) <;> try dsimp only)
       (first | refine cCd ?_ ?_ | refine cC ?_ ?_) <;> intro hb34
       · first
         | exact Bool.noConfusion hb34
         | (
          obtain ⟨y, hy⟩ := get_some (show s < row.length by omega)
          have e4 : ((toI row).map pInt)[s * 1]? = some (pInt (y : Nat)) := by rw [Nat.mul_one, List.getElem?_map]; unfold toI; rw [List.getElem?_map, hy]; rfl
          refine nav ?_
          (refine aC_draw (fun i => ([16] : List Nat).elem i) [1, 3] (by kernel_rfl) ?_ <;> refine xD 0 37 rfl (q_fldo 3 tFl25_4_LdI) ?_ <;> (refine yD 1 38 rfl (q_ldo 3 tNa23_LdI) fun v38 hv38 => ?_; cases hv38) <;> refine xD 2 39 rfl q_move ?_ <;> refine xD 3 40 rfl (q_fldo 1 tFl100_2_LfH) ?_ <;> (refine yD 4 41 rfl (q_ldo 1 tNa28_LfB) fun v41 hv41 => ?_; cases hv41) <;> refine xD 5 42 rfl q_move ?_ <;> refine xD 6 43 rfl (q_idxN tSl28_LdS) ?_ <;> (refine yD 7 44 rfl (q_ld tNa22_LdI) fun v44 hv44 => ?_; cases hv44) <;> refine xD 8 45 rfl q_move ?_ <;> refine xD 9 46 rfl (q_idxN tSl22_LbB) ?_ <;> (refine yD 10 47 rfl (q_ld tNa3_LbB) fun v47 hv47 => ?_; cases hv47) <;> refine xE 11 48 rfl q_move ?_ <;> refine xE 12 49 rfl (q_build tSt72_LfD) ?_ <;> (refine aD_one 13 (by kernel_rfl) ?_) <;> (refine aW_run rfl fun w9 M9 N9 DQ back => ?_) <;> refine s_lit1a 50 tEl23_LdR fun h50 ho50 => ?_ <;> refine aL_end (back _ (nrm ?_)) <;> (refine aD_one 14 (by kernel_rfl) ?_) <;> (refine aW_run rfl fun w9 M9 N9 DQ back => ?_) <;> refine s_app 302 50 51 tEl23_LdR fun h51 ho51 => ?_ <;> refine aL_end (back _ (nrm ?_)) <;> refine xE 15 52 rfl (q_fldo 3 tFl25_4_LdI) ?_ <;> (refine aD_one 16 (by kernel_rfl) ?_) <;> (refine aW_last rfl rfl (by kernel_rfl) fun DQ back => ?_) <;> refine s_st 3 tNa23_LdI tSz23_LdR ?_ <;> refine aL_end (back _ (nav ?_)) <;> try dsimp only)
          refine aC_ent (relabel (l := 51) 302 rfl rfl) fun _ => ?_
          refine aC_ent (recast (l := 302) rfl (snoc_mv _ (movesT (t.rows.take i) ++ rowMv i (row.take s)) ⟨(i : Nat), (y : Nat), (s : Nat)⟩)) fun _ => ?_
          rw [List.append_assoc, ← rowMv_take hy]
          (refine aC_region ?_ <;> refine xL 35 q_move ?_ <;> refine xL 36 q_add ?_ <;> refine xL 5 q_assign ?_ <;> refine aL_end (nav ?_) <;> try dsimp only)
          refine aN_again (
           ⟨(s + 1, h51), (by dsimp only; omega), ho51⟩
           ) (by dsimp only; omega) ⟨rfl, rfl, rfl, rfl, rfl, trivial⟩ ⟨rfl, rfl, rfl, rfl, rfl, trivial⟩)
       · first
         | exact Bool.noConfusion hb34
         | (
          have hsm : s = t.m := by omega
          subst hsm
          rw [List.take_of_length_le (show row.length ≤ t.m by omega), ← movesT_take hrow]
          refine nav ?_
          (refine aC_region ?_ <;> refine xL 18 q_move ?_ <;> refine xL 19 q_add ?_ <;> refine xL 4 q_assign ?_ <;> refine aL_end (nav ?_) <;> try dsimp only)
          first
           | (exact aN_again (
               ⟨(i + 1, h29, hM'), (by dsimp only; omega), ho29, hM'o⟩
               ) (by dsimp only; omega) ⟨rfl, rfl, rfl, rfl, trivial⟩ ⟨rfl, rfl, rfl, rfl, rfl, trivial⟩)
           | (exact aN_again (
               ⟨(i + 1, hF, hM'), (by dsimp only; omega), hFo, hM'o⟩
               ) (by dsimp only; omega) ⟨rfl, rfl, rfl, rfl, trivial⟩ ⟨rfl, rfl, rfl, rfl, rfl, trivial⟩))))
 · first
   | exact Bool.noConfusion hb17
   | (
    have hio : i = t.rows.length := by omega
    subst hio
    rw [List.take_length]
    refine nav ?_
    refine aC_ent (freezeCell (l := 3) (l' := 301) (j := 3) rfl rfl rfl rfl) fun _ => ?_
    refine aC_ent (freezeCell (l := 3) (l' := 302) (j := 4) rfl rfl rfl rfl) fun _ => ?_
    rw [share_ints _ _ _ rfl, share_mvl _ _ _ rfl]
    (refine aC_region ?_ <;> (refine yL 53 (q_ldao 3 tAgg25_LdS) fun v53 hv53 => ?_; cases hv53) <;> refine s_sta 2 tAgg25_LdS ?_ <;> refine aL_end (nav ?_) <;> try dsimp only)
    exact ret_cell (k := 5) 2 (by kernel_rfl) (Tryz.results110) rfl rfl (Nat.le_of_ble_eq_true rfl) (by decide) rfl rfl)
theorem clsIt_lt {rows : List (List Nat)} : ∀ {f : Nat} {c : Nat → Nat} {k s : Nat}, s < rows.length → clsIt rows (f + 1) c k s < rows.length
 | f, c, k, s, hs => by
   have h1 : nextC rows c s < rows.length := Nat.lt_of_lt_of_le (nextC_lt hs) (fstK_len _ _)
   rw [clsIt]; split
   · exact h1
   · cases f with
     | zero => exact h1
     | succ f => exact clsIt_lt hs
theorem clsT_lt (t : Tab) {s : Nat} (hs : s < t.rows.length) : clsT t s < t.rows.length := clsIt_lt hs
def finX (t : Tab) (x : Nat) : Bool := (t.fin[x]?).getD false
def numC (t : Tab) (o : List Nat) (j : Nat) : Nat := if posK (clsT t) o j < o.length then posK (clsT t) o j + 1 else 0
theorem numC_zero (t : Tab) (j : Nat) : numC t [0] j = if j = clsT t 0 then 1 else 0 := by
 unfold numC
 rw [posK, posK]
 by_cases h : clsT t 0 = j
 · rw [if_pos h, if_pos (by simp), if_pos h.symm]
 · rw [if_neg h, if_neg (by simp), if_neg fun e => h e.symm]
theorem posK_last {α κ : Type} [DecidableEq κ] {f : α → κ} {o : List α} {x : α} {k : κ} (h : ¬ posK f o k < o.length) (hk : f x ≠ k) : ¬ posK f (o ++ [x]) k < (o ++ [x]).length := fun hh => by
 obtain ⟨y, hy, e⟩ := posK_lt.1 hh
 rcases List.mem_append.1 hy with hy | hy
 · exact h (posK_lt.2 ⟨y, hy, e⟩)
 · rw [List.mem_singleton.1 hy] at e; exact hk e
theorem numC_snoc {t : Tab} {o : List Nat} {x : Nat} (h : ¬ posK (clsT t) o (clsT t x) < o.length) (j : Nat) : numC t (o ++ [x]) j = if j = clsT t x then o.length + 1 else numC t o j := by
 unfold numC
 by_cases e : j = clsT t x
 · subst e
   rw [if_pos rfl, posK_new h, if_pos (by simp)]
 · rw [if_neg e]
   by_cases h2 : posK (clsT t) o j < o.length
   · rw [if_pos h2, posK_app _ h2, if_pos (by rw [List.length_append]; omega)]
   · rw [if_neg h2, if_neg (posK_last h2 fun e2 => e e2.symm)]
theorem listedL_congr {f g : Nat → Bool} : ∀ n : Nat, (∀ i, i < n → f i = g i) → listedL n f = listedL n g
 | 0, _ => rfl
 | n + 1, h => by rw [listedL_snoc, listedL_snoc, listedL_congr n fun i hi => h i (by omega), h n (by omega)]
theorem autT_Q {t : Tab} {o : List Nat} {rows : List (List Nat)} (hl : rows.length = o.length) : autT ⟨t.m, rows, o.map (finX t)⟩ = autQ t (o, rows) := by
 unfold autT autQ
 dsimp only
 rw [hl, listedL_congr o.length fun i hi => by
  obtain ⟨x, hx⟩ := get_some hi
  show ((o.map (finX t))[i]?).getD false = finAt t o i
  unfold finAt
  rw [List.getElem?_map, hx]; rfl]
def RLeast (t : Tab) (p : PV) : Prop := (∃ A, leastT t = some A ∧ p = .tup [pAut A, pBool true]) ∨ (leastT t = none ∧ p = .tup [rawZ, pBool false])
set_option maxHeartbeats 4000000 in
theorem r07Least_e (t : Tab) (ht : TOk t) : AF Tryz.prog 74 [pTabR t] (RLeast t) := by
 have hn1 := ht.n1
 have hfl := ht.fl
 have hm1 := ht.m1
 have hpos := ht.pos
 refine AF.of_body 111 Tryz.func74 rfl Tryz.ntmps74 (Nat.le_of_ble_eq_true rfl) ?_
 intro w0 M0 vs hl hv
 obtain ⟨v0, rfl⟩ := len1 hl
 clear hl hv
 refine nav ?_
 (refine aC_region ?_ <;> refine s_boxa 1 3 fun h1 => ?_ <;> refine s_alloc [(.int .i64 0), (.int .i64 0), (.slice none 0 0), (.slice none 0 0), (.slice none 0 0)] 5 2 tZr25_LfD fun h2 => ?_ <;> refine xL 3 q_assign ?_ <;> refine aL_end (nav ?_) <;> try dsimp only)
 (refine aC_region ?_ <;> (refine yL 12 (q_ldao 1 tAgg100_LfH) fun v12 hv12 => ?_; cases hv12) <;> (refine cO 13 (cA Tryz.call109 (r07classes_e t ht)) fun v13 ho13 => ?_; refine aL_ent (En.freeze (l := 13) (t := 13) rfl rfl) fun _ => ?_; rw [show share (.own 3 1 t.rows.length (vec t.rows.length fun s => pInt (clsT t s : Nat))) = .sl t.rows.length (vec t.rows.length fun s => pInt (clsT t s : Nat)) by rw [share, shares_eq, vec_map]; rfl]) <;> refine xL 4 q_assign ?_ <;> refine aL_end (nav ?_) <;> try dsimp only)
 (refine aC_region ?_ <;> refine xL 14 (q_fldo 1 tFl100_2_LfH) ?_ <;> (refine yL 15 (q_ldo 1 tNa28_LfB) fun v15 hv15 => ?_; cases hv15) <;> refine xL 16 (q_len tSl28_LdS) ?_ <;> refine s_make 17 tEl22_LdI fun h17 ho17 => ?_ <;> refine xL 5 q_assign ?_ <;> refine aL_end (nav ?_) <;> try dsimp only)
 (refine aC_region ?_ <;> refine s_lit1 (kk := 1) 18 tEl22_LdI fun h18 ho18 => ?_ <;> refine xL 6 q_assign ?_ <;> refine aL_end (nav ?_) <;> try dsimp only)
 rw [show List.replicate t.rows.length (PV.val (.int .i64 0)) = vec t.rows.length (fun _ => pInt 0) from vec_const _ _]
 refine aC_ent (relabel (l := 18) 303 rfl rfl) fun _ => ?_
 refine aC_ent (recast (l := 303) (p' := .own 3 1 ([0] : List Nat).length ((toI [0]).map pInt)) rfl rfl) fun _ => ?_
 have e1 := vec_at1 (fun s => pInt (clsT t s : Nat)) hpos
 have hc0 := clsT_lt t hpos
 have e2 := vec_len t.rows.length (fun _ => pInt 0)
 (refine aC_region ?_ <;> refine xL 19 q_move ?_ <;> refine xL 20 q_move ?_ <;> refine xL 21 (q_idxN (i := 0) tSl22_LbB) ?_ <;> (refine yL 22 (q_ld tNa3_LbB) fun v22 hv22 => ?_; cases hv22) <;> refine xL 23 (q_idxoN 17 tSl22_LbB) ?_ <;> refine s_st 17 tNa3_LbB tSz3_LdJ ?_ <;> refine aL_end (nav ?_) <;> try dsimp only)
 rw [show (vec t.rows.length fun _ => pInt 0).set (clsT t 0 * 1) (PV.val (.int .i64 1)) = vec t.rows.length fun j => pInt (numC t [0] j : Nat) by rw [Nat.mul_one, vec_set]; exact vec_congr fun j _ => by rw [numC_zero]; by_cases e : j = clsT t 0 <;> simp [e]]
 (refine aC_region ?_ <;> refine xL 24 (q_fldo 1 tFl100_0_LfI) ?_ <;> (refine yL 25 (q_ldo 1 tNa3_LbB) fun v25 hv25 => ?_; cases hv25) <;> refine xL 26 (q_build tSt100_LfH) ?_ <;> refine s_alloc [(.int .i64 0), (.slice none 0 0), (.slice none 0 0)] 3 7 tZr100_LfH fun h7 => ?_ <;> refine s_sta 7 tAgg100_LfH ?_ <;> refine aL_end (nav ?_) <;> try dsimp only)
 refine aC_ent (nilCells (l := 7) [pInt (t.m : Nat), .own 4 1 0 [], .own 22 1 0 []] rfl rfl (fun i p p' h1 h2 => by
  match i with
  | 0 => cases h1; cases h2; exact .inl rfl
  | 1 => cases h1; cases h2; exact .inr ⟨rfl, _, _, rfl⟩
  | 2 => cases h1; cases h2; exact .inr ⟨rfl, _, _, rfl⟩
  | i + 3 => simp at h2)) fun _ => ?_
 refine aC_ent (focusO (l := 7) (l' := 302) (j := 1) rfl rfl rfl rfl) fun i => ?_
 obtain ⟨v302, ho302⟩ := i
 refine aC_ent (focusO (l := 7) (l' := 301) (j := 2) rfl rfl rfl rfl) fun i => ?_
 obtain ⟨v301, ho301⟩ := i
 dsimp only [List.set]
 (refine aC_region ?_ <;> refine xL 8 q_assign ?_ <;> refine aL_end (nav ?_) <;> try dsimp only)
 refine aC_loop (ι := { q : Nat × Value × Value × Value × List Nat × List (List Nat) // (minW t).upto 0 q.1 = some (q.2.2.2.2.1, q.2.2.2.2.2) ∧ q.1 ≤ q.2.2.2.2.1.length ∧ q.2.1.oneCell' = true ∧ q.2.2.1.oneCell' = true ∧ q.2.2.2.1.oneCell' = true }) (fun k => ⟨[(1, _, _), (2, _, _), (3, _, _), (4, _, _), (5, _, _), (7, _, _), (6, k.1.2.2.2.1, .val k.1.2.2.2.1), (8, .int .i64 k.1.1, pInt k.1.1)], [(1, _, _), (2, _, _), (7, h7, .own 100 3 1 [pInt (t.m : Nat), .val k.1.2.1, .val k.1.2.2.1]), (301, k.1.2.2.1, .own 22 1 k.1.2.2.2.2.2.length (k.1.2.2.2.2.2.map pNats)), (302, k.1.2.1, .own 4 1 ((k.1.2.2.2.2.1.take k.1.1).map (finX t)).length (((k.1.2.2.2.2.1.take k.1.1).map (finX t)).map pBool)), (303, k.1.2.2.2.1, .own 3 1 k.1.2.2.2.2.1.length ((toI k.1.2.2.2.2.1).map pInt)), (17, h17, .own 3 1 t.rows.length (vec t.rows.length fun j => pInt (numC t k.1.2.2.2.2.1 j : Nat)))]⟩) (fun k => 2000 - k.1.1) ⟨(0, v302, v301, h18, [0], []), rfl, Nat.zero_le _, ho302, ho301, ho18⟩ (fun a w H => H.weaken ⟨rfl, rfl, rfl, rfl, rfl, rfl, rfl, rfl, trivial⟩ ⟨rfl, rfl, rfl, rfl, rfl, rfl, rfl, trivial⟩) ?_
 rintro ⟨⟨i, hF, hM, hO, o, rows⟩, hU, hi, hFo, hMo, hOo⟩
 dsimp only
 dsimp only at hU hi hFo hMo hOo
 obtain ⟨hOk, hRl, _⟩ := min_ok ht hU
 have hRl := hRl hi
 have hcap : o.length ≤ t.rows.length := hOk.cap
 have hrw := hOk.len
 have htl := toI_len o
 have hfll : ((o.take i).map (finX t)).length ≤ 2000 := by rw [List.length_map, List.length_take]; omega
 refine nav ?_
 (refine aC_region ?_ <;> refine xL 27 q_move ?_ <;> refine xL 28 q_move ?_ <;> refine xL 29 (q_leno 303 tSl22_LbB) ?_ <;> refine xL 30 q_lss ?_ <;> refine aL_end (nav ?_) <;> try dsimp only)
 (first | refine cCd ?_ ?_ | refine cC ?_ ?_) <;> intro hb30
 · first
   | exact Bool.noConfusion hb30
   | (
    obtain ⟨x, hx⟩ := get_some (show i < o.length by omega)
    have hxn : x < t.rows.length := hOk.p x (List.mem_of_getElem? hx)
    obtain ⟨b, hb⟩ := get_some (show x < t.fin.length by omega)
    have e2 := map_at (f := pBool) hb
    obtain ⟨row, hrow⟩ := get_some hxn
    have e3 := map_at (f := pNats) hrow
    have hrl := ht.rl row (List.mem_of_getElem? hrow)
    have hrt := ht.to row (List.mem_of_getElem? hrow)
    have hrtl := toI_len row
    have hfa : finX t x = b := by unfold finX; rw [hb]; rfl
    refine nav ?_
    (refine aC_region ?_ <;> refine s_lit0 33 tEl22_LdI fun h33 ho33 => ?_ <;> refine xL 9 q_assign ?_ <;> refine aL_end (nav ?_) <;> try dsimp only)
    refine aC_ent (relabel (l := 33) 305 rfl rfl) fun _ => ?_
    refine aC_ent (recast (l := 305) (p' := .own 3 1 ([] : List Nat).length ((toI []).map pInt)) rfl rfl) fun _ => ?_
    (refine aC_region ?_ <;> refine xL 10 q_assign ?_ <;> refine aL_end (nav ?_) <;> try dsimp only)
    refine aC_loop (ι := { q : Nat × Value × Value × List Nat × List Nat // (minW t).row i x o q.1 = some (q.2.2.2.1, q.2.2.2.2) ∧ q.1 ≤ t.m ∧ q.2.1.oneCell' = true ∧ q.2.2.1.oneCell' = true }) (fun k => ⟨[(1, _, _), (2, _, _), (3, _, _), (4, _, _), (5, _, _), (7, _, _), (8, _, _), (6, k.1.2.1, .val k.1.2.1), (9, k.1.2.2.1, .val k.1.2.2.1), (10, .int .i64 k.1.1, pInt k.1.1)], [(1, _, _), (2, _, _), (7, _, _), (301, _, _), (302, _, _), (303, k.1.2.1, .own 3 1 k.1.2.2.2.1.length ((toI k.1.2.2.2.1).map pInt)), (305, k.1.2.2.1, .own 3 1 k.1.2.2.2.2.length ((toI k.1.2.2.2.2).map pInt)), (17, h17, .own 3 1 t.rows.length (vec t.rows.length fun j => pInt (numC t k.1.2.2.2.1 j : Nat)))]⟩) (fun k => t.m - k.1.1) ⟨(0, hO, h33, o, []), rfl, Nat.zero_le _, hOo, ho33⟩ (fun a w H => H.weaken ⟨rfl, rfl, rfl, rfl, rfl, rfl, rfl, rfl, rfl, rfl, trivial⟩ ⟨rfl, rfl, rfl, rfl, rfl, rfl, rfl, rfl, trivial⟩) ?_
    rintro ⟨⟨s, hO', hR, o', r⟩, hW, hs, hO'o, hRo⟩
    dsimp only
    dsimp only at hW hs hO'o hRo
    obtain ⟨hMt, hpr, hrl2, _⟩ := hOk.toMet.row (fun s _ => toT_lt ht) (show s ≤ (minW t).m from hs) hW
    have hcap' : o'.length ≤ t.rows.length := hMt.cap
    have htl' := toI_len o'
    have htr := toI_len r
    have hx' := preG_get hpr hx
    have e1 : ((toI o').map pInt)[i * 1]? = some (pInt (x : Nat)) := by rw [Nat.mul_one, List.getElem?_map]; unfold toI; rw [List.getElem?_map, hx']; rfl
    have hio' := lt_of_get hx'
    refine nav ?_
    (refine aC_region ?_ <;> refine xL 34 q_move ?_ <;> refine xL 35 (q_fldo 1 tFl100_0_LfI) ?_ <;> (refine yL 36 (q_ldo 1 tNa3_LbB) fun v36 hv36 => ?_; cases hv36) <;> refine xL 37 q_lss ?_ <;> refine aL_end (nav ?_) <;> try dsimp only)
    (first | refine cCd ?_ ?_ | refine cC ?_ ?_) <;> intro hb37
    · first
      | exact Bool.noConfusion hb37
      | (
       obtain ⟨y, hy⟩ := get_some (show s < row.length by omega)
       have hyn := hrt y (List.mem_of_getElem? hy)
       have e4 : ((toI row).map pInt)[s * 1]? = some (pInt (y : Nat)) := by rw [Nat.mul_one, List.getElem?_map]; unfold toI; rw [List.getElem?_map, hy]; rfl
       have e5 := vec_at1 (fun s => pInt (clsT t s : Nat)) hyn
       have hyc := clsT_lt t hyn
       have e6 := vec_at1 (fun j => pInt (numC t o' j : Nat)) hyc
       have e7 := vec_len t.rows.length (fun j => pInt (numC t o' j : Nat))
       have hto : (minW t).step i x s = y := toT_at hrow hy
       refine nav ?_
       (refine aC_draw (fun i => ([] : List Nat).elem i) [1, 303] (by kernel_rfl) ?_ <;> refine xD 0 40 rfl (q_fldo 1 tFl100_2_LfH) ?_ <;> (refine yD 1 41 rfl (q_ldo 1 tNa28_LfB) fun v41 hv41 => ?_; cases hv41) <;> refine xD 2 42 rfl q_move ?_ <;> refine xD 3 43 rfl q_move ?_ <;> refine xD 4 44 rfl (q_idxoN 303 tSl22_LbB) ?_ <;> (refine yD 5 45 rfl (q_ldo 303 tNa3_LbB) fun v45 hv45 => ?_; cases hv45) <;> refine xD 6 46 rfl (q_idxN tSl28_LdS) ?_ <;> (refine yD 7 47 rfl (q_ld tNa22_LdI) fun v47 hv47 => ?_; cases hv47) <;> refine xE 8 48 rfl q_move ?_ <;> refine xE 9 49 rfl (q_idxN tSl22_LbB) ?_ <;> (refine yE 10 50 rfl (q_ld tNa3_LbB) fun v50 hv50 => ?_; cases hv50) <;> refine xE 11 11 rfl q_assign ?_ <;> refine aD_end (by kernel_rfl) (nav ?_) <;> try dsimp only)
       (refine aC_region ?_ <;> refine xL 51 q_move ?_ <;> refine xL 52 q_move ?_ <;> refine xL 53 q_move ?_ <;> refine xL 54 (q_idxN tSl22_LbB) ?_ <;> (refine yL 55 (q_ld tNa3_LbB) fun v55 hv55 => ?_; cases hv55) <;> refine xL 56 (q_idxoN 17 tSl22_LbB) ?_ <;> (refine yL 57 (q_ldo 17 tNa3_LbB) fun v57 hv57 => ?_; cases hv57) <;> refine xL 58 q_eql ?_ <;> refine aL_end (nav ?_) <;> try dsimp only)
       (first | refine cCd ?_ ?_ | refine cC ?_ ?_) <;> intro hb58
       · first
         | exact Bool.noConfusion hb58
         | (
          have hnew : ¬ posK (clsT t) o' (clsT t y) < o'.length := fun hh => by
           unfold numC at hb58
           rw [if_pos hh] at hb58; omega
          have hnew2 : ¬ posK (minW t).key o' ((minW t).key ((minW t).step i x s)) < o'.length := by rw [hto]; exact hnew
          have hroom := min_visit ht hMt (show (minW t).step i x s < t.rows.length by rw [hto]; exact hyn) hnew2
          have e8 : (vec t.rows.length fun j => pInt (numC t o' j : Nat)).set (clsT t y * 1) (pInt ((o' ++ [y]).length : Nat)) = vec t.rows.length fun j => pInt (numC t (o' ++ [y]) j : Nat) := by
           rw [Nat.mul_one, vec_set]
           exact vec_congr fun j _ => by
            rw [numC_snoc hnew]
            by_cases e : j = clsT t y
            · rw [if_pos e, if_pos e, List.length_append]; rfl
            · rw [if_neg e, if_neg e]
          have e9 := vec_at1 (fun j => pInt (numC t (o' ++ [y]) j : Nat)) hyc
          have hnv : numC t (o' ++ [y]) (clsT t y) = o'.length + 1 := by rw [numC_snoc hnew, if_pos rfl]
          refine nav ?_
          (refine aC_region ?_ <;> refine xL 59 q_move ?_ <;> refine xL 60 q_move ?_ <;> refine s_lit1 (kk := 1) 61 tEl22_LdI fun h61 ho61 => ?_ <;> (refine s_app 303 61 62 tEl22_LdI fun h62 ho62 => ?_; refine aL_ent (relabel (l := 62) 303 rfl rfl) fun _ => ?_; refine aL_ent (recast (l := 303) rfl (own_nats _ o' y)) fun _ => ?_) <;> refine xL 6 q_assign ?_ <;> refine aL_end (nav ?_) <;> try dsimp only)
          (refine aC_region ?_ <;> refine xL 63 q_move ?_ <;> refine xL 64 q_move ?_ <;> refine xL 65 q_move ?_ <;> refine xL 66 (q_idxN tSl22_LbB) ?_ <;> (refine yL 67 (q_ld tNa3_LbB) fun v67 hv67 => ?_; cases hv67) <;> refine xL 68 q_move ?_ <;> refine xL 69 (q_leno 303 tSl22_LbB) ?_ <;> refine xL 70 (q_idxoN 17 tSl22_LbB) ?_ <;> refine s_st 17 tNa3_LbB tSz3_LdJ ?_ <;> refine aL_end (nav ?_) <;> try dsimp only)
          rw [e8]
          (refine aC_region ?_ <;> refine xL 71 q_move ?_ <;> refine xL 72 q_move ?_ <;> refine xL 73 q_move ?_ <;> refine xL 74 q_move ?_ <;> refine xL 75 (q_idxN tSl22_LbB) ?_ <;> (refine yL 76 (q_ld tNa3_LbB) fun v76 hv76 => ?_; cases hv76) <;> refine xL 77 (q_idxoN 17 tSl22_LbB) ?_ <;> (refine yL 78 (q_ldo 17 tNa3_LbB) fun v78 hv78 => ?_; cases hv78) <;> refine xL 79 q_sub ?_ <;> refine s_lit1 (kk := 1) 80 tEl22_LdI fun h80 ho80 => ?_ <;> (refine s_app 305 80 81 tEl22_LdI fun h81 ho81 => ?_; refine aL_ent (relabel (l := 81) 305 rfl rfl) fun _ => ?_; first | refine aL_ent (recast (l := 305) rfl ((congrArg (fun z : Int => PV.own 3 1 (r.length + 1) ((toI r).map pInt ++ [pInt z])) (show ((numC t (o' ++ [y]) (clsT t y) : Nat) : Int) - 1 = (o'.length : Nat) by rw [hnv]; omega)).trans (own_nats _ r o'.length))) fun _ => ?_ | refine aL_ent (recast (l := 305) rfl ((congrArg (fun z : Int => PV.own 3 1 (r.length + 1) ((toI r).map pInt ++ [pInt z])) (show ((numC t o' (clsT t y) : Nat) : Int) - 1 = (posK (clsT t) o' (clsT t y) : Nat) by rw [hnv]; omega)).trans (own_nats _ r (posK (clsT t) o' (clsT t y))))) fun _ => ?_) <;> refine xL 9 q_assign ?_ <;> refine aL_end (nav ?_) <;> try dsimp only)
          (refine aC_region ?_ <;> refine xL 38 q_move ?_ <;> refine xL 39 q_add ?_ <;> refine xL 10 q_assign ?_ <;> refine aL_end (nav ?_) <;> try dsimp only)
          first
           | (exact aN_again (
               ⟨(s + 1, h62, h81, o' ++ [y], r ++ [o'.length]), (by dsimp only; exact (by have h9 := Srch.row_snoc hW (visit_new hnew2 hroom); rwa [hto] at h9)), (by dsimp only; omega), ho62, ho81⟩
               ) (by dsimp only; omega) ⟨rfl, rfl, rfl, rfl, rfl, rfl, rfl, rfl, rfl, rfl, trivial⟩ ⟨rfl, rfl, rfl, rfl, rfl, rfl, rfl, rfl, trivial⟩)
           | (exact aN_again (
               ⟨(s + 1, hO', h81, o', r ++ [posK (clsT t) o' (clsT t y)]), (by dsimp only; exact (by have h9 := Srch.row_snoc hW (visit_old hold2); rw [hto] at h9; exact h9)), (by dsimp only; omega), hO'o, ho81⟩
               ) (by dsimp only; omega) ⟨rfl, rfl, rfl, rfl, rfl, rfl, rfl, rfl, rfl, rfl, trivial⟩ ⟨rfl, rfl, rfl, rfl, rfl, rfl, rfl, rfl, trivial⟩))
       · first
         | exact Bool.noConfusion hb58
         | (
          have hold : posK (clsT t) o' (clsT t y) < o'.length := by
           rcases Nat.lt_or_ge (posK (clsT t) o' (clsT t y)) o'.length with hh | hh
           · exact hh
           · unfold numC at hb58
             rw [if_neg (by omega)] at hb58; exact absurd rfl hb58
          have hold2 : posK (minW t).key o' ((minW t).key ((minW t).step i x s)) < o'.length := by rw [hto]; exact hold
          have hnv : numC t o' (clsT t y) = posK (clsT t) o' (clsT t y) + 1 := by unfold numC; rw [if_pos hold]
          refine nav ?_
          (refine aC_region ?_ <;> refine xL 71 q_move ?_ <;> refine xL 72 q_move ?_ <;> refine xL 73 q_move ?_ <;> refine xL 74 q_move ?_ <;> refine xL 75 (q_idxN tSl22_LbB) ?_ <;> (refine yL 76 (q_ld tNa3_LbB) fun v76 hv76 => ?_; cases hv76) <;> refine xL 77 (q_idxoN 17 tSl22_LbB) ?_ <;> (refine yL 78 (q_ldo 17 tNa3_LbB) fun v78 hv78 => ?_; cases hv78) <;> refine xL 79 q_sub ?_ <;> refine s_lit1 (kk := 1) 80 tEl22_LdI fun h80 ho80 => ?_ <;> (refine s_app 305 80 81 tEl22_LdI fun h81 ho81 => ?_; refine aL_ent (relabel (l := 81) 305 rfl rfl) fun _ => ?_; first | refine aL_ent (recast (l := 305) rfl ((congrArg (fun z : Int => PV.own 3 1 (r.length + 1) ((toI r).map pInt ++ [pInt z])) (show ((numC t (o' ++ [y]) (clsT t y) : Nat) : Int) - 1 = (o'.length : Nat) by rw [hnv]; omega)).trans (own_nats _ r o'.length))) fun _ => ?_ | refine aL_ent (recast (l := 305) rfl ((congrArg (fun z : Int => PV.own 3 1 (r.length + 1) ((toI r).map pInt ++ [pInt z])) (show ((numC t o' (clsT t y) : Nat) : Int) - 1 = (posK (clsT t) o' (clsT t y) : Nat) by rw [hnv]; omega)).trans (own_nats _ r (posK (clsT t) o' (clsT t y))))) fun _ => ?_) <;> refine xL 9 q_assign ?_ <;> refine aL_end (nav ?_) <;> try dsimp only)
          (refine aC_region ?_ <;> refine xL 38 q_move ?_ <;> refine xL 39 q_add ?_ <;> refine xL 10 q_assign ?_ <;> refine aL_end (nav ?_) <;> try dsimp only)
          first
           | (exact aN_again (
               ⟨(s + 1, h62, h81, o' ++ [y], r ++ [o'.length]), (by dsimp only; exact (by have h9 := Srch.row_snoc hW (visit_new hnew2 hroom); rwa [hto] at h9)), (by dsimp only; omega), ho62, ho81⟩
               ) (by dsimp only; omega) ⟨rfl, rfl, rfl, rfl, rfl, rfl, rfl, rfl, rfl, rfl, trivial⟩ ⟨rfl, rfl, rfl, rfl, rfl, rfl, rfl, rfl, trivial⟩)
           | (exact aN_again (
               ⟨(s + 1, hO', h81, o', r ++ [posK (clsT t) o' (clsT t y)]), (by dsimp only; exact (by have h9 := Srch.row_snoc hW (visit_old hold2); rw [hto] at h9; exact h9)), (by dsimp only; omega), hO'o, ho81⟩
               ) (by dsimp only; omega) ⟨rfl, rfl, rfl, rfl, rfl, rfl, rfl, rfl, rfl, rfl, trivial⟩ ⟨rfl, rfl, rfl, rfl, rfl, rfl, rfl, rfl, trivial⟩)))
    · first
      | exact Bool.noConfusion hb37
      | (
       have hsm : s = t.m := by omega
       subst hsm
       have hU2 := Srch.upto_snoc hU hx hW
       have htk : o'.take (i + 1) = (o.take i) ++ [x] := by
        rw [take_snoc hx']
        obtain ⟨e, rfl⟩ := hpr
        rw [List.take_append_of_le_length hi]
       refine nav ?_
       refine aC_ent (En.freeze (l := 305) (t := 9) rfl rfl) fun _ => ?_
       rw [share_ints _ _ _ (by rw [toI_len])]
       (refine aC_region ?_ <;> refine xL 82 (q_fldo 7 tFl100_2_LfH) ?_ <;> (refine yL 83 (q_ldo 7 tNa28_LfB) fun v83 hv83 => ?_; cases hv83) <;> refine xL 84 q_move ?_ <;> refine s_lit1 (kk := 1) 85 tEl28_LdS fun h85 ho85 => ?_ <;> (refine s_app 301 85 86 tEl28_LdS fun h86 ho86 => ?_; refine aL_ent (relabel (l := 86) 301 rfl rfl) fun _ => ?_; refine aL_ent (recast (l := 301) rfl (snoc_nats _ rows r)) fun _ => ?_) <;> refine xL 87 (q_fldo 7 tFl100_2_LfH) ?_ <;> refine s_st 7 tNa28_LfB tSz28_LfB ?_ <;> refine aL_end (nav ?_) <;> try dsimp only)
       (refine aC_draw (fun i => ([13] : List Nat).elem i) [1, 7, 303] (by kernel_rfl) ?_ <;> refine xD 0 88 rfl (q_fldo 7 tFl100_1_LfH) ?_ <;> (refine yD 1 89 rfl (q_ldo 7 tNa66_LdJ) fun v89 hv89 => ?_; cases hv89) <;> refine xD 2 90 rfl (q_fldo 1 tFl100_1_LfH) ?_ <;> (refine yD 3 91 rfl (q_ldo 1 tNa66_LdJ) fun v91 hv91 => ?_; cases hv91) <;> refine xD 4 92 rfl q_move ?_ <;> refine xE 5 93 rfl q_move ?_ <;> refine xE 6 94 rfl (q_idxoN 303 tSl22_LbB) ?_ <;> (refine yE 7 95 rfl (q_ldo 303 tNa3_LbB) fun v95 hv95 => ?_; cases hv95) <;> refine xE 8 96 rfl (q_idxN tSl66_LdJ) ?_ <;> (refine yE 9 97 rfl (q_ld tNa4_LdJ) fun v97 hv97 => ?_; cases hv97) <;> (refine aD_one 10 (by kernel_rfl) ?_) <;> (refine aW_run rfl fun w9 M9 N9 DQ back => ?_) <;> refine s_lit1 (kk := 1) 98 tEl66_LdR fun h98 ho98 => ?_ <;> refine aL_end (back _ (nrm ?_)) <;> (refine aD_one 11 (by kernel_rfl) ?_) <;> (refine aW_run rfl fun w9 M9 N9 DQ back => ?_) <;> refine s_app 302 98 99 tEl66_LdR fun h99 ho99 => ?_ <;> refine aL_end (back _ (nrm ?_)) <;> refine xE 12 100 rfl (q_fldo 7 tFl100_1_LfH) ?_ <;> (refine aD_one 13 (by kernel_rfl) ?_) <;> (refine aW_last rfl rfl (by kernel_rfl) fun DQ back => ?_) <;> refine s_st 7 tNa66_LdJ tSz66_LfB ?_ <;> refine aL_end (back _ (nav ?_)) <;> try dsimp only)
       refine aC_ent (relabel (l := 99) 302 rfl rfl) fun _ => ?_
       refine aC_ent (recast (l := 302) rfl (snoc_bools _ ((o.take i).map (finX t)) b)) fun _ => ?_
       rw [show ((o.take i).map (finX t)) ++ [b] = (o'.take (i + 1)).map (finX t) by rw [htk, List.map_append, ← hfa]; rfl]
       (refine aC_region ?_ <;> refine xL 31 q_move ?_ <;> refine xL 32 q_add ?_ <;> refine xL 8 q_assign ?_ <;> refine aL_end (nav ?_) <;> try dsimp only)
       refine aN_again (
        ⟨(i + 1, h99, h86, hO', o', rows ++ [r]), hU2, (by dsimp only; omega), ho99, ho86, hO'o⟩
        ) (by dsimp only; omega) ⟨rfl, rfl, rfl, rfl, rfl, rfl, rfl, rfl, trivial⟩ ⟨rfl, rfl, rfl, rfl, rfl, rfl, rfl, trivial⟩))
 · first
   | exact Bool.noConfusion hb30
   | (
    have hio : i = o.length := by omega
    subst hio
    have hA := Srch.all_some hU (Nat.le_refl _) (show o.length ≤ (minW t).cap from hcap)
    have hml := movesT_len rows hrw
    have hmm : rows.length * t.m ≤ 80000 := Nat.le_trans (Nat.mul_le_mul (show rows.length ≤ 2000 by omega) hm1) (by decide)
    have hmi : ((rows.length * t.m : Nat) : Int) = (rows.length : Int) * (t.m : Int) := Int.natCast_mul _ _
    have hml2 : (movesT rows).length = rows.length * t.m := hml
    refine nav ?_
    (refine aC_region ?_ <;> refine xL 101 (q_fldo 7 tFl100_2_LfH) ?_ <;> (refine yL 102 (q_ldo 7 tNa28_LfB) fun v102 hv102 => ?_; cases hv102) <;> refine xL 103 (q_leno 301 tSl28_LdS) ?_ <;> refine xL 104 (q_fldo 7 tFl100_0_LfI) ?_ <;> (refine yL 105 (q_ldo 7 tNa3_LbB) fun v105 hv105 => ?_; cases hv105) <;> refine xL 106 (q_mul (h1 := by omega) (h2 := by omega)) ?_ <;> refine xL 107 q_gtr ?_ <;> refine aL_end (nav ?_) <;> try dsimp only)
    (first | refine cCd ?_ ?_ | refine cC ?_ ?_) <;> intro hb107
    · first
      | exact Bool.noConfusion hb107
      | (
       refine nav ?_
       (refine aC_region ?_ <;> refine xL 108 (q_build tSt25_LfD) ?_ <;> refine s_sta 2 tAgg25_LdS ?_ <;> refine xL 3 q_assign ?_ <;> refine aL_end (nav ?_) <;> try dsimp only)
       refine ret_cs (k := 5) 2 (by kernel_rfl) (Tryz.results74) rfl rfl rfl (Nat.le_of_ble_eq_true rfl) (by decide) rfl (.inr ⟨?_, rfl⟩)
       unfold leastT
       rw [hA, Option.bind_some, if_pos (by dsimp only; omega)])
    · first
      | exact Bool.noConfusion hb107
      | (
       refine nav ?_
       refine aC_ent (freezeCell (l := 7) (l' := 302) (j := 1) rfl rfl rfl rfl) fun _ => ?_
       refine aC_ent (freezeCell (l := 7) (l' := 301) (j := 2) rfl rfl rfl rfl) fun _ => ?_
       rw [share_natss _ _ _ rfl, share_boolss _ _ _ rfl, List.take_length]
       (refine aC_region ?_ <;> (refine yL 109 (q_ldao 7 tAgg100_LfH) fun v109 hv109 => ?_; cases hv109) <;> (refine cD 110 (cA Tryz.call110 ((r07auto_e ⟨t.m, rows, o.map (finX t)⟩ (by dsimp only; rw [List.length_map, hRl]) hrw (by dsimp only; omega) hm1))) fun v110 hv110 => ?_; clear hv110) <;> refine s_sta 2 tAgg25_LdS ?_ <;> refine xL 3 q_assign ?_ <;> refine aL_end (nav ?_) <;> try dsimp only)
       refine ret_cs (k := 5) 2 (by kernel_rfl) (Tryz.results74) rfl rfl rfl (Nat.le_of_ble_eq_true rfl) (by decide) rfl (.inl ⟨autQ t (o, rows), ?_, ?_⟩)
       · unfold leastT
         rw [hA, Option.bind_some, if_neg (by dsimp only; omega)]
       · rw [← autT_Q hRl]; rfl))
section
variable {α β κ κ' : Type} [DecidableEq κ] [DecidableEq κ']
variable {W : Srch α κ} {W' : Srch β κ'} {R : α → β → Prop}
end
section
variable {κ κ' : Type} [DecidableEq κ] [DecidableEq κ']
end
theorem AFh_mono {dd : Prop} {P : Program} {f : Nat} {ar h : List (Nat × Ent)} {R R' : Value → PV → List (Nat × Ent) → Prop} (hA : AFh dd P f ar h R) (hR : ∀ v p h, R v p h → R' v p h) : AFh dd P f ar h R' := fun M N w F H hv =>
 (hA M N w F H hv).mono fun e w' ⟨v, p, h, F', e1, e2, e3, e4⟩ => ⟨v, p, h, F', e1, hR v p h e2, e3, e4⟩
theorem r07limit_e : AF Tryz.prog 75 [] (· = .tup [rawZ, pInt 13]) := by
 refine AF.of_body 3 Tryz.func75 rfl Tryz.ntmps75 (Nat.le_of_ble_eq_true rfl) ?_
 intro w0 M0 vs hl hv
 obtain rfl := List.eq_nil_of_length_eq_zero hl
 clear hl hv
 refine nav ?_
 (refine aC_region ?_ <;> refine s_alloc [(.int .i64 0), (.int .i64 0), (.slice none 0 0), (.slice none 0 0), (.slice none 0 0)] 5 0 tZr25_LfD fun h0 => ?_ <;> refine xL 1 q_assign ?_ <;> refine aL_end (nav ?_) <;> try dsimp only)
 (refine aC_region ?_ <;> refine xL 2 (q_build tSt25_LfD) ?_ <;> refine s_sta 0 tAgg25_LdS ?_ <;> refine xL 1 q_assign ?_ <;> refine aL_end (nav ?_) <;> try dsimp only)
 exact ret_cs (k := 5) 0 (by kernel_rfl) (Tryz.results75) rfl rfl rfl (Nat.le_of_ble_eq_true rfl) (by decide) rfl rfl
theorem r07Subsets_none {a : Aut} (h : AOk a) (hs : subT a = none) (V : Value) : AFh False Tryz.prog 84 [(0, V, pAut a)] [] (fun v q h => (∃ V1 : Value, v = .tuple [V1, .bool false].toArray) ∧ q = .tup [.agg [pInt 0, .val (.slice none 0 0), .val (.slice none 0 0)], pBool false] ∧ h = []) := AFh_mono (r07Subsets_e a h V) fun v q h' hr => by
 rcases hr with ⟨t, _, _, _, h1, _⟩ | ⟨_, h2⟩
 · rw [hs] at h1; cases h1
 · exact h2
theorem r07Subsets_some {a : Aut} (h : AOk a) {t : Tab} (hs : subT a = some t) (V : Value) : AFh False Tryz.prog 84 [(0, V, pAut a)] [] (fun v q h => ∃ hF V1 : Value, hF.oneCell' = true ∧ v = .tuple [V1, .bool true].toArray ∧ q = .tup [.agg [pInt (t.m : Nat), .val hF, .sl t.rows.length (t.rows.map pNats)], pBool true] ∧ h = [(1000, hF, .own 4 1 t.fin.length (t.fin.map pBool))]) := AFh_mono (r07Subsets_e a h V) fun v q h' hr => by
 rcases hr with ⟨t', hF, V1, h1, h2, h3⟩ | ⟨h1, _⟩
 · rw [hs] at h2; cases h2; exact ⟨hF, V1, h1, h3⟩
 · rw [hs] at h1; cases h1
theorem r07Minimal_bad (a : Aut) (hml : a.moves.length ≤ 1000000) (hv : autOk a = false) : AF Tryz.prog 27 [pAut a] (· = .tup [rawZ, pInt 1]) := by
 refine AF.of_body 33 Tryz.func27 rfl Tryz.ntmps27 (Nat.le_of_ble_eq_true rfl) ?_
 intro w0 M0 vs hl hv
 obtain ⟨v0, rfl⟩ := len1 hl
 clear hl hv
 refine nav ?_
 (refine aC_region ?_ <;> refine s_boxa 1 5 fun h1 => ?_ <;> refine s_alloc [(.int .i64 0), (.int .i64 0), (.slice none 0 0), (.slice none 0 0), (.slice none 0 0)] 5 2 tZr25_LfD fun h2 => ?_ <;> refine xL 3 q_assign ?_ <;> refine aL_end (nav ?_) <;> try dsimp only)
 (refine aC_region ?_ <;> (refine yL 8 (q_ldao 1 tAgg25_LdS) fun v8 hv8 => ?_; cases hv8) <;> (refine cS 9 (cA Tryz.call25 (r07Valid_e a hml)) fun v9 hv9 => ?_; cases hv9) <;> refine xL 10 q_not ?_ <;> refine aL_end (nav ?_) <;> try dsimp only)
 (first | refine cCd ?_ ?_ | refine cC ?_ ?_) <;> intro hb10
 · refine nav ?_
   (refine aC_region ?_ <;> refine xL 11 (q_build tSt25_LfD) ?_ <;> refine s_sta 2 tAgg25_LdS ?_ <;> refine xL 3 q_assign ?_ <;> refine aL_end (nav ?_) <;> try dsimp only)
   exact ret_cs (k := 5) 2 (by kernel_rfl) (Tryz.results27) rfl rfl rfl (Nat.le_of_ble_eq_true rfl) (by decide) rfl rfl
 · rw [hv] at hb10; simp at hb10
theorem r07Minimal_none (a : Aut) (hml : a.moves.length ≤ 1000000) (hv : autOk a = true) (hs : subT a = none) : AF Tryz.prog 27 [pAut a] (· = .tup [rawZ, pInt 13]) := by
 have h := aok_of hv
 refine AF.of_body 33 Tryz.func27 rfl Tryz.ntmps27 (Nat.le_of_ble_eq_true rfl) ?_
 intro w0 M0 vs hl hv
 obtain ⟨v0, rfl⟩ := len1 hl
 clear hl hv
 refine nav ?_
 (refine aC_region ?_ <;> refine s_boxa 1 5 fun h1 => ?_ <;> refine s_alloc [(.int .i64 0), (.int .i64 0), (.slice none 0 0), (.slice none 0 0), (.slice none 0 0)] 5 2 tZr25_LfD fun h2 => ?_ <;> refine xL 3 q_assign ?_ <;> refine aL_end (nav ?_) <;> try dsimp only)
 (refine aC_region ?_ <;> (refine yL 8 (q_ldao 1 tAgg25_LdS) fun v8 hv8 => ?_; cases hv8) <;> (refine cS 9 (cA Tryz.call25 (r07Valid_e a hml)) fun v9 hv9 => ?_; cases hv9) <;> refine xL 10 q_not ?_ <;> refine aL_end (nav ?_) <;> try dsimp only)
 (first | refine cCd ?_ ?_ | refine cC ?_ ?_) <;> intro hb10
 · rw [hv] at hb10; simp at hb10
 · refine nav ?_
   (refine aC_region ?_ <;> (refine yL 13 (q_ldao 1 tAgg25_LdS) fun v13 hv13 => ?_; cases hv13) <;> (refine aL_ch [1, 2] 14 (Tryz.call84) (r07Subsets_none h hs _) ?_; rintro _ _ _ ⟨⟨V1, rfl⟩, rfl, rfl⟩) <;> refine xL 12 q_move ?_ <;> refine xL 15 q_extract ?_ <;> refine xL 16 q_extract ?_ <;> refine s_alloc [(.int .i64 0), (.slice none 0 0), (.slice none 0 0)] 3 4 tZr100_LfH fun h4 => ?_ <;> refine s_sta 4 tAgg100_LfH ?_ <;> refine xL 5 q_assign ?_ <;> refine aL_end (nav ?_) <;> try dsimp only)
   (refine aC_region ?_ <;> refine xL 17 q_move ?_ <;> refine xL 18 q_not ?_ <;> refine aL_end (nav ?_) <;> try dsimp only)
   refine cCt ?_
   refine nav ?_
   (refine aC_region ?_ <;> (refine cP 19 (cA Tryz.call75 (r07limit_e)) fun va19 vb19 hva19 hvb19 => ?_; cases hvb19) <;> refine xL 20 q_extract ?_ <;> refine xL 21 q_extract ?_ <;> refine s_sta 2 tAgg25_LdS ?_ <;> refine xL 3 q_assign ?_ <;> refine aL_end (nav ?_) <;> try dsimp only)
   exact ret_cs (k := 5) 2 (by kernel_rfl) (Tryz.results27) rfl rfl rfl (Nat.le_of_ble_eq_true rfl) (by decide) rfl rfl
theorem r07Minimal_lim (a : Aut) (hml : a.moves.length ≤ 1000000) (hv : autOk a = true) {t : Tab} (hs : subT a = some t) (hl : AF Tryz.prog 74 [pTabR t] (· = .tup [rawZ, pBool false])) : AF Tryz.prog 27 [pAut a] (· = .tup [rawZ, pInt 13]) := by
 have h := aok_of hv
 refine AF.of_body 33 Tryz.func27 rfl Tryz.ntmps27 (Nat.le_of_ble_eq_true rfl) ?_
 intro w0 M0 vs hl hv
 obtain ⟨v0, rfl⟩ := len1 hl
 clear hl hv
 refine nav ?_
 (refine aC_region ?_ <;> refine s_boxa 1 5 fun h1 => ?_ <;> refine s_alloc [(.int .i64 0), (.int .i64 0), (.slice none 0 0), (.slice none 0 0), (.slice none 0 0)] 5 2 tZr25_LfD fun h2 => ?_ <;> refine xL 3 q_assign ?_ <;> refine aL_end (nav ?_) <;> try dsimp only)
 (refine aC_region ?_ <;> (refine yL 8 (q_ldao 1 tAgg25_LdS) fun v8 hv8 => ?_; cases hv8) <;> (refine cS 9 (cA Tryz.call25 (r07Valid_e a hml)) fun v9 hv9 => ?_; cases hv9) <;> refine xL 10 q_not ?_ <;> refine aL_end (nav ?_) <;> try dsimp only)
 (first | refine cCd ?_ ?_ | refine cC ?_ ?_) <;> intro hb10
 · rw [hv] at hb10; simp at hb10
 · refine nav ?_
   (refine aC_region ?_ <;> (refine yL 13 (q_ldao 1 tAgg25_LdS) fun v13 hv13 => ?_; cases hv13) <;> (refine aL_ch [1, 2] 14 (Tryz.call84) (r07Subsets_some h hs _) ?_; rintro _ _ _ ⟨hF, V1, hFo, rfl, rfl, rfl⟩; have hone : En.one (PV.val hF) = true := hFo) <;> refine xL 12 q_move ?_ <;> refine xL 15 q_extract ?_ <;> refine xL 16 q_extract ?_ <;> refine s_alloc [(.int .i64 0), (.slice none 0 0), (.slice none 0 0)] 3 4 tZr100_LfH fun h4 => ?_ <;> refine s_sta 4 tAgg100_LfH ?_ <;> refine xL 5 q_assign ?_ <;> refine aL_end (nav ?_) <;> try dsimp only)
   (refine aC_region ?_ <;> refine xL 17 q_move ?_ <;> refine xL 18 q_not ?_ <;> refine aL_end (nav ?_) <;> try dsimp only)
   refine cCf ?_
   refine nav ?_
   refine aC_ent (freezeCell (l := 4) (l' := 1000) (j := 1) rfl rfl rfl rfl) fun _ => ?_
   rw [share_boolss _ _ _ rfl]
   (refine aC_region ?_ <;> (refine yL 23 (q_ldao 4 tAgg100_LfH) fun v23 hv23 => ?_; cases hv23) <;> (refine cP 24 (cA Tryz.call74 (hl)) fun va24 vb24 hva24 hvb24 => ?_; cases hvb24) <;> refine xL 22 q_move ?_ <;> refine xL 25 q_extract ?_ <;> refine xL 26 q_extract ?_ <;> refine s_alloc [(.int .i64 0), (.int .i64 0), (.slice none 0 0), (.slice none 0 0), (.slice none 0 0)] 5 6 tZr25_LfD fun h6 => ?_ <;> refine s_sta 6 tAgg25_LdS ?_ <;> refine xL 7 q_assign ?_ <;> refine aL_end (nav ?_) <;> try dsimp only)
   (refine aC_region ?_ <;> refine xL 27 q_move ?_ <;> refine xL 28 q_not ?_ <;> refine aL_end (nav ?_) <;> try dsimp only)
   refine cCt ?_
   refine nav ?_
   (refine aC_region ?_ <;> (refine cP 29 (cA Tryz.call75 (r07limit_e)) fun va29 vb29 hva29 hvb29 => ?_; cases hvb29) <;> refine xL 30 q_extract ?_ <;> refine xL 31 q_extract ?_ <;> refine s_sta 2 tAgg25_LdS ?_ <;> refine xL 3 q_assign ?_ <;> refine aL_end (nav ?_) <;> try dsimp only)
   exact ret_cs (k := 5) 2 (by kernel_rfl) (Tryz.results27) rfl rfl rfl (Nat.le_of_ble_eq_true rfl) (by decide) rfl rfl
theorem r07Minimal_ok (a : Aut) (hml : a.moves.length ≤ 1000000) (hv : autOk a = true) {t : Tab} (hs : subT a = some t) {A : Aut} (hl : AF Tryz.prog 74 [pTabR t] (· = .tup [pAut A, pBool true])) : AF Tryz.prog 27 [pAut a] (· = .tup [pAut A, pInt 0]) := by
 have h := aok_of hv
 refine AF.of_body 33 Tryz.func27 rfl Tryz.ntmps27 (Nat.le_of_ble_eq_true rfl) ?_
 intro w0 M0 vs hl hv
 obtain ⟨v0, rfl⟩ := len1 hl
 clear hl hv
 refine nav ?_
 (refine aC_region ?_ <;> refine s_boxa 1 5 fun h1 => ?_ <;> refine s_alloc [(.int .i64 0), (.int .i64 0), (.slice none 0 0), (.slice none 0 0), (.slice none 0 0)] 5 2 tZr25_LfD fun h2 => ?_ <;> refine xL 3 q_assign ?_ <;> refine aL_end (nav ?_) <;> try dsimp only)
 (refine aC_region ?_ <;> (refine yL 8 (q_ldao 1 tAgg25_LdS) fun v8 hv8 => ?_; cases hv8) <;> (refine cS 9 (cA Tryz.call25 (r07Valid_e a hml)) fun v9 hv9 => ?_; cases hv9) <;> refine xL 10 q_not ?_ <;> refine aL_end (nav ?_) <;> try dsimp only)
 (first | refine cCd ?_ ?_ | refine cC ?_ ?_) <;> intro hb10
 · rw [hv] at hb10; simp at hb10
 · refine nav ?_
   (refine aC_region ?_ <;> (refine yL 13 (q_ldao 1 tAgg25_LdS) fun v13 hv13 => ?_; cases hv13) <;> (refine aL_ch [1, 2] 14 (Tryz.call84) (r07Subsets_some h hs _) ?_; rintro _ _ _ ⟨hF, V1, hFo, rfl, rfl, rfl⟩; have hone : En.one (PV.val hF) = true := hFo) <;> refine xL 12 q_move ?_ <;> refine xL 15 q_extract ?_ <;> refine xL 16 q_extract ?_ <;> refine s_alloc [(.int .i64 0), (.slice none 0 0), (.slice none 0 0)] 3 4 tZr100_LfH fun h4 => ?_ <;> refine s_sta 4 tAgg100_LfH ?_ <;> refine xL 5 q_assign ?_ <;> refine aL_end (nav ?_) <;> try dsimp only)
   (refine aC_region ?_ <;> refine xL 17 q_move ?_ <;> refine xL 18 q_not ?_ <;> refine aL_end (nav ?_) <;> try dsimp only)
   refine cCf ?_
   refine nav ?_
   refine aC_ent (freezeCell (l := 4) (l' := 1000) (j := 1) rfl rfl rfl rfl) fun _ => ?_
   rw [share_boolss _ _ _ rfl]
   (refine aC_region ?_ <;> (refine yL 23 (q_ldao 4 tAgg100_LfH) fun v23 hv23 => ?_; cases hv23) <;> (refine cP 24 (cA Tryz.call74 (hl)) fun va24 vb24 hva24 hvb24 => ?_; cases hvb24) <;> refine xL 22 q_move ?_ <;> refine xL 25 q_extract ?_ <;> refine xL 26 q_extract ?_ <;> refine s_alloc [(.int .i64 0), (.int .i64 0), (.slice none 0 0), (.slice none 0 0), (.slice none 0 0)] 5 6 tZr25_LfD fun h6 => ?_ <;> refine s_sta 6 tAgg25_LdS ?_ <;> refine xL 7 q_assign ?_ <;> refine aL_end (nav ?_) <;> try dsimp only)
   (refine aC_region ?_ <;> refine xL 27 q_move ?_ <;> refine xL 28 q_not ?_ <;> refine aL_end (nav ?_) <;> try dsimp only)
   refine cCf ?_
   refine nav ?_
   (refine aC_region ?_ <;> (refine yL 32 (q_ldao 6 tAgg25_LdS) fun v32 hv32 => ?_; cases hv32) <;> refine s_sta 2 tAgg25_LdS ?_ <;> refine xL 3 q_assign ?_ <;> refine aL_end (nav ?_) <;> try dsimp only)
   exact ret_cs (k := 5) 2 (by kernel_rfl) (Tryz.results27) rfl rfl rfl (Nat.le_of_ble_eq_true rfl) (by decide) rfl rfl
theorem least_some {t : Tab} {A : Aut} (h : leastT t = some A) (ht : TOk t) : AF Tryz.prog 74 [pTabR t] (· = .tup [pAut A, pBool true]) := (r07Least_e t ht).mono fun p hp => by
 rcases hp with ⟨B, h1, h2⟩ | ⟨h1, _⟩
 · rw [h] at h1; cases h1; exact h2
 · rw [h] at h1; cases h1
theorem least_none {t : Tab} (h : leastT t = none) (ht : TOk t) : AF Tryz.prog 74 [pTabR t] (· = .tup [rawZ, pBool false]) := (r07Least_e t ht).mono fun p hp => by
 rcases hp with ⟨B, h1, h2⟩ | ⟨_, h1⟩
 · rw [h] at h1; cases h1
 · exact h1
theorem r07Minimal_e (a : Aut) (hml : a.moves.length ≤ 1000000) : AF Tryz.prog 27 [pAut a] (· = resW (minX a)) := by
 unfold minX
 cases hv : autOk a with
 | false => rw [if_neg (by simp)]; exact r07Minimal_bad a hml hv
 | true =>
   rw [if_pos rfl]
   have h := aok_of hv
   cases hs : subT a with
   | none => rw [redX_none hs]; exact r07Minimal_none a hml hv hs
   | some t =>
     rw [redX_some hs]
     have ht := sub_tok h hs
     cases hl : leastT t with
     | none => exact r07Minimal_lim a hml hv hs (least_none hl ht)
     | some A => exact r07Minimal_ok a hml hv hs (least_some hl ht)
theorem aL_sort0 {P : Program} {c : Ctx} {sL hP : List (Nat × Ent)} {ops : Array Oper} {Q : Exit → Act → World → Prop} {o : Oper} {rest : List Oper} {fs g k e d l : Nat} {cs : List PV} {h : Value} {q q' : PV} {x y : Operand} {ats : Array TypeId} (hS : ∀ (p : Option Addr) (cap : Nat) (fv : Value) (w : World), Calls P fs #[.slice p 0 cap, fv] w fun e w' => e = .returned (.tuple #[]) ∧ w' = w)
 (hw : wants ops sL o = some true) (hd : o.dst = some d) (hdn : d < c.nt) (ho : o.op = .call { callee := .value (.func fs), args := #[x, y], argTypes := ats }) (hc : ∀ args w, (callFunc fs args).run P w = .ok (.enter fs args) w) (hx : ev sL x = some (h, q)) (hy : ev sL y = some (.func (.func g) #[] #[], q')) (hl : lk hP l = some (h, .own e k 0 cs))
 (kk : aL P c ops Q rest ⟨put d (.tuple #[], .val (.tuple #[])) sL, hP⟩) : aL P c ops Q (o :: rest) (⟨sL, hP⟩ : St) :=
 aL_run hw fun a w F H => by
  have hxv := (H.rd.ev hx).1
  have hyv := (H.rd.ev hy).1
  obtain ⟨xs, Fs, hrow, _⟩ := (H.tr l _ _ hl).row
  obtain ⟨p, cap, rfl⟩ : ∃ p cap, h = .slice p 0 cap := by
   rcases row_form hrow with ⟨h1, _⟩ | ⟨g, cap, h1, _⟩
   · exact ⟨_, _, h1⟩
   · exact ⟨_, _, h1⟩
  unfold Oper.wp
  have hrun : (execOp a.eval o).run P w = .ok (.enter fs #[.slice p 0 cap, .func (.func g) #[] #[]]) w := by
   have hev : a.eval (.func fs) = .func (.func fs) #[] #[] := rfl
   simp [execOp, ho, resolve, Deferred.ofValue, hev, invoke, hxv, hyv, hc]
  rw [hrun, Oper.upon_enter]
  refine (hS p cap _ w).mono fun e' w' ⟨he', hw'⟩ => ?_
  subst he' hw'
  rw [hd]
  exact kk _ _ ⟨F, H.put hdn (.val _)⟩
theorem mvCmp_lt {a b : Mv} : mvCmp a b < 0 ↔ mvLt a b = true := by unfold mvLt; rw [decide_eq_true_eq]
theorem mvCmp_irr (a : Mv) : ¬ mvCmp a a < 0 := fun h => by have := mvCmp_lt.1 h; rw [mvLt_irr] at this; cases this
theorem mvCmp_tr (a b c : Mv) (h1 : mvCmp a b < 0) (h2 : mvCmp b c < 0) : mvCmp a c < 0 := mvCmp_lt.2 (mvLt_tr (mvCmp_lt.1 h1) (mvCmp_lt.1 h2))
theorem mvCmp_nt (a b c : Mv) (h1 : ¬ mvCmp a b < 0) (h2 : ¬ mvCmp b c < 0) : ¬ mvCmp a c < 0 := fun h => by
 rw [mvCmp_lt, mvLt_iff] at h1 h2 h
 omega
def Sorted (l : List Mv) : Prop := ∀ (i j : Nat) (a b : Mv), i < j → l[i]? = some a → l[j]? = some b → ¬ mvCmp b a < 0
theorem sorted_asc {l : List Mv} (h : Sorted l) (hn : l.Nodup) : AscM l := by
 unfold AscM
 rw [List.pairwise_iff_getElem]
 intro i j hi hj hij
 have h1 := h i j l[i] l[j] hij (List.getElem?_eq_getElem hi) (List.getElem?_eq_getElem hj)
 rw [mvCmp_lt] at h1
 cases h2 : mvLt l[i] l[j] with
 | true => rfl
 | false =>
   have h3 := mvLt_tri h2 (by simpa using h1)
   exact absurd (List.getElem_inj hn |>.1 h3) (by omega)
theorem asc_next {l : List Mv} (h : AscM l) {k : Nat} {x y : Mv} (hy : l[k]? = some y) (hx : l[k + 1]? = some x) : eqM x y = false := by
 have h1 := List.pairwise_iff_getElem.1 h k (k + 1) (lt_of_get hy) (lt_of_get hx) (by omega)
 rw [(List.getElem?_eq_some_iff.1 hy).2, (List.getElem?_eq_some_iff.1 hx).2] at h1
 cases h2 : eqM x y with
 | false => rfl
 | true => rw [eqM_iff.1 h2, mvLt_irr] at h1; cases h1
theorem uMvS : Tryz.prog.underlying 72 = some (.struct (Tryz.prog.fieldsOf 72)) := by kernel_rfl
theorem hMvS : Tryz.prog.stoodInHeld 72 = false := by kernel_rfl
theorem gMvS : Tryz.prog.eqGuardType Tryz.prog.depth 72 = false := by kernel_rfl
def vMv (m : Mv) : List Value := [Value.int .i64 m.src, .int .i64 m.dst, .int .i64 m.sym]
theorem eqMv_runG (x y : Mv) (w : World) : (Op.eqFields 9999 (vMv x).toArray (vMv y).toArray (Tryz.prog.fieldsOf 72).toList).run Tryz.prog w = .ok (eqM x y) w := by
 unfold vMv eqM
 simp only [Program.fieldsOf, Tryz.underlying72]
 simp [Op.eqFields, part, run_equalIn_int w 9998 3 .i64 .i64 x.src y.src Tryz.underlying3, run_equalIn_int w 9998 3 .i64 .i64 x.dst y.dst Tryz.underlying3, run_equalIn_int w 9998 3 .i64 .i64 x.sym y.sym Tryz.underlying3]
 by_cases h1 : x.src = y.src <;> by_cases h2 : x.dst = y.dst <;> by_cases h3 : x.sym = y.sym <;> simp [h1, h2, h3]
theorem cloneMv_e (l : List Mv) (hl : l.length ≤ 1000000) : AF Tryz.prog 96 [pMvs l] (· = .own 72 3 l.length (l.flatMap cMv)) := by
 refine AF.of_body 8 Tryz.func96 rfl Tryz.ntmps96 (Nat.le_of_ble_eq_true rfl) ?_
 intro w0 M0 vs hl hv
 obtain ⟨v0, rfl⟩ := len1 hl
 clear hl hv
 have f3 : (l.flatMap cMv).length = l.length * 3 := flat_len cMv_len l
 have f4 : (l.flatMap cMv).all En.one = true := cMv_one l
 refine nav ?_
 (refine aC_region ?_ <;> refine xL 2 q_assign ?_ <;> refine aL_end (nav ?_) <;> try dsimp only)
 (refine aC_region ?_ <;> refine xL 3 q_move ?_ <;> (refine yL 4 (q_eqnil tSl23_LdI) fun v4 hv4 => ?_; rcases hv4 with rfl | ⟨rfl, hn0⟩) <;> refine aL_end (nav ?_) <;> try dsimp only) <;> (
  (first | refine cCd ?_ ?_ | refine cC ?_ ?_) <;> intro hb4
  · first
    | exact Bool.noConfusion hb4
    | (
     refine nav ?_
     (refine aC_region ?_ <;> refine xL 2 q_assign ?_ <;> refine aL_end (nav ?_) <;> try dsimp only)
     have hl0 : l = [] := List.eq_nil_of_length_eq_zero hn0
     subst hl0
     refine aR_ent (nilOwn 200 72 3 rfl) fun _ => ?_
     exact ret_own 200 (Tryz.results96) rfl rfl rfl)
  · first
    | exact Bool.noConfusion hb4
    | (
     refine nav ?_
     (refine aC_region ?_ <;> refine s_lit0 5 tEl23_LdR fun h5 ho5 => ?_ <;> refine xL 6 q_move ?_ <;> refine s_apps 5 7 tEl23_LdR (fun h7 ho7 => ?_) f3 f4 <;> refine xL 2 q_assign ?_ <;> refine aL_end (nav ?_) <;> try dsimp only)
     refine ret_own 7 (Tryz.results96) rfl rfl ?_
     rw [Nat.zero_add, List.nil_append]))
theorem tAggMv : AggT Tryz.prog 72 3 = true := by kernel_rfl
theorem sortMv_c : SortC Tryz.prog 116 80 3 := fun enc hk h1 cf hO blk cap d w hcmp hH hblk hsz =>
 AnyQ.slices_SortFunc Tryz.sortMvL 3 (fun w => AggT.run tAggMv w) (fun w => AggT.size tAggMv w) enc hk h1 cf hO 80 #[] blk 0 cap d w (Tryz.call80) hcmp hH hblk hsz
theorem sortMv_none (p : Option Addr) (cap : Nat) (fv : Value) (w : World) : Calls Tryz.prog 116 #[.slice p 0 cap, fv] w fun e w' => e = .returned (.tuple #[]) ∧ w' = w := (AnyF.slices_SortFunc_none Tryz.sortMvL p cap fv w).mono fun e w' ⟨h1, h2⟩ => ⟨h1, h2⟩
theorem mv_exact2 (x y : Mv) (M : BS) (W : World) (u v : Value) (hu : Shr M W u (.agg (cMv x))) (hv : Shr M W v (.agg (cMv y))) : Calls Tryz.prog 80 #[u, v] W fun e w' => e = .returned (.int .i64 (mvCmp x y)) ∧ ∃ q os', w' = Go.Sort.grow (W.drewN q) os' := (aCmpMoves_g x y).exact2 hu hv
theorem compactMv_asc (l : List Mv) (hl : l.length ≤ 1000000) (ha : AscM l) (hv : Value) : AFh False Tryz.prog 117 [(0, hv, .val hv)] [(1000, hv, .own 72 3 l.length (l.flatMap cMv))] (fun v q h => v = hv ∧ q = .val hv ∧ h = [(1000, hv, .own 72 3 l.length (l.flatMap cMv))]) := by
 refine AFh.of_body 61 Tryz.func117 rfl Tryz.ntmps117 (Nat.le_of_ble_eq_true rfl) rfl ?_
 intro w0 M0 N0
 refine nav ?_
 (refine aC_region ?_ <;> refine xL 2 q_assign ?_ <;> refine aL_end (nav ?_) <;> try dsimp only)
 (refine aC_region ?_ <;> refine xL 6 q_move ?_ <;> refine xL 7 (q_leno 1000 tSl23_LdI) ?_ <;> refine xL 8 q_lss ?_ <;> refine aL_end (nav ?_) <;> try dsimp only)
 (first | refine cCd ?_ ?_ | refine cC ?_ ?_) <;> intro hb8
 · first
   | exact Bool.noConfusion hb8
   | (
    refine nav ?_
    (refine aC_region ?_ <;> refine xL 9 q_move ?_ <;> refine xL 2 q_assign ?_ <;> refine aL_end (nav ?_) <;> try dsimp only)
    exact ret_h [(1000, hv, PV.own 72 3 l.length (l.flatMap cMv))] (Tryz.results117) rfl ⟨rfl, trivial⟩ ⟨rfl, rfl, rfl⟩)
 · first
   | exact Bool.noConfusion hb8
   | (
    refine nav ?_
    (refine aC_region ?_ <;> refine xL 3 q_assign ?_ <;> refine aL_end (nav ?_) <;> try dsimp only)
    refine aC_loop (ι := { k : Nat // 1 ≤ k ∧ k ≤ l.length }) (fun k => ⟨[(0, _, _), (3, .int .i64 k.1, pInt k.1)], [(1000, _, _)]⟩) (fun k => l.length - k.1) ⟨1, Nat.le_refl _, by omega⟩ (fun a w H => H.weaken ⟨rfl, rfl, trivial⟩ ⟨rfl, trivial⟩) ?_
    rintro ⟨k1, hk1, hk⟩
    dsimp only
    obtain ⟨k, rfl⟩ : ∃ k, k1 = k + 1 := ⟨k1 - 1, by omega⟩
    refine nav ?_
    (refine aC_region ?_ <;> refine xL 10 q_move ?_ <;> refine xL 11 q_move ?_ <;> refine xL 12 (q_leno 1000 tSl23_LdI) ?_ <;> refine xL 13 q_lss ?_ <;> refine aL_end (nav ?_) <;> try dsimp only)
    (first | refine cCd ?_ ?_ | refine cC ?_ ?_) <;> intro hb13
    · first
      | exact Bool.noConfusion hb13
      | (
       obtain ⟨x, hx⟩ := get_some (show k + 1 < l.length by omega)
       obtain ⟨y, hy⟩ := get_some (show k < l.length by omega)
       have e1 := flat_drop cMv_len l (k + 1) x hx
       have e2 := flat_fit cMv_len hx
       have e3 : ((l.flatMap cMv).drop ((((k + 1 : Nat) : Int) - 1).toNat * 3)).take 3 = cMv y := by rw [show (((k + 1 : Nat) : Int) - 1).toNat * 3 = k * 3 by omega]; exact flat_drop cMv_len l k y hy
       have e4 := flat_fit cMv_len hy
       have hne := asc_next ha hy hx
       refine nav ?_
       (refine aC_draw (fun i => ([] : List Nat).elem i) [1000] (by kernel_rfl) ?_ <;> refine xD 0 16 rfl q_move ?_ <;> refine xD 1 17 rfl q_move ?_ <;> refine xD 2 18 rfl (q_idxoN 1000 tSl23_LdI) ?_ <;> (refine yD 3 19 rfl (q_ldao 1000 tAgg72_LdI) fun v19 hv19 => ?_; cases hv19) <;> refine xD 4 20 rfl q_move ?_ <;> refine xE 5 21 rfl q_move ?_ <;> refine xE 6 22 rfl q_sub ?_ <;> refine xE 7 23 rfl (q_idxo 1000 tSl23_LdI) ?_ <;> (refine yE 8 24 rfl (q_ldao 1000 tAgg72_LdI) fun v24 hv24 => ?_; cases hv24) <;> refine xE 9 25 rfl ((q_eqS (us := vMv x) (us' := vMv y) uMvS hMvS gMvS (eqMv_runG x y) rfl rfl)) ?_ <;> refine aD_end (by kernel_rfl) (nav ?_) <;> try dsimp only)
       (first | refine cCd ?_ ?_ | refine cC ?_ ?_) <;> intro hb25
       · rw [hne] at hb25; cases hb25
       · refine nav ?_
         (refine aC_region ?_ <;> refine xL 14 q_move ?_ <;> refine xL 15 q_add ?_ <;> refine xL 3 q_assign ?_ <;> refine aL_end (nav ?_) <;> try dsimp only)
         refine aN_again (
          ⟨k + 1 + 1, by omega, by omega⟩
          ) (by dsimp only; omega) ⟨rfl, rfl, trivial⟩ ⟨rfl, trivial⟩)
    · first
      | exact Bool.noConfusion hb13
      | (
       refine nav ?_
       (refine aC_region ?_ <;> refine xL 60 q_move ?_ <;> refine xL 2 q_assign ?_ <;> refine aL_end (nav ?_) <;> try dsimp only)
       exact ret_h [(1000, hv, PV.own 72 3 l.length (l.flatMap cMv))] (Tryz.results117) rfl ⟨rfl, trivial⟩ ⟨rfl, rfl, rfl⟩))
structure PreA (a : Aut) : Prop where
 n0 : 0 ≤ a.n
 s0 : 0 ≤ a.syms
 s1 : a.syms ≤ 40
 st : InS a a.start
 fi : InS a a.fin
 sn : a.start.Nodup
 fn : a.fin.Nodup
 mv : ∀ m ∈ a.moves, 0 ≤ m.src ∧ m.src < a.n ∧ 0 ≤ m.dst ∧ m.dst < a.n ∧ -1 ≤ m.sym ∧ m.sym < a.syms
def mkA (a : Aut) : Aut := { a with moves := mkM a.moves }
theorem PreA.aok {a : Aut} (h : PreA a) (hb : ¬ (2000 < (mkA a).n ∨ 20000 < (mkA a).moves.length)) : AOk (mkA a) := by
 have hn : ¬ 2000 < a.n := fun h => hb (.inl h)
 have hl : ∀ {l : List Int}, l.Nodup → InS a l → l.length ≤ 2000 := fun {l} h1 h2 => by
  have := nodup_len a.n.toNat l h1 fun s hs => by have := h2 s hs; have := h.n0; omega
  omega
 exact ⟨h.n0, by show a.n ≤ 2000; omega, h.s0, h.s1, by have := hb; omega, h.st, h.fi, hl h.sn h.st, hl h.fn h.fi, fun m hm => h.mv m (mkM_mem.1 hm)⟩
theorem stOk_srt {n : Int} {l : List Int} (h : stOk n l = true) : Srt l := by
 unfold stOk at h
 rw [Bool.and_eq_true] at h
 have := h.2
 clear h
 induction l with
 | nil => exact .nil
 | cons x l ih =>
   cases l with
   | nil => exact List.pairwise_singleton ..
   | cons y l =>
     rw [chainB, Bool.and_eq_true] at this
     have h1 := ih this.2
     have hxy : x < y := by have := this.1; unfold ltI at this; simpa using this
     refine List.pairwise_cons.2 ⟨fun z hz => ?_, h1⟩
     rcases List.mem_cons.1 hz with rfl | hz
     · exact hxy
     · exact Int.lt_trans hxy ((List.pairwise_cons.1 h1).1 z hz)
theorem chain_asc : ∀ {l : List Mv}, chainB mvLt l = true → AscM l
 | [], _ => .nil
 | [x], _ => List.pairwise_singleton ..
 | x :: y :: l, h => by
   rw [chainB, Bool.and_eq_true] at h
   have h1 := chain_asc h.2
   refine List.pairwise_cons.2 ⟨fun z hz => ?_, h1⟩
   rcases List.mem_cons.1 hz with rfl | hz
   · exact h.1
   · exact mvLt_tr h.1 ((List.pairwise_cons.1 h1).1 z hz)
theorem srt_nodup {l : List Int} (h : Srt l) : l.Nodup := h.imp fun h => by omega
structure VOk (a : Aut) : Prop extends AOk a where
 ss : Srt a.start
 fs : Srt a.fin
 ms : AscM a.moves
theorem vok_of {a : Aut} (h : autOk a = true) : VOk a := by
 have h' := h
 unfold autOk at h'
 simp only [Bool.and_eq_true, decide_eq_true_eq] at h'
 obtain ⟨⟨⟨⟨⟨⟨⟨⟨_, _⟩, _⟩, _⟩, _⟩, h6⟩, h7⟩, _⟩, h9⟩ := h'
 exact ⟨aok_of h, stOk_srt h6, stOk_srt h7, chain_asc h9⟩
theorem asc_nodup2 {l : List Mv} (h : AscM l) : l.Nodup := h.imp fun {a b} h1 e => by rw [e, mvLt_irr] at h1; cases h1
theorem map_nodup {α β : Type} {f : α → β} {l : List α} (h : l.Nodup) (hf : ∀ x ∈ l, ∀ y ∈ l, f x = f y → x = y) : (l.map f).Nodup := by
 induction l with
 | nil => exact List.nodup_nil
 | cons x l ih =>
   rw [List.nodup_cons] at h
   rw [List.map_cons, List.nodup_cons]
   refine ⟨fun hm => ?_, ih h.2 fun y hy z hz => hf y (List.mem_cons_of_mem _ hy) z (List.mem_cons_of_mem _ hz)⟩
   obtain ⟨y, hy, e⟩ := List.mem_map.1 hm
   have := hf y (List.mem_cons_of_mem _ hy) x (List.mem_cons_self ..) e
   rw [this] at hy
   exact h.1 hy
theorem star_pre {a : Aut} (h : VOk a) : PreA (starA a) := by
 have hn := h.n0
 refine ⟨by show 0 ≤ a.n + 1; omega, h.s0, h.s1, fun s hs => ?_, fun s hs => ?_, by show [a.n].Nodup; simp, by show [a.n].Nodup; simp, fun m hm => ?_⟩
 · rw [show s = a.n from List.mem_singleton.1 hs]
   exact ⟨hn, by show a.n < a.n + 1; omega⟩
 · rw [show s = a.n from List.mem_singleton.1 hs]
   exact ⟨hn, by show a.n < a.n + 1; omega⟩
 · have hs := h.s0
   show 0 ≤ m.src ∧ m.src < a.n + 1 ∧ 0 ≤ m.dst ∧ m.dst < a.n + 1 ∧ -1 ≤ m.sym ∧ m.sym < a.syms
   have hm' : m ∈ a.moves ++ (a.start.map fun s => (⟨a.n, s, -1⟩ : Mv)) ++ a.fin.map fun s => (⟨s, a.n, -1⟩ : Mv) := hm
   rcases List.mem_append.1 hm' with hm | hm
   · rcases List.mem_append.1 hm with hm | hm
     · have := h.mv m hm; omega
     · obtain ⟨s, hs, rfl⟩ := List.mem_map.1 hm
       have := h.st s hs
       dsimp only; omega
   · obtain ⟨s, hs, rfl⟩ := List.mem_map.1 hm
     have := h.fi s hs
     dsimp only; omega
theorem star_nodup {a : Aut} (h : VOk a) : (starA a).moves.Nodup := by
 show (a.moves ++ (a.start.map fun s => (⟨a.n, s, -1⟩ : Mv)) ++ a.fin.map fun s => (⟨s, a.n, -1⟩ : Mv)).Nodup
 rw [List.nodup_append, List.nodup_append]
 refine ⟨⟨asc_nodup2 h.ms, map_nodup (srt_nodup h.ss) fun x _ y _ e => (Mv.mk.inj e).2.1, fun x hx y hy e => ?_⟩, map_nodup (srt_nodup h.fs) fun x _ y _ e => (Mv.mk.inj e).1, fun x hx y hy e => ?_⟩
 · obtain ⟨s, hs, rfl⟩ := List.mem_map.1 hy
   have := h.mv x hx
   rw [e] at this
   dsimp only at this; omega
 · obtain ⟨s, hs, rfl⟩ := List.mem_map.1 hy
   have h1 := h.fi s hs
   rcases List.mem_append.1 hx with hx | hx
   · have := h.mv x hx
     rw [e] at this
     dsimp only at this; omega
   · obtain ⟨s', hs', e'⟩ := List.mem_map.1 hx
     rw [e] at e'
     have := (Mv.mk.inj e').1
     omega
end Go.Proofs.YtgigclnaicbiaaaGreatDoor
namespace Go.En
open Go.RowKit Go.Cb
set_option linter.all false
section
variable {P : Program} {c : Ctx} {ops : Array Oper} {Q : Exit → Act → World → Prop} {Z : Nat → Bool} {K : List Nat} {fuel : Nat} {listed : Array Bool} {sL hP : List (Nat × Ent)} {o : Oper}
theorem aD_four (i j k l : Nat) (hr : Region.ready .any ops listed = [i, j, k, l]) (h : aW P c ops Q Z K fuel listed (⟨sL, hP⟩ : St) i) (h' : aW P c ops Q Z K fuel listed (⟨sL, hP⟩ : St) j) (h'' : aW P c ops Q Z K fuel listed (⟨sL, hP⟩ : St) k) (h3 : aW P c ops Q Z K fuel listed (⟨sL, hP⟩ : St) l) : aD P c ops Q Z K (fuel + 1) listed (⟨sL, hP⟩ : St) := fun a w F H C hC =>
 ⟨(fun hn => by rw [hr] at hn; cases hn), fun m hm => by
   rw [hr] at hm
   rcases (by simpa using hm : m = i ∨ m = j ∨ m = k ∨ m = l) with rfl | rfl | rfl | rfl
   · exact h a w F H C hC
   · exact h' a w F H C hC
   · exact h'' a w F H C hC
   · exact h3 a w F H C hC⟩
end
end Go.En
namespace Go.Proofs.YtgigclnaicbiaaaGreatDoor
open Go.RowKit Go.Cb Go.En
set_option linter.all false
set_option maxRecDepth 100000
theorem sorted_mk {l r : List Mv} (hp : r.Perm l) (hs : Sorted r) (hn : l.Nodup) : r = mkM l := mkM_eq (sorted_asc hs (hp.nodup_iff.2 hn)) fun x => hp.mem_iff
theorem mkM_nd_len {l : List Mv} (hn : l.Nodup) : (mkM l).length = l.length := by
 refine Nat.le_antisymm (mkM_len l) ?_
 have : ∀ {l : List Mv} {m : List Mv}, l.Nodup → (∀ x ∈ l, x ∈ m) → l.length ≤ m.length := fun {l} => by
  induction l with
  | nil => intro m _ _; exact Nat.zero_le _
  | cons x l ih =>
    intro m h hm
    rw [List.nodup_cons] at h
    obtain ⟨a, b, rfl⟩ := List.append_of_mem (hm x (List.mem_cons_self ..))
    have := ih (m := a ++ b) h.2 fun y hy => by
     rcases List.mem_append.1 (hm y (List.mem_cons_of_mem _ hy)) with h1 | h1
     · exact List.mem_append_left _ h1
     · rcases List.mem_cons.1 h1 with rfl | h1
       · exact absurd hy h.1
       · exact List.mem_append_right _ h1
    simp only [List.length_append, List.length_cons] at this ⊢
    omega
 exact this hn fun x hx => mkM_mem.2 hx
structure R5 (p0 p1 p2 p3 p4 : PV) : Prop where
 o : En.one p0 = true ∧ En.one p1 = true ∧ En.one p2 = true ∧ En.one p3 = true ∧ En.one p4 = true
 s : [p0, p1, p2, p3, p4].all isSh = true
 d : shD (.agg [p0, p1, p2, p3, p4]) = true
theorem R5.aut (A : Aut) : R5 (pInt A.n) (pInt A.syms) (pInts A.start) (pInts A.fin) (pMvs A.moves) := ⟨⟨rfl, rfl, rfl, rfl, rfl⟩, rfl, rfl⟩
theorem R5.raw : R5 (pInt 0) (pInt 0) (.val (.slice none 0 0)) (.val (.slice none 0 0)) (.val (.slice none 0 0)) := ⟨⟨rfl, rfl, rfl, rfl, rfl⟩, rfl, rfl⟩
theorem R5.t {p0 p1 p2 p3 p4 : PV} (h : R5 p0 p1 p2 p3 p4) (E : Int) : shD (.tup [.agg [p0, p1, p2, p3, p4], pInt E]) = true := by
 show (shD (.agg [p0, p1, p2, p3, p4]) && (true && true)) = true
 rw [h.d]; rfl
theorem aMade_g (a : Aut) (hl : a.moves.length ≤ 1000000) (hnd : a.moves.Nodup) (V hM : Value) (hMo : hM.oneCell' = true) {p0 p1 p2 p3 p4 : PV} {E : Int} (h5 : R5 p0 p1 p2 p3 p4) (hr : AF Tryz.prog 83 [pAut (mkA a)] (· = .tup [.agg [p0, p1, p2, p3, p4], pInt E])) : AFh False Tryz.prog 88 [(0, V, .agg [pInt a.n, pInt a.syms, pInts a.start, pInts a.fin, .val hM])] [(1000, hM, .own 72 3 a.moves.length (a.moves.flatMap cMv))] (fun v q h => (∃ V1 : Value, v = .tuple [V1, .int .i64 E].toArray) ∧ q = .tup [.agg [p0, p1, p2, p3, p4], pInt E] ∧ h = []) := by
 obtain ⟨o0, o1, o2, o3, o4⟩ := h5.o
 refine AFh.of_body 15 Tryz.func88 rfl Tryz.ntmps88 (Nat.le_of_ble_eq_true rfl) rfl ?_
 intro w0 M0 N0
 have hone : En.one (PV.val hM) = true := hMo
 refine nav ?_
 (refine aC_region ?_ <;> refine s_boxa 1 5 fun h1 => ?_ <;> refine s_alloc [(.int .i64 0), (.int .i64 0), (.slice none 0 0), (.slice none 0 0), (.slice none 0 0)] 5 2 tZr25_LfD fun h2 => ?_ <;> refine xL 3 q_assign ?_ <;> refine aL_end (nav ?_) <;> try dsimp only)
 (refine aC_region ?_ <;> refine xL 4 (q_fldo 1 tFl25_4_LdI) ?_ <;> (refine yL 5 (q_ldo 1 tNa23_LdI) fun v5 hv5 => ?_; cases hv5) <;> (rcases Nat.eq_zero_or_pos a.moves.length with h0 | h0 <;> first | (refine aL_ent (recast (l := 1000) (p' := .own 72 3 0 []) rfl (by rw [List.eq_nil_of_length_eq_zero h0]; rfl)) fun _ => ?_; refine aL_sort0 (l := 1000) sortMv_none rfl rfl (Nat.le_of_ble_eq_true rfl) rfl (Tryz.call116) rfl rfl rfl ?_; refine aL_ent (recast (l := 1000) (p' := .own 72 3 (mkM a.moves).length ((mkM a.moves).flatMap cMv)) rfl (by rw [List.eq_nil_of_length_eq_zero h0]; rfl)) fun _ => ?_) | (refine aL_sort (l := 1000) (β := Mv) (f := cMv) (cmp := mvCmp) (rows := a.moves) sortMv_c cMv_len (by decide) (fun _ => rfl) mvCmp_irr mvCmp_tr mvCmp_nt (fun x y M W u v _ _ hu hv => mv_exact2 x y M W u v hu hv) h0 (by omega) rfl rfl (Nat.le_of_ble_eq_true rfl) rfl (Tryz.call116) rfl rfl rfl (fun rows' hperm hord => ?_); refine aL_ent (recast (l := 1000) (p' := .own 72 3 (mkM a.moves).length ((mkM a.moves).flatMap cMv)) rfl (by rw [sorted_mk hperm hord hnd, mkM_nd_len hnd])) fun _ => ?_)) <;> refine aL_end (nav ?_) <;> try dsimp only) <;> (
  (refine aC_region ?_ <;> refine xL 7 (q_fldo 1 tFl25_4_LdI) ?_ <;> (refine yL 8 (q_ldo 1 tNa23_LdI) fun v8 hv8 => ?_; cases hv8) <;> (refine aL_heap [(1000, hM, PV.own 72 3 (mkM a.moves).length ((mkM a.moves).flatMap cMv)), (1, _, _), (2, _, _)] ⟨rfl, rfl, rfl, trivial⟩ ?_; refine aL_ch [1, 2] 9 (Tryz.call117) (compactMv_asc (mkM a.moves) (by have := mkM_len a.moves; omega) (mkM_asc _) hM) ?_; rintro v9 _ _ ⟨hv9, rfl, rfl⟩; have hv9' := hv9.symm; subst hv9') <;> refine xL 10 (q_fldo 1 tFl25_4_LdI) ?_ <;> refine s_st 1 tNa23_LdI tSz23_LdR ?_ <;> refine aL_end (nav ?_) <;> try dsimp only)
  refine aC_ent (freezeCell (l := 1) (l' := 1000) (j := 4) rfl rfl rfl rfl) fun _ => ?_
  rw [share_mvl _ _ _ rfl]
  (refine aC_region ?_ <;> (refine yL 11 (q_ldao 1 tAgg25_LdS) fun v11 hv11 => ?_; cases hv11) <;> (refine cP 12 (cA Tryz.call83 hr) (fun va12 vb12 hva12 hvb12 => ?_) (hsh := h5.t E); cases hvb12) <;> refine xL 13 q_extract ?_ <;> refine xL 14 q_extract ?_ <;> refine s_sta 2 tAgg25_LdS ?_ <;> refine xL 3 q_assign ?_ <;> refine aL_end (nav ?_) <;> try dsimp only)
  exact ret_hcs (k := 5) 2 [] (by kernel_rfl) (Tryz.results88) rfl rfl rfl (Nat.le_of_ble_eq_true rfl) (by decide) h5.s trivial fun V => ⟨⟨V, rfl⟩, rfl, rfl⟩)
theorem aReduced_mk (a : Aut) (hl : a.moves.length ≤ 1000000) (h : PreA a) : AF Tryz.prog 83 [pAut (mkA a)] (· = resW (madeX a)) :=
 aReduced_e (mkA a) (by have := mkM_len a.moves; show (mkM a.moves).length ≤ 1000000; omega) h.aok
theorem aReduced_5 (a : Aut) (hl : a.moves.length ≤ 1000000) (h : PreA a) : ∃ p0 p1 p2 p3 p4 E, R5 p0 p1 p2 p3 p4 ∧ resW (madeX a) = .tup [.agg [p0, p1, p2, p3, p4], pInt E] ∧ AF Tryz.prog 83 [pAut (mkA a)] (· = .tup [.agg [p0, p1, p2, p3, p4], pInt E]) := by
 have hr := aReduced_mk a hl h
 rcases res_cases (madeX a) with ⟨A, _, h2⟩ | ⟨e, _, h2⟩
 · rw [h2] at hr ⊢; exact ⟨_, _, _, _, _, _, R5.aut A, rfl, hr⟩
 · rw [h2] at hr ⊢; exact ⟨_, _, _, _, _, _, R5.raw, rfl, hr⟩
theorem starX_bad {a : Aut} (h : autOk a = false) : starX a = .error 1 := by unfold starX; rw [h]; rfl
theorem starX_ok {a : Aut} (h : autOk a = true) : starX a = madeX (starA a) := by unfold starX; rw [h]; rfl
def stMv (n : Int) (l : List Int) : List Mv := l.map fun s => ⟨n, s, -1⟩
def fiMv (n : Int) (l : List Int) : List Mv := l.map fun s => ⟨s, n, -1⟩
theorem stMv_snoc (n : Int) {l : List Int} {k : Nat} {x : Int} (h : l[k]? = some x) : stMv n (l.take (k + 1)) = stMv n (l.take k) ++ [⟨n, x, -1⟩] := by unfold stMv; rw [take_snoc h, List.map_append]; rfl
theorem fiMv_snoc (n : Int) {l : List Int} {k : Nat} {x : Int} (h : l[k]? = some x) : fiMv n (l.take (k + 1)) = fiMv n (l.take k) ++ [⟨x, n, -1⟩] := by unfold fiMv; rw [take_snoc h, List.map_append]; rfl
theorem star_moves (a : Aut) : (starA a).moves = a.moves ++ stMv a.n a.start ++ fiMv a.n a.fin := rfl
theorem star_len {a : Aut} (h : AOk a) : (starA a).moves.length ≤ 1000000 := by
 rw [star_moves, List.length_append, List.length_append]
 unfold stMv fiMv
 rw [List.length_map, List.length_map]
 have := h.ml; have := h.sl; have := h.fl
 omega
theorem aStar_bad (a : Aut) (hv : autOk a = false) : AF Tryz.prog 44 [pAut a] (· = .tup [rawZ, pInt 1]) := by
 refine AF.of_body 64 Tryz.func44 rfl Tryz.ntmps44 (Nat.le_of_ble_eq_true rfl) ?_
 intro w0 M0 vs hl hv
 obtain ⟨v0, rfl⟩ := len1 hl
 clear hl hv
 refine nav ?_
 (refine aC_region ?_ <;> refine s_boxa 1 5 fun h1 => ?_ <;> refine s_alloc [(.int .i64 0), (.int .i64 0), (.slice none 0 0), (.slice none 0 0), (.slice none 0 0)] 5 2 tZr25_LfD fun h2 => ?_ <;> refine xL 3 q_assign ?_ <;> refine aL_end (nav ?_) <;> try dsimp only)
 (refine aC_region ?_ <;> (refine yL 10 (q_ldao 1 tAgg25_LdS) fun v10 hv10 => ?_; cases hv10) <;> (refine cS 11 (cA Tryz.call24 (aValid_e a)) fun v11 hv11 => ?_; cases hv11) <;> refine xL 12 q_not ?_ <;> refine aL_end (nav ?_) <;> try dsimp only)
 (first | refine cCd ?_ ?_ | refine cC ?_ ?_) <;> intro hb12
 · refine nav ?_
   (refine aC_region ?_ <;> refine xL 13 (q_build tSt25_LfD) ?_ <;> refine s_sta 2 tAgg25_LdS ?_ <;> refine xL 3 q_assign ?_ <;> refine aL_end (nav ?_) <;> try dsimp only)
   exact ret_cs (k := 5) 2 (by kernel_rfl) (Tryz.results44) rfl rfl rfl (Nat.le_of_ble_eq_true rfl) (by decide) rfl rfl
 · rw [hv] at hb12; simp at hb12
set_option maxHeartbeats 1000000 in
theorem aStar_g (a : Aut) (hv : autOk a = true) {p0 p1 p2 p3 p4 : PV} {E : Int} (r5 : R5 p0 p1 p2 p3 p4) (hr : AF Tryz.prog 83 [pAut (mkA (starA a))] (· = .tup [.agg [p0, p1, p2, p3, p4], pInt E])) : AF Tryz.prog 44 [pAut a] (· = .tup [.agg [p0, p1, p2, p3, p4], pInt E]) := by
 obtain ⟨o0, o1, o2, o3, o4⟩ := r5.o
 have h := vok_of hv
 have hn0 := h.n0
 have hn1 := h.n1
 have hml := h.ml
 have hsl := h.sl
 have hfl := h.fl
 refine AF.of_body 64 Tryz.func44 rfl Tryz.ntmps44 (Nat.le_of_ble_eq_true rfl) ?_
 intro w0 M0 vs hl hv
 obtain ⟨v0, rfl⟩ := len1 hl
 clear hl hv
 refine nav ?_
 (refine aC_region ?_ <;> refine s_boxa 1 5 fun h1 => ?_ <;> refine s_alloc [(.int .i64 0), (.int .i64 0), (.slice none 0 0), (.slice none 0 0), (.slice none 0 0)] 5 2 tZr25_LfD fun h2 => ?_ <;> refine xL 3 q_assign ?_ <;> refine aL_end (nav ?_) <;> try dsimp only)
 (refine aC_region ?_ <;> (refine yL 10 (q_ldao 1 tAgg25_LdS) fun v10 hv10 => ?_; cases hv10) <;> (refine cS 11 (cA Tryz.call24 (aValid_e a)) fun v11 hv11 => ?_; cases hv11) <;> refine xL 12 q_not ?_ <;> refine aL_end (nav ?_) <;> try dsimp only)
 (first | refine cCd ?_ ?_ | refine cC ?_ ?_) <;> intro hb12
 · rw [hv] at hb12; simp at hb12
 · refine nav ?_
   (refine aC_region ?_ <;> refine xL 14 (q_fldo 1 tFl25_0_LdI) ?_ <;> (refine yL 15 (q_ldo 1 tNa3_LbB) fun v15 hv15 => ?_; cases hv15) <;> refine xL 4 q_assign ?_ <;> refine aL_end (nav ?_) <;> try dsimp only)
   refine aC_mid (fun x : { x : Value × Value // x.1.oneCell' = true } => ⟨[(1, padd (sbase h1) 0, .val (padd (sbase h1) 0)), (2, padd (sbase h2) 0, .val (padd (sbase h2) 0)), (4, .int .i64 a.n, pInt a.n), (5, padd (sbase x.1.2) 0, .val (padd (sbase x.1.2) 0))], [(1, h1, .own 25 5 1 [pInt a.n, pInt a.syms, pInts a.start, pInts a.fin, pMvs a.moves]), (2, h2, .own 25 5 1 [pInt 0, pInt 0, .val (.slice none 0 0), .val (.slice none 0 0), .val (.slice none 0 0)]), (5, x.1.2, .own 25 5 1 [pInt (a.n + 1), pInt a.syms, pInts [a.n], pInts [a.n], .val x.1.1]), (26, x.1.1, .own 72 3 a.moves.length (a.moves.flatMap cMv))]⟩) ?_ ?_
   · (refine aC_draw (fun i => ([] : List Nat).elem i) [1] (by kernel_rfl) ?_ <;> refine xD 0 16 rfl q_move ?_ <;> refine xD 1 17 rfl q_add ?_ <;> refine xD 2 18 rfl (q_fldo 1 tFl25_1_LdI) ?_ <;> (refine yD 3 19 rfl (q_ldo 1 tNa3_LbB) fun v19 hv19 => ?_; cases hv19) <;> refine xD 4 20 rfl q_move ?_ <;> refine xD 6 22 rfl q_move ?_ <;> refine xD 8 24 rfl (q_fldo 1 tFl25_4_LdI) ?_ <;> (refine yD 9 25 rfl (q_ldo 1 tNa23_LdI) fun v25 hv25 => ?_; cases hv25) <;> (refine aD_four 5 7 10 12 (by kernel_rfl) ?_ ?_ ?_ ?_; rotate_right; (focus ((refine aW_run rfl fun w9 M9 N9 DQ back => ?_) <;> refine s_alloc [(.int .i64 0), (.int .i64 0), (.slice none 0 0), (.slice none 0 0), (.slice none 0 0)] 5 5 tZr25_LfD fun h5 => ?_ <;> refine aL_end (back _ (nrm ?_)) <;> (refine aD_three 5 7 10 (by kernel_rfl) ?_ ?_ ?_; rotate_right; (focus ((refine aW_run rfl fun w9 M9 N9 DQ back => ?_) <;> refine cO 26 (cA Tryz.call96 (cloneMv_e a.moves (by omega))) fun v26 ho26 => ?_ <;> refine aL_end (back _ (nrm ?_)) <;> (refine aD_two 5 7 (by kernel_rfl) ?_ ?_; rotate_right; (focus ((refine aW_run rfl fun w9 M9 N9 DQ back => ?_) <;> (refine s_lit1 (kk := 1) 23 tEl22_LdI fun h23 ho23 => ?_; refine aL_ent (En.freeze (l := 23) (t := 23) rfl rfl) fun _ => ?_; rw [show share (PV.own 3 1 1 [PV.val (.int .i64 a.n)]) = pInts [a.n] from rfl]) <;> refine aL_end (back _ (nrm ?_)) <;> (refine aD_one 5 (by kernel_rfl) ?_) <;> (refine aW_run rfl fun w9 M9 N9 DQ back => ?_) <;> (refine s_lit1 (kk := 1) 21 tEl22_LdI fun h21 ho21 => ?_; refine aL_ent (En.freeze (l := 21) (t := 21) rfl rfl) fun _ => ?_; rw [show share (PV.own 3 1 1 [PV.val (.int .i64 a.n)]) = pInts [a.n] from rfl]) <;> refine aL_end (back _ (nrm ?_)) <;> refine xE 11 27 rfl (q_build tSt25_LfD) ?_ <;> (refine aD_one 13 (by kernel_rfl) ?_) <;> (refine aW_run rfl fun w9 M9 N9 DQ back => ?_) <;> (refine s_sta 5 (m := 5) (by kernel_rfl) ?_ (h1 := by show (List.all [pInt (a.n + 1), pInt a.syms, pInts [a.n], pInts [a.n], PV.val v26] En.one) = true; simp only [List.all_cons, List.all_nil, Bool.and_true, Bool.and_eq_true]; exact ⟨rfl, rfl, rfl, rfl, ho26⟩)) <;> refine aL_end (back _ (nrm ?_)))); rotate_right; (focus ((refine aW_run rfl fun w9 M9 N9 DQ back => ?_) <;> (refine s_lit1 (kk := 1) 21 tEl22_LdI fun h21 ho21 => ?_; refine aL_ent (En.freeze (l := 21) (t := 21) rfl rfl) fun _ => ?_; rw [show share (PV.own 3 1 1 [PV.val (.int .i64 a.n)]) = pInts [a.n] from rfl]) <;> refine aL_end (back _ (nrm ?_)) <;> (refine aD_one 7 (by kernel_rfl) ?_) <;> (refine aW_run rfl fun w9 M9 N9 DQ back => ?_) <;> (refine s_lit1 (kk := 1) 23 tEl22_LdI fun h23 ho23 => ?_; refine aL_ent (En.freeze (l := 23) (t := 23) rfl rfl) fun _ => ?_; rw [show share (PV.own 3 1 1 [PV.val (.int .i64 a.n)]) = pInts [a.n] from rfl]) <;> refine aL_end (back _ (nrm ?_)) <;> refine xE 11 27 rfl (q_build tSt25_LfD) ?_ <;> (refine aD_one 13 (by kernel_rfl) ?_) <;> (refine aW_run rfl fun w9 M9 N9 DQ back => ?_) <;> (refine s_sta 5 (m := 5) (by kernel_rfl) ?_ (h1 := by show (List.all [pInt (a.n + 1), pInt a.syms, pInts [a.n], pInts [a.n], PV.val v26] En.one) = true; simp only [List.all_cons, List.all_nil, Bool.and_true, Bool.and_eq_true]; exact ⟨rfl, rfl, rfl, rfl, ho26⟩)) <;> refine aL_end (back _ (nrm ?_))))))); rotate_right; (focus ((refine aW_run rfl fun w9 M9 N9 DQ back => ?_) <;> (refine s_lit1 (kk := 1) 23 tEl22_LdI fun h23 ho23 => ?_; refine aL_ent (En.freeze (l := 23) (t := 23) rfl rfl) fun _ => ?_; rw [show share (PV.own 3 1 1 [PV.val (.int .i64 a.n)]) = pInts [a.n] from rfl]) <;> refine aL_end (back _ (nrm ?_)) <;> (refine aD_two 5 10 (by kernel_rfl) ?_ ?_; rotate_right; (focus ((refine aW_run rfl fun w9 M9 N9 DQ back => ?_) <;> refine cO 26 (cA Tryz.call96 (cloneMv_e a.moves (by omega))) fun v26 ho26 => ?_ <;> refine aL_end (back _ (nrm ?_)) <;> (refine aD_one 5 (by kernel_rfl) ?_) <;> (refine aW_run rfl fun w9 M9 N9 DQ back => ?_) <;> (refine s_lit1 (kk := 1) 21 tEl22_LdI fun h21 ho21 => ?_; refine aL_ent (En.freeze (l := 21) (t := 21) rfl rfl) fun _ => ?_; rw [show share (PV.own 3 1 1 [PV.val (.int .i64 a.n)]) = pInts [a.n] from rfl]) <;> refine aL_end (back _ (nrm ?_)) <;> refine xE 11 27 rfl (q_build tSt25_LfD) ?_ <;> (refine aD_one 13 (by kernel_rfl) ?_) <;> (refine aW_run rfl fun w9 M9 N9 DQ back => ?_) <;> (refine s_sta 5 (m := 5) (by kernel_rfl) ?_ (h1 := by show (List.all [pInt (a.n + 1), pInt a.syms, pInts [a.n], pInts [a.n], PV.val v26] En.one) = true; simp only [List.all_cons, List.all_nil, Bool.and_true, Bool.and_eq_true]; exact ⟨rfl, rfl, rfl, rfl, ho26⟩)) <;> refine aL_end (back _ (nrm ?_)))); rotate_right; (focus ((refine aW_run rfl fun w9 M9 N9 DQ back => ?_) <;> (refine s_lit1 (kk := 1) 21 tEl22_LdI fun h21 ho21 => ?_; refine aL_ent (En.freeze (l := 21) (t := 21) rfl rfl) fun _ => ?_; rw [show share (PV.own 3 1 1 [PV.val (.int .i64 a.n)]) = pInts [a.n] from rfl]) <;> refine aL_end (back _ (nrm ?_)) <;> (refine aD_one 10 (by kernel_rfl) ?_) <;> (refine aW_run rfl fun w9 M9 N9 DQ back => ?_) <;> refine cO 26 (cA Tryz.call96 (cloneMv_e a.moves (by omega))) fun v26 ho26 => ?_ <;> refine aL_end (back _ (nrm ?_)) <;> refine xE 11 27 rfl (q_build tSt25_LfD) ?_ <;> (refine aD_one 13 (by kernel_rfl) ?_) <;> (refine aW_run rfl fun w9 M9 N9 DQ back => ?_) <;> (refine s_sta 5 (m := 5) (by kernel_rfl) ?_ (h1 := by show (List.all [pInt (a.n + 1), pInt a.syms, pInts [a.n], pInts [a.n], PV.val v26] En.one) = true; simp only [List.all_cons, List.all_nil, Bool.and_true, Bool.and_eq_true]; exact ⟨rfl, rfl, rfl, rfl, ho26⟩)) <;> refine aL_end (back _ (nrm ?_))))))); rotate_right; (focus ((refine aW_run rfl fun w9 M9 N9 DQ back => ?_) <;> (refine s_lit1 (kk := 1) 21 tEl22_LdI fun h21 ho21 => ?_; refine aL_ent (En.freeze (l := 21) (t := 21) rfl rfl) fun _ => ?_; rw [show share (PV.own 3 1 1 [PV.val (.int .i64 a.n)]) = pInts [a.n] from rfl]) <;> refine aL_end (back _ (nrm ?_)) <;> (refine aD_two 7 10 (by kernel_rfl) ?_ ?_; rotate_right; (focus ((refine aW_run rfl fun w9 M9 N9 DQ back => ?_) <;> refine cO 26 (cA Tryz.call96 (cloneMv_e a.moves (by omega))) fun v26 ho26 => ?_ <;> refine aL_end (back _ (nrm ?_)) <;> (refine aD_one 7 (by kernel_rfl) ?_) <;> (refine aW_run rfl fun w9 M9 N9 DQ back => ?_) <;> (refine s_lit1 (kk := 1) 23 tEl22_LdI fun h23 ho23 => ?_; refine aL_ent (En.freeze (l := 23) (t := 23) rfl rfl) fun _ => ?_; rw [show share (PV.own 3 1 1 [PV.val (.int .i64 a.n)]) = pInts [a.n] from rfl]) <;> refine aL_end (back _ (nrm ?_)) <;> refine xE 11 27 rfl (q_build tSt25_LfD) ?_ <;> (refine aD_one 13 (by kernel_rfl) ?_) <;> (refine aW_run rfl fun w9 M9 N9 DQ back => ?_) <;> (refine s_sta 5 (m := 5) (by kernel_rfl) ?_ (h1 := by show (List.all [pInt (a.n + 1), pInt a.syms, pInts [a.n], pInts [a.n], PV.val v26] En.one) = true; simp only [List.all_cons, List.all_nil, Bool.and_true, Bool.and_eq_true]; exact ⟨rfl, rfl, rfl, rfl, ho26⟩)) <;> refine aL_end (back _ (nrm ?_)))); rotate_right; (focus ((refine aW_run rfl fun w9 M9 N9 DQ back => ?_) <;> (refine s_lit1 (kk := 1) 23 tEl22_LdI fun h23 ho23 => ?_; refine aL_ent (En.freeze (l := 23) (t := 23) rfl rfl) fun _ => ?_; rw [show share (PV.own 3 1 1 [PV.val (.int .i64 a.n)]) = pInts [a.n] from rfl]) <;> refine aL_end (back _ (nrm ?_)) <;> (refine aD_one 10 (by kernel_rfl) ?_) <;> (refine aW_run rfl fun w9 M9 N9 DQ back => ?_) <;> refine cO 26 (cA Tryz.call96 (cloneMv_e a.moves (by omega))) fun v26 ho26 => ?_ <;> refine aL_end (back _ (nrm ?_)) <;> refine xE 11 27 rfl (q_build tSt25_LfD) ?_ <;> (refine aD_one 13 (by kernel_rfl) ?_) <;> (refine aW_run rfl fun w9 M9 N9 DQ back => ?_) <;> (refine s_sta 5 (m := 5) (by kernel_rfl) ?_ (h1 := by show (List.all [pInt (a.n + 1), pInt a.syms, pInts [a.n], pInts [a.n], PV.val v26] En.one) = true; simp only [List.all_cons, List.all_nil, Bool.and_true, Bool.and_eq_true]; exact ⟨rfl, rfl, rfl, rfl, ho26⟩)) <;> refine aL_end (back _ (nrm ?_)))))))))); rotate_right; (focus ((refine aW_run rfl fun w9 M9 N9 DQ back => ?_) <;> refine cO 26 (cA Tryz.call96 (cloneMv_e a.moves (by omega))) fun v26 ho26 => ?_ <;> refine aL_end (back _ (nrm ?_)) <;> (refine aD_three 5 7 12 (by kernel_rfl) ?_ ?_ ?_; rotate_right; (focus ((refine aW_run rfl fun w9 M9 N9 DQ back => ?_) <;> refine s_alloc [(.int .i64 0), (.int .i64 0), (.slice none 0 0), (.slice none 0 0), (.slice none 0 0)] 5 5 tZr25_LfD fun h5 => ?_ <;> refine aL_end (back _ (nrm ?_)) <;> (refine aD_two 5 7 (by kernel_rfl) ?_ ?_; rotate_right; (focus ((refine aW_run rfl fun w9 M9 N9 DQ back => ?_) <;> (refine s_lit1 (kk := 1) 23 tEl22_LdI fun h23 ho23 => ?_; refine aL_ent (En.freeze (l := 23) (t := 23) rfl rfl) fun _ => ?_; rw [show share (PV.own 3 1 1 [PV.val (.int .i64 a.n)]) = pInts [a.n] from rfl]) <;> refine aL_end (back _ (nrm ?_)) <;> (refine aD_one 5 (by kernel_rfl) ?_) <;> (refine aW_run rfl fun w9 M9 N9 DQ back => ?_) <;> (refine s_lit1 (kk := 1) 21 tEl22_LdI fun h21 ho21 => ?_; refine aL_ent (En.freeze (l := 21) (t := 21) rfl rfl) fun _ => ?_; rw [show share (PV.own 3 1 1 [PV.val (.int .i64 a.n)]) = pInts [a.n] from rfl]) <;> refine aL_end (back _ (nrm ?_)) <;> refine xE 11 27 rfl (q_build tSt25_LfD) ?_ <;> (refine aD_one 13 (by kernel_rfl) ?_) <;> (refine aW_run rfl fun w9 M9 N9 DQ back => ?_) <;> (refine s_sta 5 (m := 5) (by kernel_rfl) ?_ (h1 := by show (List.all [pInt (a.n + 1), pInt a.syms, pInts [a.n], pInts [a.n], PV.val v26] En.one) = true; simp only [List.all_cons, List.all_nil, Bool.and_true, Bool.and_eq_true]; exact ⟨rfl, rfl, rfl, rfl, ho26⟩)) <;> refine aL_end (back _ (nrm ?_)))); rotate_right; (focus ((refine aW_run rfl fun w9 M9 N9 DQ back => ?_) <;> (refine s_lit1 (kk := 1) 21 tEl22_LdI fun h21 ho21 => ?_; refine aL_ent (En.freeze (l := 21) (t := 21) rfl rfl) fun _ => ?_; rw [show share (PV.own 3 1 1 [PV.val (.int .i64 a.n)]) = pInts [a.n] from rfl]) <;> refine aL_end (back _ (nrm ?_)) <;> (refine aD_one 7 (by kernel_rfl) ?_) <;> (refine aW_run rfl fun w9 M9 N9 DQ back => ?_) <;> (refine s_lit1 (kk := 1) 23 tEl22_LdI fun h23 ho23 => ?_; refine aL_ent (En.freeze (l := 23) (t := 23) rfl rfl) fun _ => ?_; rw [show share (PV.own 3 1 1 [PV.val (.int .i64 a.n)]) = pInts [a.n] from rfl]) <;> refine aL_end (back _ (nrm ?_)) <;> refine xE 11 27 rfl (q_build tSt25_LfD) ?_ <;> (refine aD_one 13 (by kernel_rfl) ?_) <;> (refine aW_run rfl fun w9 M9 N9 DQ back => ?_) <;> (refine s_sta 5 (m := 5) (by kernel_rfl) ?_ (h1 := by show (List.all [pInt (a.n + 1), pInt a.syms, pInts [a.n], pInts [a.n], PV.val v26] En.one) = true; simp only [List.all_cons, List.all_nil, Bool.and_true, Bool.and_eq_true]; exact ⟨rfl, rfl, rfl, rfl, ho26⟩)) <;> refine aL_end (back _ (nrm ?_))))))); rotate_right; (focus ((refine aW_run rfl fun w9 M9 N9 DQ back => ?_) <;> (refine s_lit1 (kk := 1) 23 tEl22_LdI fun h23 ho23 => ?_; refine aL_ent (En.freeze (l := 23) (t := 23) rfl rfl) fun _ => ?_; rw [show share (PV.own 3 1 1 [PV.val (.int .i64 a.n)]) = pInts [a.n] from rfl]) <;> refine aL_end (back _ (nrm ?_)) <;> (refine aD_two 5 12 (by kernel_rfl) ?_ ?_; rotate_right; (focus ((refine aW_run rfl fun w9 M9 N9 DQ back => ?_) <;> refine s_alloc [(.int .i64 0), (.int .i64 0), (.slice none 0 0), (.slice none 0 0), (.slice none 0 0)] 5 5 tZr25_LfD fun h5 => ?_ <;> refine aL_end (back _ (nrm ?_)) <;> (refine aD_one 5 (by kernel_rfl) ?_) <;> (refine aW_run rfl fun w9 M9 N9 DQ back => ?_) <;> (refine s_lit1 (kk := 1) 21 tEl22_LdI fun h21 ho21 => ?_; refine aL_ent (En.freeze (l := 21) (t := 21) rfl rfl) fun _ => ?_; rw [show share (PV.own 3 1 1 [PV.val (.int .i64 a.n)]) = pInts [a.n] from rfl]) <;> refine aL_end (back _ (nrm ?_)) <;> refine xE 11 27 rfl (q_build tSt25_LfD) ?_ <;> (refine aD_one 13 (by kernel_rfl) ?_) <;> (refine aW_run rfl fun w9 M9 N9 DQ back => ?_) <;> (refine s_sta 5 (m := 5) (by kernel_rfl) ?_ (h1 := by show (List.all [pInt (a.n + 1), pInt a.syms, pInts [a.n], pInts [a.n], PV.val v26] En.one) = true; simp only [List.all_cons, List.all_nil, Bool.and_true, Bool.and_eq_true]; exact ⟨rfl, rfl, rfl, rfl, ho26⟩)) <;> refine aL_end (back _ (nrm ?_)))); rotate_right; (focus ((refine aW_run rfl fun w9 M9 N9 DQ back => ?_) <;> (refine s_lit1 (kk := 1) 21 tEl22_LdI fun h21 ho21 => ?_; refine aL_ent (En.freeze (l := 21) (t := 21) rfl rfl) fun _ => ?_; rw [show share (PV.own 3 1 1 [PV.val (.int .i64 a.n)]) = pInts [a.n] from rfl]) <;> refine aL_end (back _ (nrm ?_)) <;> refine xD 11 27 rfl (q_build tSt25_LfD) ?_ <;> (refine aD_one 12 (by kernel_rfl) ?_) <;> (refine aW_run rfl fun w9 M9 N9 DQ back => ?_) <;> refine s_alloc [(.int .i64 0), (.int .i64 0), (.slice none 0 0), (.slice none 0 0), (.slice none 0 0)] 5 5 tZr25_LfD fun h5 => ?_ <;> refine aL_end (back _ (nrm ?_)) <;> (refine aD_one 13 (by kernel_rfl) ?_) <;> (refine aW_run rfl fun w9 M9 N9 DQ back => ?_) <;> (refine s_sta 5 (m := 5) (by kernel_rfl) ?_ (h1 := by show (List.all [pInt (a.n + 1), pInt a.syms, pInts [a.n], pInts [a.n], PV.val v26] En.one) = true; simp only [List.all_cons, List.all_nil, Bool.and_true, Bool.and_eq_true]; exact ⟨rfl, rfl, rfl, rfl, ho26⟩)) <;> refine aL_end (back _ (nrm ?_))))))); rotate_right; (focus ((refine aW_run rfl fun w9 M9 N9 DQ back => ?_) <;> (refine s_lit1 (kk := 1) 21 tEl22_LdI fun h21 ho21 => ?_; refine aL_ent (En.freeze (l := 21) (t := 21) rfl rfl) fun _ => ?_; rw [show share (PV.own 3 1 1 [PV.val (.int .i64 a.n)]) = pInts [a.n] from rfl]) <;> refine aL_end (back _ (nrm ?_)) <;> (refine aD_two 7 12 (by kernel_rfl) ?_ ?_; rotate_right; (focus ((refine aW_run rfl fun w9 M9 N9 DQ back => ?_) <;> refine s_alloc [(.int .i64 0), (.int .i64 0), (.slice none 0 0), (.slice none 0 0), (.slice none 0 0)] 5 5 tZr25_LfD fun h5 => ?_ <;> refine aL_end (back _ (nrm ?_)) <;> (refine aD_one 7 (by kernel_rfl) ?_) <;> (refine aW_run rfl fun w9 M9 N9 DQ back => ?_) <;> (refine s_lit1 (kk := 1) 23 tEl22_LdI fun h23 ho23 => ?_; refine aL_ent (En.freeze (l := 23) (t := 23) rfl rfl) fun _ => ?_; rw [show share (PV.own 3 1 1 [PV.val (.int .i64 a.n)]) = pInts [a.n] from rfl]) <;> refine aL_end (back _ (nrm ?_)) <;> refine xE 11 27 rfl (q_build tSt25_LfD) ?_ <;> (refine aD_one 13 (by kernel_rfl) ?_) <;> (refine aW_run rfl fun w9 M9 N9 DQ back => ?_) <;> (refine s_sta 5 (m := 5) (by kernel_rfl) ?_ (h1 := by show (List.all [pInt (a.n + 1), pInt a.syms, pInts [a.n], pInts [a.n], PV.val v26] En.one) = true; simp only [List.all_cons, List.all_nil, Bool.and_true, Bool.and_eq_true]; exact ⟨rfl, rfl, rfl, rfl, ho26⟩)) <;> refine aL_end (back _ (nrm ?_)))); rotate_right; (focus ((refine aW_run rfl fun w9 M9 N9 DQ back => ?_) <;> (refine s_lit1 (kk := 1) 23 tEl22_LdI fun h23 ho23 => ?_; refine aL_ent (En.freeze (l := 23) (t := 23) rfl rfl) fun _ => ?_; rw [show share (PV.own 3 1 1 [PV.val (.int .i64 a.n)]) = pInts [a.n] from rfl]) <;> refine aL_end (back _ (nrm ?_)) <;> refine xD 11 27 rfl (q_build tSt25_LfD) ?_ <;> (refine aD_one 12 (by kernel_rfl) ?_) <;> (refine aW_run rfl fun w9 M9 N9 DQ back => ?_) <;> refine s_alloc [(.int .i64 0), (.int .i64 0), (.slice none 0 0), (.slice none 0 0), (.slice none 0 0)] 5 5 tZr25_LfD fun h5 => ?_ <;> refine aL_end (back _ (nrm ?_)) <;> (refine aD_one 13 (by kernel_rfl) ?_) <;> (refine aW_run rfl fun w9 M9 N9 DQ back => ?_) <;> (refine s_sta 5 (m := 5) (by kernel_rfl) ?_ (h1 := by show (List.all [pInt (a.n + 1), pInt a.syms, pInts [a.n], pInts [a.n], PV.val v26] En.one) = true; simp only [List.all_cons, List.all_nil, Bool.and_true, Bool.and_eq_true]; exact ⟨rfl, rfl, rfl, rfl, ho26⟩)) <;> refine aL_end (back _ (nrm ?_)))))))))); rotate_right; (focus ((refine aW_run rfl fun w9 M9 N9 DQ back => ?_) <;> (refine s_lit1 (kk := 1) 23 tEl22_LdI fun h23 ho23 => ?_; refine aL_ent (En.freeze (l := 23) (t := 23) rfl rfl) fun _ => ?_; rw [show share (PV.own 3 1 1 [PV.val (.int .i64 a.n)]) = pInts [a.n] from rfl]) <;> refine aL_end (back _ (nrm ?_)) <;> (refine aD_three 5 10 12 (by kernel_rfl) ?_ ?_ ?_; rotate_right; (focus ((refine aW_run rfl fun w9 M9 N9 DQ back => ?_) <;> refine s_alloc [(.int .i64 0), (.int .i64 0), (.slice none 0 0), (.slice none 0 0), (.slice none 0 0)] 5 5 tZr25_LfD fun h5 => ?_ <;> refine aL_end (back _ (nrm ?_)) <;> (refine aD_two 5 10 (by kernel_rfl) ?_ ?_; rotate_right; (focus ((refine aW_run rfl fun w9 M9 N9 DQ back => ?_) <;> refine cO 26 (cA Tryz.call96 (cloneMv_e a.moves (by omega))) fun v26 ho26 => ?_ <;> refine aL_end (back _ (nrm ?_)) <;> (refine aD_one 5 (by kernel_rfl) ?_) <;> (refine aW_run rfl fun w9 M9 N9 DQ back => ?_) <;> (refine s_lit1 (kk := 1) 21 tEl22_LdI fun h21 ho21 => ?_; refine aL_ent (En.freeze (l := 21) (t := 21) rfl rfl) fun _ => ?_; rw [show share (PV.own 3 1 1 [PV.val (.int .i64 a.n)]) = pInts [a.n] from rfl]) <;> refine aL_end (back _ (nrm ?_)) <;> refine xE 11 27 rfl (q_build tSt25_LfD) ?_ <;> (refine aD_one 13 (by kernel_rfl) ?_) <;> (refine aW_run rfl fun w9 M9 N9 DQ back => ?_) <;> (refine s_sta 5 (m := 5) (by kernel_rfl) ?_ (h1 := by show (List.all [pInt (a.n + 1), pInt a.syms, pInts [a.n], pInts [a.n], PV.val v26] En.one) = true; simp only [List.all_cons, List.all_nil, Bool.and_true, Bool.and_eq_true]; exact ⟨rfl, rfl, rfl, rfl, ho26⟩)) <;> refine aL_end (back _ (nrm ?_)))); rotate_right; (focus ((refine aW_run rfl fun w9 M9 N9 DQ back => ?_) <;> (refine s_lit1 (kk := 1) 21 tEl22_LdI fun h21 ho21 => ?_; refine aL_ent (En.freeze (l := 21) (t := 21) rfl rfl) fun _ => ?_; rw [show share (PV.own 3 1 1 [PV.val (.int .i64 a.n)]) = pInts [a.n] from rfl]) <;> refine aL_end (back _ (nrm ?_)) <;> (refine aD_one 10 (by kernel_rfl) ?_) <;> (refine aW_run rfl fun w9 M9 N9 DQ back => ?_) <;> refine cO 26 (cA Tryz.call96 (cloneMv_e a.moves (by omega))) fun v26 ho26 => ?_ <;> refine aL_end (back _ (nrm ?_)) <;> refine xE 11 27 rfl (q_build tSt25_LfD) ?_ <;> (refine aD_one 13 (by kernel_rfl) ?_) <;> (refine aW_run rfl fun w9 M9 N9 DQ back => ?_) <;> (refine s_sta 5 (m := 5) (by kernel_rfl) ?_ (h1 := by show (List.all [pInt (a.n + 1), pInt a.syms, pInts [a.n], pInts [a.n], PV.val v26] En.one) = true; simp only [List.all_cons, List.all_nil, Bool.and_true, Bool.and_eq_true]; exact ⟨rfl, rfl, rfl, rfl, ho26⟩)) <;> refine aL_end (back _ (nrm ?_))))))); rotate_right; (focus ((refine aW_run rfl fun w9 M9 N9 DQ back => ?_) <;> refine cO 26 (cA Tryz.call96 (cloneMv_e a.moves (by omega))) fun v26 ho26 => ?_ <;> refine aL_end (back _ (nrm ?_)) <;> (refine aD_two 5 12 (by kernel_rfl) ?_ ?_; rotate_right; (focus ((refine aW_run rfl fun w9 M9 N9 DQ back => ?_) <;> refine s_alloc [(.int .i64 0), (.int .i64 0), (.slice none 0 0), (.slice none 0 0), (.slice none 0 0)] 5 5 tZr25_LfD fun h5 => ?_ <;> refine aL_end (back _ (nrm ?_)) <;> (refine aD_one 5 (by kernel_rfl) ?_) <;> (refine aW_run rfl fun w9 M9 N9 DQ back => ?_) <;> (refine s_lit1 (kk := 1) 21 tEl22_LdI fun h21 ho21 => ?_; refine aL_ent (En.freeze (l := 21) (t := 21) rfl rfl) fun _ => ?_; rw [show share (PV.own 3 1 1 [PV.val (.int .i64 a.n)]) = pInts [a.n] from rfl]) <;> refine aL_end (back _ (nrm ?_)) <;> refine xE 11 27 rfl (q_build tSt25_LfD) ?_ <;> (refine aD_one 13 (by kernel_rfl) ?_) <;> (refine aW_run rfl fun w9 M9 N9 DQ back => ?_) <;> (refine s_sta 5 (m := 5) (by kernel_rfl) ?_ (h1 := by show (List.all [pInt (a.n + 1), pInt a.syms, pInts [a.n], pInts [a.n], PV.val v26] En.one) = true; simp only [List.all_cons, List.all_nil, Bool.and_true, Bool.and_eq_true]; exact ⟨rfl, rfl, rfl, rfl, ho26⟩)) <;> refine aL_end (back _ (nrm ?_)))); rotate_right; (focus ((refine aW_run rfl fun w9 M9 N9 DQ back => ?_) <;> (refine s_lit1 (kk := 1) 21 tEl22_LdI fun h21 ho21 => ?_; refine aL_ent (En.freeze (l := 21) (t := 21) rfl rfl) fun _ => ?_; rw [show share (PV.own 3 1 1 [PV.val (.int .i64 a.n)]) = pInts [a.n] from rfl]) <;> refine aL_end (back _ (nrm ?_)) <;> refine xD 11 27 rfl (q_build tSt25_LfD) ?_ <;> (refine aD_one 12 (by kernel_rfl) ?_) <;> (refine aW_run rfl fun w9 M9 N9 DQ back => ?_) <;> refine s_alloc [(.int .i64 0), (.int .i64 0), (.slice none 0 0), (.slice none 0 0), (.slice none 0 0)] 5 5 tZr25_LfD fun h5 => ?_ <;> refine aL_end (back _ (nrm ?_)) <;> (refine aD_one 13 (by kernel_rfl) ?_) <;> (refine aW_run rfl fun w9 M9 N9 DQ back => ?_) <;> (refine s_sta 5 (m := 5) (by kernel_rfl) ?_ (h1 := by show (List.all [pInt (a.n + 1), pInt a.syms, pInts [a.n], pInts [a.n], PV.val v26] En.one) = true; simp only [List.all_cons, List.all_nil, Bool.and_true, Bool.and_eq_true]; exact ⟨rfl, rfl, rfl, rfl, ho26⟩)) <;> refine aL_end (back _ (nrm ?_))))))); rotate_right; (focus ((refine aW_run rfl fun w9 M9 N9 DQ back => ?_) <;> (refine s_lit1 (kk := 1) 21 tEl22_LdI fun h21 ho21 => ?_; refine aL_ent (En.freeze (l := 21) (t := 21) rfl rfl) fun _ => ?_; rw [show share (PV.own 3 1 1 [PV.val (.int .i64 a.n)]) = pInts [a.n] from rfl]) <;> refine aL_end (back _ (nrm ?_)) <;> (refine aD_two 10 12 (by kernel_rfl) ?_ ?_; rotate_right; (focus ((refine aW_run rfl fun w9 M9 N9 DQ back => ?_) <;> refine s_alloc [(.int .i64 0), (.int .i64 0), (.slice none 0 0), (.slice none 0 0), (.slice none 0 0)] 5 5 tZr25_LfD fun h5 => ?_ <;> refine aL_end (back _ (nrm ?_)) <;> (refine aD_one 10 (by kernel_rfl) ?_) <;> (refine aW_run rfl fun w9 M9 N9 DQ back => ?_) <;> refine cO 26 (cA Tryz.call96 (cloneMv_e a.moves (by omega))) fun v26 ho26 => ?_ <;> refine aL_end (back _ (nrm ?_)) <;> refine xE 11 27 rfl (q_build tSt25_LfD) ?_ <;> (refine aD_one 13 (by kernel_rfl) ?_) <;> (refine aW_run rfl fun w9 M9 N9 DQ back => ?_) <;> (refine s_sta 5 (m := 5) (by kernel_rfl) ?_ (h1 := by show (List.all [pInt (a.n + 1), pInt a.syms, pInts [a.n], pInts [a.n], PV.val v26] En.one) = true; simp only [List.all_cons, List.all_nil, Bool.and_true, Bool.and_eq_true]; exact ⟨rfl, rfl, rfl, rfl, ho26⟩)) <;> refine aL_end (back _ (nrm ?_)))); rotate_right; (focus ((refine aW_run rfl fun w9 M9 N9 DQ back => ?_) <;> refine cO 26 (cA Tryz.call96 (cloneMv_e a.moves (by omega))) fun v26 ho26 => ?_ <;> refine aL_end (back _ (nrm ?_)) <;> refine xD 11 27 rfl (q_build tSt25_LfD) ?_ <;> (refine aD_one 12 (by kernel_rfl) ?_) <;> (refine aW_run rfl fun w9 M9 N9 DQ back => ?_) <;> refine s_alloc [(.int .i64 0), (.int .i64 0), (.slice none 0 0), (.slice none 0 0), (.slice none 0 0)] 5 5 tZr25_LfD fun h5 => ?_ <;> refine aL_end (back _ (nrm ?_)) <;> (refine aD_one 13 (by kernel_rfl) ?_) <;> (refine aW_run rfl fun w9 M9 N9 DQ back => ?_) <;> (refine s_sta 5 (m := 5) (by kernel_rfl) ?_ (h1 := by show (List.all [pInt (a.n + 1), pInt a.syms, pInts [a.n], pInts [a.n], PV.val v26] En.one) = true; simp only [List.all_cons, List.all_nil, Bool.and_true, Bool.and_eq_true]; exact ⟨rfl, rfl, rfl, rfl, ho26⟩)) <;> refine aL_end (back _ (nrm ?_)))))))))); rotate_right; (focus ((refine aW_run rfl fun w9 M9 N9 DQ back => ?_) <;> (refine s_lit1 (kk := 1) 21 tEl22_LdI fun h21 ho21 => ?_; refine aL_ent (En.freeze (l := 21) (t := 21) rfl rfl) fun _ => ?_; rw [show share (PV.own 3 1 1 [PV.val (.int .i64 a.n)]) = pInts [a.n] from rfl]) <;> refine aL_end (back _ (nrm ?_)) <;> (refine aD_three 7 10 12 (by kernel_rfl) ?_ ?_ ?_; rotate_right; (focus ((refine aW_run rfl fun w9 M9 N9 DQ back => ?_) <;> refine s_alloc [(.int .i64 0), (.int .i64 0), (.slice none 0 0), (.slice none 0 0), (.slice none 0 0)] 5 5 tZr25_LfD fun h5 => ?_ <;> refine aL_end (back _ (nrm ?_)) <;> (refine aD_two 7 10 (by kernel_rfl) ?_ ?_; rotate_right; (focus ((refine aW_run rfl fun w9 M9 N9 DQ back => ?_) <;> refine cO 26 (cA Tryz.call96 (cloneMv_e a.moves (by omega))) fun v26 ho26 => ?_ <;> refine aL_end (back _ (nrm ?_)) <;> (refine aD_one 7 (by kernel_rfl) ?_) <;> (refine aW_run rfl fun w9 M9 N9 DQ back => ?_) <;> (refine s_lit1 (kk := 1) 23 tEl22_LdI fun h23 ho23 => ?_; refine aL_ent (En.freeze (l := 23) (t := 23) rfl rfl) fun _ => ?_; rw [show share (PV.own 3 1 1 [PV.val (.int .i64 a.n)]) = pInts [a.n] from rfl]) <;> refine aL_end (back _ (nrm ?_)) <;> refine xE 11 27 rfl (q_build tSt25_LfD) ?_ <;> (refine aD_one 13 (by kernel_rfl) ?_) <;> (refine aW_run rfl fun w9 M9 N9 DQ back => ?_) <;> (refine s_sta 5 (m := 5) (by kernel_rfl) ?_ (h1 := by show (List.all [pInt (a.n + 1), pInt a.syms, pInts [a.n], pInts [a.n], PV.val v26] En.one) = true; simp only [List.all_cons, List.all_nil, Bool.and_true, Bool.and_eq_true]; exact ⟨rfl, rfl, rfl, rfl, ho26⟩)) <;> refine aL_end (back _ (nrm ?_)))); rotate_right; (focus ((refine aW_run rfl fun w9 M9 N9 DQ back => ?_) <;> (refine s_lit1 (kk := 1) 23 tEl22_LdI fun h23 ho23 => ?_; refine aL_ent (En.freeze (l := 23) (t := 23) rfl rfl) fun _ => ?_; rw [show share (PV.own 3 1 1 [PV.val (.int .i64 a.n)]) = pInts [a.n] from rfl]) <;> refine aL_end (back _ (nrm ?_)) <;> (refine aD_one 10 (by kernel_rfl) ?_) <;> (refine aW_run rfl fun w9 M9 N9 DQ back => ?_) <;> refine cO 26 (cA Tryz.call96 (cloneMv_e a.moves (by omega))) fun v26 ho26 => ?_ <;> refine aL_end (back _ (nrm ?_)) <;> refine xE 11 27 rfl (q_build tSt25_LfD) ?_ <;> (refine aD_one 13 (by kernel_rfl) ?_) <;> (refine aW_run rfl fun w9 M9 N9 DQ back => ?_) <;> (refine s_sta 5 (m := 5) (by kernel_rfl) ?_ (h1 := by show (List.all [pInt (a.n + 1), pInt a.syms, pInts [a.n], pInts [a.n], PV.val v26] En.one) = true; simp only [List.all_cons, List.all_nil, Bool.and_true, Bool.and_eq_true]; exact ⟨rfl, rfl, rfl, rfl, ho26⟩)) <;> refine aL_end (back _ (nrm ?_))))))); rotate_right; (focus ((refine aW_run rfl fun w9 M9 N9 DQ back => ?_) <;> refine cO 26 (cA Tryz.call96 (cloneMv_e a.moves (by omega))) fun v26 ho26 => ?_ <;> refine aL_end (back _ (nrm ?_)) <;> (refine aD_two 7 12 (by kernel_rfl) ?_ ?_; rotate_right; (focus ((refine aW_run rfl fun w9 M9 N9 DQ back => ?_) <;> refine s_alloc [(.int .i64 0), (.int .i64 0), (.slice none 0 0), (.slice none 0 0), (.slice none 0 0)] 5 5 tZr25_LfD fun h5 => ?_ <;> refine aL_end (back _ (nrm ?_)) <;> (refine aD_one 7 (by kernel_rfl) ?_) <;> (refine aW_run rfl fun w9 M9 N9 DQ back => ?_) <;> (refine s_lit1 (kk := 1) 23 tEl22_LdI fun h23 ho23 => ?_; refine aL_ent (En.freeze (l := 23) (t := 23) rfl rfl) fun _ => ?_; rw [show share (PV.own 3 1 1 [PV.val (.int .i64 a.n)]) = pInts [a.n] from rfl]) <;> refine aL_end (back _ (nrm ?_)) <;> refine xE 11 27 rfl (q_build tSt25_LfD) ?_ <;> (refine aD_one 13 (by kernel_rfl) ?_) <;> (refine aW_run rfl fun w9 M9 N9 DQ back => ?_) <;> (refine s_sta 5 (m := 5) (by kernel_rfl) ?_ (h1 := by show (List.all [pInt (a.n + 1), pInt a.syms, pInts [a.n], pInts [a.n], PV.val v26] En.one) = true; simp only [List.all_cons, List.all_nil, Bool.and_true, Bool.and_eq_true]; exact ⟨rfl, rfl, rfl, rfl, ho26⟩)) <;> refine aL_end (back _ (nrm ?_)))); rotate_right; (focus ((refine aW_run rfl fun w9 M9 N9 DQ back => ?_) <;> (refine s_lit1 (kk := 1) 23 tEl22_LdI fun h23 ho23 => ?_; refine aL_ent (En.freeze (l := 23) (t := 23) rfl rfl) fun _ => ?_; rw [show share (PV.own 3 1 1 [PV.val (.int .i64 a.n)]) = pInts [a.n] from rfl]) <;> refine aL_end (back _ (nrm ?_)) <;> refine xD 11 27 rfl (q_build tSt25_LfD) ?_ <;> (refine aD_one 12 (by kernel_rfl) ?_) <;> (refine aW_run rfl fun w9 M9 N9 DQ back => ?_) <;> refine s_alloc [(.int .i64 0), (.int .i64 0), (.slice none 0 0), (.slice none 0 0), (.slice none 0 0)] 5 5 tZr25_LfD fun h5 => ?_ <;> refine aL_end (back _ (nrm ?_)) <;> (refine aD_one 13 (by kernel_rfl) ?_) <;> (refine aW_run rfl fun w9 M9 N9 DQ back => ?_) <;> (refine s_sta 5 (m := 5) (by kernel_rfl) ?_ (h1 := by show (List.all [pInt (a.n + 1), pInt a.syms, pInts [a.n], pInts [a.n], PV.val v26] En.one) = true; simp only [List.all_cons, List.all_nil, Bool.and_true, Bool.and_eq_true]; exact ⟨rfl, rfl, rfl, rfl, ho26⟩)) <;> refine aL_end (back _ (nrm ?_))))))); rotate_right; (focus ((refine aW_run rfl fun w9 M9 N9 DQ back => ?_) <;> (refine s_lit1 (kk := 1) 23 tEl22_LdI fun h23 ho23 => ?_; refine aL_ent (En.freeze (l := 23) (t := 23) rfl rfl) fun _ => ?_; rw [show share (PV.own 3 1 1 [PV.val (.int .i64 a.n)]) = pInts [a.n] from rfl]) <;> refine aL_end (back _ (nrm ?_)) <;> (refine aD_two 10 12 (by kernel_rfl) ?_ ?_; rotate_right; (focus ((refine aW_run rfl fun w9 M9 N9 DQ back => ?_) <;> refine s_alloc [(.int .i64 0), (.int .i64 0), (.slice none 0 0), (.slice none 0 0), (.slice none 0 0)] 5 5 tZr25_LfD fun h5 => ?_ <;> refine aL_end (back _ (nrm ?_)) <;> (refine aD_one 10 (by kernel_rfl) ?_) <;> (refine aW_run rfl fun w9 M9 N9 DQ back => ?_) <;> refine cO 26 (cA Tryz.call96 (cloneMv_e a.moves (by omega))) fun v26 ho26 => ?_ <;> refine aL_end (back _ (nrm ?_)) <;> refine xE 11 27 rfl (q_build tSt25_LfD) ?_ <;> (refine aD_one 13 (by kernel_rfl) ?_) <;> (refine aW_run rfl fun w9 M9 N9 DQ back => ?_) <;> (refine s_sta 5 (m := 5) (by kernel_rfl) ?_ (h1 := by show (List.all [pInt (a.n + 1), pInt a.syms, pInts [a.n], pInts [a.n], PV.val v26] En.one) = true; simp only [List.all_cons, List.all_nil, Bool.and_true, Bool.and_eq_true]; exact ⟨rfl, rfl, rfl, rfl, ho26⟩)) <;> refine aL_end (back _ (nrm ?_)))); rotate_right; (focus ((refine aW_run rfl fun w9 M9 N9 DQ back => ?_) <;> refine cO 26 (cA Tryz.call96 (cloneMv_e a.moves (by omega))) fun v26 ho26 => ?_ <;> refine aL_end (back _ (nrm ?_)) <;> refine xD 11 27 rfl (q_build tSt25_LfD) ?_ <;> (refine aD_one 12 (by kernel_rfl) ?_) <;> (refine aW_run rfl fun w9 M9 N9 DQ back => ?_) <;> refine s_alloc [(.int .i64 0), (.int .i64 0), (.slice none 0 0), (.slice none 0 0), (.slice none 0 0)] 5 5 tZr25_LfD fun h5 => ?_ <;> refine aL_end (back _ (nrm ?_)) <;> (refine aD_one 13 (by kernel_rfl) ?_) <;> (refine aW_run rfl fun w9 M9 N9 DQ back => ?_) <;> (refine s_sta 5 (m := 5) (by kernel_rfl) ?_ (h1 := by show (List.all [pInt (a.n + 1), pInt a.syms, pInts [a.n], pInts [a.n], PV.val v26] En.one) = true; simp only [List.all_cons, List.all_nil, Bool.and_true, Bool.and_eq_true]; exact ⟨rfl, rfl, rfl, rfl, ho26⟩)) <;> refine aL_end (back _ (nrm ?_))))))))))) <;> refine aD_end (by kernel_rfl) (nav ?_) <;> try dsimp only) <;> (
      exact aN_join ⟨(v26, h5), ho26⟩ ⟨rfl, rfl, rfl, rfl, trivial⟩ ⟨rfl, rfl, rfl, rfl, trivial⟩)
   · rintro ⟨⟨v26, h5⟩, ho26⟩
     dsimp only at ho26 ⊢
     refine aC_ent (relabel (l := 26) 301 rfl rfl) fun _ => ?_
     refine aC_ent (recast (l := 301) (p' := .own 72 3 (a.moves ++ stMv a.n (a.start.take 0)).length ((a.moves ++ stMv a.n (a.start.take 0)).flatMap cMv)) rfl (by rw [show stMv a.n (a.start.take 0) = [] from rfl, List.append_nil])) fun _ => ?_
     refine nav ?_
     (refine aC_region ?_ <;> refine xL 28 (q_fldo 1 tFl25_2_LdI) ?_ <;> (refine yL 29 (q_ldo 1 tNa22_LdI) fun v29 hv29 => ?_; cases hv29) <;> refine xL 30 (q_len tSl22_LbB) ?_ <;> refine xL 31 q_move ?_ <;> refine aL_end (nav ?_) <;> try dsimp only)
     refine aC_loop (ι := { q : Nat × Value // q.1 ≤ a.start.length ∧ q.2.oneCell' = true }) (fun k => ⟨[(1, _, _), (2, _, _), (4, _, _), (5, _, _), (29, _, _), (30, _, _), (31, .int .i64 k.1.1, pInt k.1.1)], [(1, _, _), (2, _, _), (5, h5, .own 25 5 1 [pInt (a.n + 1), pInt a.syms, pInts [a.n], pInts [a.n], .val k.1.2]), (301, k.1.2, .own 72 3 (a.moves ++ stMv a.n (a.start.take k.1.1)).length ((a.moves ++ stMv a.n (a.start.take k.1.1)).flatMap cMv))]⟩) (fun k => a.start.length - k.1.1) ⟨(0, v26), Nat.zero_le _, ho26⟩ (fun a w H => H.weaken ⟨rfl, rfl, rfl, rfl, rfl, rfl, rfl, trivial⟩ ⟨rfl, rfl, rfl, rfl, trivial⟩) ?_
     rintro ⟨⟨k, hM⟩, hk, hMo⟩
     dsimp only
     dsimp only at hk hMo
     have hl1 : (a.moves ++ stMv a.n (a.start.take k)).length ≤ 30000 := by unfold stMv; rw [List.length_append, List.length_map, List.length_take]; omega
     refine nav ?_
     (refine aC_region ?_ <;> refine xL 32 q_lss ?_ <;> refine aL_end (nav ?_) <;> try dsimp only)
     (first | refine cCd ?_ ?_ | refine cC ?_ ?_) <;> intro hb32
     · first
       | exact Bool.noConfusion hb32
       | (
        obtain ⟨x, hx⟩ := get_some (show k < a.start.length by omega)
        have e1 := map_at (f := pInt) hx
        refine nav ?_
        (refine aC_region ?_ <;> refine xL 33 (q_idxN tSl22_LbB) ?_ <;> (refine yL 34 (q_ld tNa3_LbB) fun v34 hv34 => ?_; cases hv34) <;> refine xL 7 q_assign ?_ <;> refine aL_end (nav ?_) <;> try dsimp only)
        (refine aC_region ?_ <;> refine xL 35 (q_fldo 5 tFl25_4_LdI) ?_ <;> (refine yL 36 (q_ldo 5 tNa23_LdI) fun v36 hv36 => ?_; cases hv36) <;> refine xL 37 q_move ?_ <;> refine xL 38 q_move ?_ <;> refine xL 39 (q_build tSt72_LfD) ?_ <;> refine s_lit1a 40 tEl23_LdR fun h40 ho40 => ?_ <;> (refine s_app 301 40 41 tEl23_LdR fun h41 ho41 => ?_; refine aL_ent (relabel (l := 41) 301 rfl rfl) fun _ => ?_; refine aL_ent (recast (l := 301) rfl ((snoc_mv _ (a.moves ++ stMv a.n (a.start.take k)) ⟨a.n, x, -1⟩).trans (by rw [List.append_assoc, ← stMv_snoc a.n hx]))) fun _ => ?_) <;> refine xL 42 (q_fldo 5 tFl25_4_LdI) ?_ <;> refine s_st 5 tNa23_LdI tSz23_LdR ?_ <;> refine aL_end (nav ?_) <;> try dsimp only)
        (refine aC_region ?_ <;> refine xL 43 q_add ?_ <;> refine xL 31 q_move ?_ <;> refine aL_end (nav ?_) <;> try dsimp only)
        refine aN_again (
         ⟨(k + 1, h41), lt_of_get hx, ho41⟩
         ) (by dsimp only; omega) ⟨rfl, rfl, rfl, rfl, rfl, rfl, rfl, trivial⟩ ⟨rfl, rfl, rfl, rfl, trivial⟩)
     · first
       | exact Bool.noConfusion hb32
       | (
        rw [List.take_of_length_le (show a.start.length ≤ k by omega)]
        rw [show a.moves ++ stMv a.n a.start = a.moves ++ stMv a.n a.start ++ fiMv a.n (a.fin.take 0) from (List.append_nil _).symm]
        refine nav ?_
        (refine aC_region ?_ <;> refine xL 44 (q_fldo 1 tFl25_3_LdI) ?_ <;> (refine yL 45 (q_ldo 1 tNa22_LdI) fun v45 hv45 => ?_; cases hv45) <;> refine xL 46 (q_len tSl22_LbB) ?_ <;> refine xL 47 q_move ?_ <;> refine aL_end (nav ?_) <;> try dsimp only)
        refine aC_loop (ι := { q : Nat × Value // q.1 ≤ a.fin.length ∧ q.2.oneCell' = true }) (fun k => ⟨[(1, _, _), (2, _, _), (4, _, _), (5, _, _), (45, _, _), (46, _, _), (47, .int .i64 k.1.1, pInt k.1.1)], [(1, _, _), (2, _, _), (5, h5, .own 25 5 1 [pInt (a.n + 1), pInt a.syms, pInts [a.n], pInts [a.n], .val k.1.2]), (301, k.1.2, .own 72 3 (a.moves ++ stMv a.n a.start ++ fiMv a.n (a.fin.take k.1.1)).length ((a.moves ++ stMv a.n a.start ++ fiMv a.n (a.fin.take k.1.1)).flatMap cMv))]⟩) (fun k => a.fin.length - k.1.1) ⟨(0, hM), Nat.zero_le _, hMo⟩ (fun a w H => H.weaken ⟨rfl, rfl, rfl, rfl, rfl, rfl, rfl, trivial⟩ ⟨rfl, rfl, rfl, rfl, trivial⟩) ?_
        rintro ⟨⟨j, hM2⟩, hj, hM2o⟩
        dsimp only
        dsimp only at hj hM2o
        have hl2 : (a.moves ++ stMv a.n a.start ++ fiMv a.n (a.fin.take j)).length ≤ 30000 := by unfold stMv fiMv; rw [List.length_append, List.length_append, List.length_map, List.length_map, List.length_take]; omega
        refine nav ?_
        (refine aC_region ?_ <;> refine xL 48 q_lss ?_ <;> refine aL_end (nav ?_) <;> try dsimp only)
        (first | refine cCd ?_ ?_ | refine cC ?_ ?_) <;> intro hb48
        · first
          | exact Bool.noConfusion hb48
          | (
           obtain ⟨y, hy⟩ := get_some (show j < a.fin.length by omega)
           have e1 := map_at (f := pInt) hy
           refine nav ?_
           (refine aC_region ?_ <;> refine xL 49 (q_idxN tSl22_LbB) ?_ <;> (refine yL 50 (q_ld tNa3_LbB) fun v50 hv50 => ?_; cases hv50) <;> refine xL 9 q_assign ?_ <;> refine aL_end (nav ?_) <;> try dsimp only)
           (refine aC_region ?_ <;> refine xL 51 (q_fldo 5 tFl25_4_LdI) ?_ <;> (refine yL 52 (q_ldo 5 tNa23_LdI) fun v52 hv52 => ?_; cases hv52) <;> refine xL 53 q_move ?_ <;> refine xL 54 q_move ?_ <;> refine xL 55 (q_build tSt72_LfD) ?_ <;> refine s_lit1a 56 tEl23_LdR fun h56 ho56 => ?_ <;> (refine s_app 301 56 57 tEl23_LdR fun h57 ho57 => ?_; refine aL_ent (relabel (l := 57) 301 rfl rfl) fun _ => ?_; refine aL_ent (recast (l := 301) rfl ((snoc_mv _ (a.moves ++ stMv a.n a.start ++ fiMv a.n (a.fin.take j)) ⟨y, a.n, -1⟩).trans (by rw [List.append_assoc (a.moves ++ stMv a.n a.start), ← fiMv_snoc a.n hy]))) fun _ => ?_) <;> refine xL 58 (q_fldo 5 tFl25_4_LdI) ?_ <;> refine s_st 5 tNa23_LdI tSz23_LdR ?_ <;> refine aL_end (nav ?_) <;> try dsimp only)
           (refine aC_region ?_ <;> refine xL 59 q_add ?_ <;> refine xL 47 q_move ?_ <;> refine aL_end (nav ?_) <;> try dsimp only)
           refine aN_again (
            ⟨(j + 1, h57), lt_of_get hy, ho57⟩
            ) (by dsimp only; omega) ⟨rfl, rfl, rfl, rfl, rfl, rfl, rfl, trivial⟩ ⟨rfl, rfl, rfl, rfl, trivial⟩)
        · first
          | exact Bool.noConfusion hb48
          | (
           rw [List.take_of_length_le (show a.fin.length ≤ j by omega)]
           have hone : En.one (PV.val hM2) = true := hM2o
           refine nav ?_
           refine aC_ent (relabel (l := 301) 1000 rfl rfl) fun _ => ?_
           (refine aC_region ?_ <;> (refine yL 60 (q_ldao (k := 5) (ps := [pInt (a.n + 1), pInt a.syms, pInts [a.n], pInts [a.n], PV.val hM2]) 5 (by kernel_rfl)) fun v60 hv60 => ?_; cases hv60) <;> (refine aL_heap [(1000, hM2, PV.own 72 3 (starA a).moves.length ((starA a).moves.flatMap cMv)), (1, _, _), (2, _, _), (5, _, _)] ⟨rfl, rfl, rfl, rfl, trivial⟩ ?_; refine aL_ch [1, 2, 5] 61 (Tryz.call88) (aMade_g (starA a) (star_len h.toAOk) (star_nodup h) _ hM2 hM2o r5 hr) ?_; rintro _ _ _ ⟨⟨V1, rfl⟩, rfl, rfl⟩) <;> refine xL 62 q_extract ?_ <;> refine xL 63 q_extract ?_ <;> refine s_sta 2 tAgg25_LdS ?_ <;> refine xL 3 q_assign ?_ <;> refine aL_end (nav ?_) <;> try dsimp only)
           exact ret_cs (k := 5) 2 (by kernel_rfl) (Tryz.results44) rfl rfl rfl (Nat.le_of_ble_eq_true rfl) (by decide) r5.s rfl))
theorem aStar_e (a : Aut) : AF Tryz.prog 44 [pAut a] (· = resW (starX a)) := by
 cases hv : autOk a with
 | false => rw [starX_bad hv]; exact aStar_bad a hv
 | true =>
   rw [starX_ok hv]
   have h := vok_of hv
   obtain ⟨p0, p1, p2, p3, p4, E, h5, h2, hr⟩ := aReduced_5 (starA a) (star_len h.toAOk) (star_pre h)
   rw [h2]; exact aStar_g a hv h5 hr
def addI (n : Int) (l : List Int) : List Int := l.map (· + n)
theorem addI_snoc (n : Int) {l : List Int} {k : Nat} {x : Int} (h : l[k]? = some x) : addI n (l.take (k + 1)) = addI n (l.take k) ++ [x + n] := by unfold addI; rw [take_snoc h, List.map_append]; rfl
theorem addI_len (n : Int) (l : List Int) : (addI n l).length = l.length := List.length_map _
theorem app_nodup {α : Type} {l m : List α} (h1 : l.Nodup) (h2 : m.Nodup) (h : ∀ x ∈ l, x ∉ m) : (l ++ m).Nodup := List.nodup_append.2 ⟨h1, h2, fun x hx y hy e => h x hx (e ▸ hy)⟩
theorem mem_addI {n x : Int} {l : List Int} : x ∈ addI n l ↔ ∃ y ∈ l, y + n = x := by unfold addI; rw [List.mem_map]
section
variable {a b : Aut}
end
end Go.Proofs.YtgigclnaicbiaaaGreatDoor
namespace Go.En
open Go.RowKit Go.Cb
set_option linter.all false
abbrev Pi2 := Int × Int
def ikey (k : Pi2) : Value := .agg #[.int .i64 k.1, .int .i64 k.2]
theorem ikey_inj {a b : Pi2} (h : ikey a = ikey b) : a = b := by
 simp [ikey] at h
 exact Prod.ext h.1 h.2
def pikv (m : List (Pi2 × Value)) : List (Value × Value) := m.map fun x => (ikey x.1, x.2)
def piOk (k : Pi2) : Prop := (0 ≤ k.1 ∧ k.1 ≤ 1000000) ∧ (0 ≤ k.2 ∧ k.2 ≤ 1000000)
structure PiT (P : Program) (t ks s e : Nat) (z : Value) : Prop where
 ht : P.underlying t = some (.map ks e)
 hu : P.underlying ks = some (.array 2 s)
 hs : P.underlying s = some (.int .i64)
 hk : P.keyType ks = true
 hk2 : P.keyTypeAt 2 ks = true
 hti : P.tiled 2 ks = true
 hc2 : P.cellsOf ks = 2
 hc1 : P.cellsOf s = 1
 hf : ∀ a b : Int, (Value.agg #[.int .i64 a, .int .i64 b]).formed P ks = true
 hsz : ∃ n, P.types.size = n + 1
 hz : ZeroT P e z
theorem PiT.law {P : Program} {t ks s e : Nat} {z : Value} (h : PiT P t ks s e z) : WideMaps.KeyLaw P ks := deep_law (m := 2) (by decide) h.hk2 h.hti (by rw [h.hu])
theorem PiT.key {P : Program} {t ks s e : Nat} {z : Value} (h : PiT P t ks s e z) {k : Pi2} (hk : piOk k) : ∃ l, keyOf P ks (ikey k) = some l := by
 obtain ⟨n, hn⟩ := h.hsz
 have hl : ∀ c : Int, (0 ≤ c ∧ c ≤ 1000000) → P.keyLits (n + 1) s [.int .i64 c] = some [.int .i64 c] := fun c hc => by
  unfold Program.keyLits
  rw [h.hs]
  dsimp only
  rw [if_pos ⟨rfl, by simp [Lit.wf, IntKind.min, IntKind.max, IntKind.signed, IntKind.bits]; omega⟩]
 unfold keyOf
 rw [h.hu]
 dsimp only
 rw [h.hk, show (ikey k).formed P ks = true from h.hf _ _, hn]
 refine ⟨.string (keyBytes [.int .i64 k.1, .int .i64 k.2]), ?_⟩
 rw [if_pos (show (true && true) = true from rfl)]
 unfold Program.keyLits
 rw [h.hu]
 dsimp only [ikey, Value.cells]
 rw [h.hc2, h.hc1]
 rw [if_pos (by rfl)]
 rw [show List.range 2 = [0, 1] from rfl]
 simp only [List.mapM_cons, List.mapM_nil, Nat.zero_mul, Nat.one_mul, List.drop_zero, List.drop_succ_cons, List.take_succ_cons, List.take_zero, hl _ hk.1, hl _ hk.2]
 rfl
theorem aget_none2 {m : List (Pi2 × Value)} {k : Pi2} (h : ∀ x ∈ m, x.1 ≠ k) : aget m k = none := by
 induction m with
 | nil => rfl
 | cons x m ih =>
   rw [aget, if_neg (fun e => h x (by simp) e.symm)]
   exact ih fun y hy => h y (by simp [hy])
theorem aget_some2 {m : List (Pi2 × Value)} (hn : (m.map (·.1)).Nodup) {j : Nat} {k : Pi2} {v : Value} (h : m[j]? = some (k, v)) : aget m k = some v := by
 induction m generalizing j with
 | nil => simp at h
 | cons x m ih =>
   rw [List.map_cons, List.nodup_cons] at hn
   cases j with
   | zero => simp at h; subst h; rw [aget, if_pos rfl]
   | succ j =>
     rw [List.getElem?_cons_succ] at h
     rw [aget, if_neg (fun e => hn.1 (List.mem_map.2 ⟨_, List.mem_of_getElem? h, e⟩))]
     exact ih hn.2 h
theorem ent_at2 {es : Array MapEntry} {m : List (Pi2 × Value)} (h : kvOf es = pikv m) {j : Nat} {e : MapEntry} {k : Pi2} (he : es[j]? = some e) (hk : e.key = ikey k) : m[j]? = some (k, e.val) := by
 have h1 : (kvOf es)[j]? = some (ikey k, e.val) := by
  unfold kvOf
  rw [List.getElem?_map, Array.getElem?_toList, he, ← hk]; rfl
 rw [h] at h1
 unfold pikv at h1
 rw [List.getElem?_map, Option.map_eq_some_iff] at h1
 obtain ⟨⟨k', v'⟩, h2, h3⟩ := h1
 obtain ⟨h4, h5⟩ := Prod.mk.inj h3
 dsimp only at h4 h5
 rw [h2, ikey_inj h4, h5]
theorem keys_all2 {es : Array MapEntry} {m : List (Pi2 × Value)} (h : kvOf es = pikv m) : ∀ e ∈ es.toList, ∃ x ∈ m, e.key = ikey x.1 := fun e he => by
 have h1 : (e.key, e.val) ∈ kvOf es := List.mem_map.2 ⟨e, he, rfl⟩
 rw [h] at h1
 obtain ⟨x, hx, hxe⟩ := List.mem_map.1 h1
 exact ⟨x, hx, (Prod.mk.inj hxe).1.symm⟩
theorem find_pi {P : Program} {t ks s e : Nat} {z : Value} (hT : PiT P t ks s e z) {es : Array MapEntry} {m : List (Pi2 × Value)} (h : kvOf es = pikv m) (hm : ∀ x ∈ m, piOk x.1) (hn : (m.map (·.1)).Nodup) {k : Pi2} (hk : piOk k) (w : World) :
 (aget m k = none ∧ (Instr.findKey ks (ikey k) es.toList).run P w = .ok none w) ∨ ∃ (j : Nat) (e0 : MapEntry), es[j]? = some e0 ∧ e0.key = ikey k ∧ aget m k = some e0.val ∧ (Instr.findKey ks (ikey k) es.toList).run P w = .ok (some (j, e0.val)) w := by
 obtain ⟨l, hl⟩ := hT.key hk
 have hall : ∀ e ∈ es.toList, ∃ l, keyOf P ks e.key = some l := fun e he => by
  obtain ⟨x, hx, hxe⟩ := keys_all2 h e he
  rw [hxe]; exact hT.key (hm x hx)
 rcases hT.law.find w hl es.toList hall with ⟨h1, h2⟩ | ⟨j, e0, h1, h2, h3⟩
 · refine .inl ⟨aget_none2 fun x hx e => ?_, h1⟩
   obtain ⟨i, hi⟩ := List.getElem?_of_mem hx
   have h4 : (kvOf es)[i]? = some (ikey x.1, x.2) := by rw [h]; unfold pikv; rw [List.getElem?_map, hi]; rfl
   unfold kvOf at h4
   rw [List.getElem?_map, Option.map_eq_some_iff] at h4
   obtain ⟨e0, h5, h6⟩ := h4
   exact h2 e0 (List.mem_of_getElem? h5) (by rw [(Prod.mk.inj h6).1, e])
 · have h4 : es[j]? = some e0 := by rw [← Array.getElem?_toList]; exact h2
   exact .inr ⟨j, e0, h4, h3, aget_some2 hn (ent_at2 h h4 h3), h1⟩
section
variable {P : Program} {c : Ctx} {ops : Array Oper} {Q : Exit → Act → World → Prop} {rest : List Oper} {sL hP : List (Nat × Ent)} {o : Oper}
theorem look2_pi {t ks s e : Nat} {z : Value} (hT : PiT P t ks s e z) {b clock : Nat} {es : Array MapEntry} {m : List (Pi2 × Value)} (h : kvOf es = pikv m) (hm : ∀ x ∈ m, piOk x.1) (hn : (m.map (·.1)).Nodup) {k : Pi2} (hk : piOk k) {w : World} (hb : w.heap[b]? = some (.map es clock)) : (Instr.lookup t (.map (some b)) (ikey k) true).run P w = .ok (.tuple [(aget m k).getD z, .bool (aget m k).isSome].toArray) w := by
 obtain ⟨l, hl⟩ := hT.key hk
 have hck := fun em => hT.law.check w em hl
 unfold Instr.lookup
 simp only [Sem.run_bind, run_underlying hT.ht, Result.andThen_ok, getObj, Sem.run, hb, hck]
 rcases find_pi hT h hm hn hk w with ⟨h1, h2⟩ | ⟨j, e0, h3, h4, h1, h2⟩
 · simp [h1, h2, hck, ZeroT.run hT.hz]
 · simp [h1, h2, hck]
theorem q_look2P {t ks s e : Nat} {z u : Value} {x y : Operand} {mv : Value} {V : Value} {m : List (Pi2 × Value)} {k : Pi2} {b : Bool} {p : PV} (l : Nat) (hT : PiT P t ks s e z) (hm : ∀ x ∈ m, piOk x.1) (hn : (m.map (·.1)).Nodup) (hk : piOk k) (hu : (aget m k).getD z = u) (hb : (aget m k).isSome = b) (ho : o.op = .lookup t x y true := by exact rfl) (hx : ev sL x = some (mv, p) := by exact rfl) (hl : lk hP l = some (mv, .omap (pikv m)) := by exact rfl) (hy : ev sL y = some (V, .agg [.val (.int .i64 k.1), .val (.int .i64 k.2)]) := by exact rfl) : YE P (⟨sL, hP⟩ : St) o (· = .tuple [u, .bool b].toArray) (.tup [.val u, .val (.bool b)]) := .exact fun M F a w H => by
 subst hu hb
 have hv := (H.ev hx).1
 obtain ⟨hkv, hS⟩ := H.ev hy
 have hV : V = ikey k := agg_plain (us := [.int .i64 k.1, .int .i64 k.2]) hS
 rw [hV] at hkv
 obtain ⟨b, es, clock, rfl, he, h, _⟩ := (H.tr l _ _ hl).map
 refine ⟨.tup [(aget m k).getD z, .bool (aget m k).isSome] _ rfl fun i x p hx hp => ?_, by simp [execOp, ho, hv, hkv, look2_pi hT he.symm hm hn hk h]⟩
 match i with
 | 0 => simp at hx hp; subst hx hp; exact .val _
 | 1 => simp at hx hp; subst hx hp; exact .val _
 | i + 2 => simp at hx
theorem s_mput2 {t ks s e : Nat} {z : Value} {x y u : Operand} {mv V v : Value} {m : List (Pi2 × Value)} {k : Pi2} {p r : PV} (l : Nat) (hT : PiT P t ks s e z) (hm : ∀ x ∈ m, piOk x.1) (hn : (m.map (·.1)).Nodup) (hk : piOk k) (hno : aget m k = none)
 (kk : aL P c ops Q rest ⟨sL, put l (mv, .omap (pikv (m ++ [(k, v)]))) hP⟩) (hw : wants ops sL o = some true := by exact rfl) (hd : o.dst = none := by exact rfl) (ho : o.op = .mapUpdate t x y u ∨ o.op = .insert t x y u := by first | exact .inl rfl | exact .inr rfl) (hx : ev sL x = some (mv, p) := by exact rfl) (hl : lk hP l = some (mv, .omap (pikv m)) := by exact rfl) (hy : ev sL y = some (V, .agg [.val (.int .i64 k.1), .val (.int .i64 k.2)]) := by exact rfl) (hu : ev sL u = some (v, r) := by exact rfl) : aL P c ops Q (o :: rest) (⟨sL, hP⟩ : St) :=
 aL_run hw fun a w F H => by
  have hxv := (H.rd.ev hx).1
  obtain ⟨hyv, hS⟩ := H.rd.ev hy
  have hV : V = ikey k := agg_plain (us := [.int .i64 k.1, .int .i64 k.2]) hS
  rw [hV] at hyv
  have huv := (H.rd.ev hu).1
  obtain ⟨b, es, clock, rfl, he, hb, hFb, hWf⟩ := (H.tr l _ _ hl).mapW
  obtain ⟨lt', hlt'⟩ := hT.key hk
  have hck := hT.law.check w false hlt'
  have main : ∀ (es' : Array MapEntry) (clock' : Nat), WfM es' clock' → kvOf es' = pikv (m ++ [(k, v)]) → Holds c ⟨sL, put l (.map (some b), .omap (pikv (m ++ [(k, v)]))) hP⟩ a { w with heap := w.heap.setIfInBounds b (.map es' clock') } := fun es' clock' hW' he' => by
   have hlt := blk_lt hb
   have hch : Chg (fun x => x = b) w { w with heap := w.heap.setIfInBounds b (.map es' clock') } := ⟨rfl, rfl, rfl, by simp, fun i hi hne => by
    rw [Array.getElem?_setIfInBounds_ne (fun e => hne e.symm)]⟩
   refine ⟨F, H.change0 (fun l' => l' = l) (hch.wid fun x hx => .inl ⟨l, _, rfl, hl, (hFb x).2 hx⟩) (fun l' x hne hx' => ?_) (fun l' x b' hT' hx' hb' => ?_) (fun hmm l' u q hT' hx' => ?_) (fun l1 l2 _ _ _ h1 h2 hne => absurd (h1.trans h2.symm) hne)⟩
   · rcases lk_put hx' with ⟨e1, _⟩ | ⟨_, e1⟩
     · exact absurd e1.symm hne
     · exact ⟨e1, rfl⟩
   · subst hT'; exact .inl ⟨l', _, rfl, hl, hb'⟩
   · subst hT'
     rw [lk_put_self] at hx'
     cases hx'
     rw [← he']
     exact .omap b es' clock' (by simp [hlt]) hFb hW'
  unfold Oper.wp
  rcases find_pi hT he.symm hm hn hk w with ⟨h1, h2⟩ | ⟨j, e0, h3, h4, h1, h2⟩
  · have hkv : kvOf (es.push { key := ikey k, val := v, born := clock }) = pikv (m ++ [(k, v)]) := by
     unfold pikv at he ⊢
     rw [List.map_append, he]
     simp [kvOf]
    unfold execOp
    rcases ho with ho | ho
    · simp [ho, hxv, hyv, huv, Instr.mapUpdate, run_underlying hT.ht, getObj, setObj, Sem.run, hb, hck, h2, Oper.upon, hd, Act.put]
      exact kk _ _ (main _ _ (wf_push hWf) hkv)
    · simp [ho, hxv, hyv, huv, Instr.mapUpdate, run_underlying hT.ht, getObj, setObj, Sem.run, hb, hck, h2, Oper.upon, hd, Act.put]
      exact kk _ _ (main _ _ (wf_push hWf) hkv)
  · rw [hno] at h1; cases h1
end
section
variable {P : Program} {sL hP : List (Nat × Ent)} {o : Oper}
theorem q_build311 {t : Nat} {x y u : Operand} {V vy vu z z0 z1 z2 z3 z4 : Value} {p0 p1 p2 py pu : PV} (hT : stInfo P t = some (z, [(0, 3), (3, 1), (4, 1)])) (hzs : z.cells = #[z0, z1, z2, z3, z4]) (hy1 : vy.oneCell' = true) (hu1 : vu.oneCell' = true) (ho : o.op = .build t #[(0, x), (1, y), (2, u)] := by exact rfl) (hx : ev sL x = some (V, .agg [p0, p1, p2]) := by exact rfl) (hy : ev sL y = some (vy, py) := by exact rfl) (hu : ev sL u = some (vu, pu) := by exact rfl) : YE P (⟨sL, hP⟩ : St) o (fun _ => True) (.agg [p0, p1, p2, py, pu]) := fun M F a w H => by
 obtain ⟨hx1, hx2⟩ := H.ev hx
 obtain ⟨hy2, hy3⟩ := H.ev hy
 obtain ⟨hu2, hu3⟩ := H.ev hu
 generalize hp : PV.agg [p0, p1, p2] = p at hx2
 cases hx2 with
 | agg vs ps hl hV =>
   cases hp
   match vs, hl, hV with
   | [a0, a1, a2], _, hV =>
     have s0 := hV 0 a0 p0 rfl rfl
     have s1 := hV 1 a1 p1 rfl rfl
     have s2 := hV 2 a2 p2 rfl rfl
     refine ⟨.agg [a0, a1, a2, vy, vu].toArray, trivial, .agg _ _ rfl fun i v q hv hq => ?_, fun N W _ _ _ => ?_⟩
     · match i with
       | 0 => simp at hv hq; subst hv hq; exact s0
       | 1 => simp at hv hq; subst hv hq; exact s1
       | 2 => simp at hv hq; subst hv hq; exact s2
       | 3 => simp at hv hq; subst hv hq; exact hy3
       | 4 => simp at hv hq; subst hv hq; exact hu3
       | i + 5 => simp at hv
     · have c1 := cells_one hy1
       have c2 := cells_one hu1
       have hb : P.built t [(0, Value.agg [a0, a1, a2].toArray), (1, vy), (2, vu)] = some [a0, a1, a2, vy, vu].toArray := by
        unfold stInfo at hT
        split at hT
        · rename_i i fs hi hf
          split at hT
          · rename_i z' pl hz hpl
            cases hT
            unfold Program.built
            simp only [hi, hf, hz, hpl, hzs]
            have h0 : (Value.agg #[a0, a1, a2]).cells = #[a0, a1, a2] := rfl
            simp [Instr.fill, h0, c1, c2, Array.zipIdx]
          · cases hT
        · cases hT
       have := run_build (P := P) W t #[(0, Value.agg [a0, a1, a2].toArray), (1, vy), (2, vu)] _ hb
       simp [execOp, ho, hx1, hy2, hu2, this]
 | _ => cases hp
end
section
variable {P : Program} {c : Ctx} {sL hP : List (Nat × Ent)}
theorem ret_sss {fn : Func} {R : PV → Prop} {t s r : Nat} {v u x : Value} {p q g : PV} (hr : fn.results = #[.tmp t, .tmp s, .tmp r]) (ht : lk sL t = some (v, p)) (hs : lk sL s = some (u, q)) (hx : lk sL r = some (x, g)) (hR : R (.tup [p, q, g])) (hN : ∀ b, ¬ c.N0 b := by intro _ h; exact h) : aR c (bodyPost P fn (RetAF c R)) (⟨sL, hP⟩ : St) := fun a w ⟨F, H⟩ => by
 obtain ⟨h1, h2⟩ := H.sl t v p ht
 obtain ⟨h3, h4⟩ := H.sl s u q hs
 obtain ⟨h5, h6⟩ := H.sl r x g hx
 have hM : ∀ b, b < w.heap.size → (c.M0 b ∨ False) → mof c hP F b := fun b _ hb => by
  rcases hb with hb | hb
  · exact .inl hb
  · exact hb.elim
 refine ⟨H.df, .tuple [v, u, x].toArray, ?_, _, _, fun _ => False, rfl, hR, H.ext.ext (fun b _ => hN b), .shr (.tup [v, u, x] [p, q, g] rfl fun i x r hx hr => ?_) (fun _ h => h), fun _ h => h.elim, H.dw⟩
 · simp [results, hr, Array.getD_eq_getD_getElem?, h1, h3, h5]
 · match i with
   | 0 => simp at hx hr; subst hx hr; exact h2.anti hM
   | 1 => simp at hx hr; subst hx hr; exact h4.anti hM
   | 2 => simp at hx hr; subst hx hr; exact h6.anti hM
   | i + 3 => simp at hx
end
theorem cPx3 {P : Program} {c : Ctx} {ops : Array Oper} {Q : Exit → Act → World → Prop} {rest : List Oper} {sL hP : List (Nat × Ent)} {o : Oper} {p1 p2 p3 : PV} (d : Nat) (hC : CallR P c (⟨sL, hP⟩ : St) o (· = .tup [p1, p2, p3])) (k : ∀ v1 v2 v3, vOf p1 v1 → vOf p2 v2 → vOf p3 v3 → aL P c ops Q rest ⟨put d (.tuple [v1, v2, v3].toArray, .tup [p1, p2, p3]) sL, hP⟩) (hsh : shD (.tup [p1, p2, p3]) = true := by exact rfl) (hw : wants ops sL o = some true := by exact rfl) (hd : o.dst = some d := by exact rfl) (hn : d < c.nt := by exact Nat.le_of_ble_eq_true rfl) : aL P c ops Q (o :: rest) (⟨sL, hP⟩ : St) :=
 call_run hw hC fun a w F w' v p' Fr H hR hx hT hlo hdw => by
  subst hR
  have hS := hT.shD hsh
  rw [hd]
  have hS' : Shr (mof c hP F) w' v (.tup [p1, p2, p3]) := hS.anti fun b _ h => .inl h
  cases hS with
  | tup vs ps hl h =>
    match vs, hl, h, hS' with
    | [v1, v2, v3], _, h, hS' => exact k v1 v2 v3 (h 0 v1 _ rfl rfl).vOf (h 1 v2 _ rfl rfl).vOf (h 2 v3 _ rfl rfl).vOf _ _ ⟨F, put_up H hx hn hS'⟩
open Go.RowKit Go.Cb Go.Proofs Go.Sort
def RevI (P : Program) (fs : Nat) : Prop := ∀ (blk cap : Nat) (zs : List Int) (w : World), Go.Sort.Holds (Value.int .i64) w blk 0 zs.toArray → blk < w.heap.size → zs.length < 4611686018427387904 →
 Calls P fs #[.slice (some ⟨blk, 0, none⟩) zs.length cap] w fun e w' => e = .returned (.tuple #[]) ∧ ∃ n os, w' = grow (putRow (Value.int .i64) (Go.Sort.ahead w n) blk 0 zs.reverse.toArray) os
section
variable {P : Program} {c : Ctx} {ops : Array Oper} {Q : Exit → Act → World → Prop} {rest : List Oper} {sL hP : List (Nat × Ent)} {o : Oper}
theorem s_revI {fs e d : Nat} {zs : List Int} {h : Value} {q : PV} {x : Operand} {ats : Array TypeId} (l : Nat) (hS : RevI P fs) (hc : ∀ args w, (callFunc fs args).run P w = .ok (.enter fs args) w)
 (kk : aL P c ops Q rest ⟨put d (.tuple #[], .val (.tuple #[])) sL, put l (h, .own e 1 zs.length (zs.reverse.map pInt)) hP⟩)
 (hn : 0 < zs.length) (hn2 : zs.length < 4611686018427387904 := by omega) (hw : wants ops sL o = some true := by exact rfl) (hd : o.dst = some d := by exact rfl) (hdn : d < c.nt := by exact Nat.le_of_ble_eq_true rfl) (ho : o.op = .call { callee := .value (.func fs), args := #[x], argTypes := ats } := by exact rfl) (hx : ev sL x = some (h, q) := by exact rfl) (hl : lk hP l = some (h, .own e 1 zs.length (zs.map pInt)) := by exact rfl) : aL P c ops Q (o :: rest) (⟨sL, hP⟩ : St) :=
 aL_run hw fun a w F H => by
  have hxv := (H.rd.ev hx).1
  have hTr := H.tr l _ _ hl
  obtain ⟨xs, Fs, hrow, hlen, hT, hdj, hb, hF⟩ := hTr.row
  obtain ⟨blk, cap, hh, hc1, hc2, hc3⟩ := own_hdr hTr hn
  have hblkF : F l blk := (hF blk).2 (.inl (by rw [hh]; rfl))
  have hxs : ∀ (j : Nat) (v : Value), xs[j]? = some v → ∃ z, zs[j]? = some z ∧ v = .int .i64 z := fun j v hv => by
   obtain ⟨p, hp⟩ := get_of_len hv hlen.symm
   have h1 := hp
   rw [List.getElem?_map, Option.map_eq_some_iff] at h1
   obtain ⟨z, hz, rfl⟩ := h1
   exact ⟨z, hz, ((hT j v _ hv hp).sh rfl).vOf⟩
  have hHold : Go.Sort.Holds (Value.int .i64) w blk 0 zs.toArray := fun j hj => by
   simp only [List.size_toArray] at hj
   have hrow' := hrow
   rw [hh] at hrow'
   obtain ⟨v, hv⟩ := get_of_lt (show j < xs.length by rw [← hlen, List.length_map]; exact hj)
   obtain ⟨z, hz, rfl⟩ := hxs j v hv
   refine ⟨?_, by rw [Nat.zero_add]; exact hrow'.frozenAt j⟩
   rw [Nat.zero_add, row_cell hrow' hv]
   have : zs.toArray[j]! = z := by
    have hz' := (List.getElem?_eq_some_iff.1 hz).2
    simp [hj, hz']
   rw [this]
  have hcall := hS blk cap zs w hHold hc3 hn2
  unfold Oper.wp
  have hrun : (execOp a.eval o).run P w = .ok (.enter fs #[h]) w := by
   have hev : a.eval (.func fs) = .func (.func fs) #[] #[] := rfl
   simp [execOp, ho, resolve, Deferred.ofValue, hev, invoke, hxv, hc]
  rw [hrun, Oper.upon_enter, hh]
  refine hcall.mono fun e' w' ⟨he', m, os, hw'⟩ => ?_
  subst he'
  have hsl : zs.reverse.length = zs.length := List.length_reverse
  generalize hsd : zs.reverse = sd at hsl hw' kk
  have hch0 : Chg (fun b => b = blk) w w' := by
   rw [hw']
   refine ⟨rfl, rfl, rfl, ?_, fun i hi hne => ?_⟩
   · simp [grow, putRow, mapBlock, Go.Sort.ahead]
   · have : (grow (putRow (Value.int .i64) (Go.Sort.ahead w m) blk 0 sd.toArray) os).heap = (w.heap.modify blk (onCells (putCells (Value.int .i64) 0 sd.toArray))) ++ os := rfl
     rw [this, Array.getElem?_append_left (by simpa using hi), Array.getElem?_modify, if_neg (fun e => hne e.symm)]
  rw [hd]
  refine kk _ _ ⟨fun l' => if l' = l then (fun b => b = blk) else F l', ?_⟩
  refine H.change (fun l' => l' = l) hdn (hch0.wid fun b hb' => .inl ⟨l, _, rfl, hl, by rw [hb']; exact hblkF⟩) (fun l' z hne hz => ?_) (fun l' z b hT' hz hb' => ?_) (fun hmm l' u p hT' hz => ?_) (fun l1 l2 _ _ _ h1 h2 hne => absurd (h1.trans h2.symm) hne) (fun _ => .val _) (fun _ => by rw [hw']; exact Nat.le_add_right _ _)
  · rcases lk_put hz with ⟨e1, _⟩ | ⟨_, e1⟩
    · exact absurd e1.symm hne
    · exact ⟨e1, by simp [hne]⟩
  · subst hT'
    simp only [if_true] at hb'
    exact .inl ⟨l', _, rfl, hl, by rw [hb']; exact hblkF⟩
  · subst hT'
    rw [lk_put_self] at hz
    cases hz
    simp only [if_true]
    rcases hrow.2 with ⟨e1, _⟩ | ⟨g', cap', cur, e1, _, e3, e4, e5, e6, e7⟩
    · rw [hh] at e1; cases e1
    · rw [hh] at e1
      cases e1
      have hlt := blk_lt e3
      refine .own (sd.map (Value.int .i64)) (fun _ _ => False) ⟨by rw [List.length_map, hsl, Nat.mul_one], .inr ⟨blk, cap, putCells (Value.int .i64) 0 sd.toArray cur, hh, Nat.zero_le _, ?_, e4, e5, by simp [putCells]; omega, ?_⟩⟩ (by simp) (fun t v p hv hp => ?_) (fun _ _ _ _ _ _ h => h.elim) (fun _ _ _ h => h.elim) (fun b => by rw [hh]; simp [Value.ownBlock, eq_comm])
      · rw [hw']
        have : (grow (putRow (Value.int .i64) (Go.Sort.ahead w m) blk 0 sd.toArray) os).heap = (w.heap.modify blk (onCells (putCells (Value.int .i64) 0 sd.toArray))) ++ os := rfl
        rw [this, Array.getElem?_append_left (by simpa using hlt), Array.getElem?_modify, if_pos rfl, e3]
        rfl
      · have := put_takeI (Value.int .i64) sd.toArray cur (by simp only [List.size_toArray]; rw [hsl, e6]; omega)
        simp only [List.size_toArray] at this
        rw [Nat.mul_one, ← hsl]; exact this
      · rw [List.getElem?_map, Option.map_eq_some_iff] at hv hp
        obtain ⟨z, hz, rfl⟩ := hv
        obtain ⟨z', hz', rfl⟩ := hp
        rw [hz] at hz'; cases hz'
        exact .shr (.val _) (fun _ h => h)
end
section
variable {P : Program} {sL hP : List (Nat × Ent)} {o : Oper}
theorem q_build0 {t : Nat} {z : Value} {zs : List Value} {pl : List (Nat × Nat)} (hT : stInfo P t = some (z, pl)) (hzs : z.cells = zs.toArray) (ho : o.op = .build t #[] := by exact rfl) : YE P (⟨sL, hP⟩ : St) o (· = .agg zs.toArray) (.agg (zs.map .val)) :=
 .exact fun M F a w H => by
  refine ⟨.agg _ _ (by simp) fun i v q hv hq => ?_, ?_⟩
  · rw [List.getElem?_map, hv] at hq
    cases hq
    exact .val _
  have hb : P.built t [] = some zs.toArray := by
   unfold stInfo at hT
   split at hT
   · rename_i i fs hi hf
     split at hT
     · rename_i z' pl hz hpl
       cases hT
       unfold Program.built
       simp only [hi, hf, hz, hpl, hzs]
       rfl
     · cases hT
   · cases hT
  have := run_build (P := P) w t #[] _ hb
  simp [execOp, ho, this]
end
section
variable {P : Program} {c : Ctx} {sL hP : List (Nat × Ent)}
end
section
variable {P : Program} {c : Ctx} {sL hP : List (Nat × Ent)}
end
end Go.En
namespace Go.Proofs.YtgigclnaicbiaaaGreatDoor
open Go.RowKit Go.Cb Go.En
set_option linter.all false
set_option maxRecDepth 100000
theorem aShifted_e (l : List Int) (n : Int) (hl : l.length ≤ 1000000) (hn : 0 ≤ n ∧ n ≤ 1000000) (hb : ∀ x ∈ l, 0 ≤ x ∧ x ≤ 1000000) : AF Tryz.prog 87 [pInts l, pInt n] (· = .own 3 1 (addI n l).length ((addI n l).map pInt)) := by
 refine AF.of_body 22 Tryz.func87 rfl Tryz.ntmps87 (Nat.le_of_ble_eq_true rfl) ?_
 intro w0 M0 vs hl hv
 obtain ⟨v0, v1, rfl⟩ := len2 hl
 obtain rfl := hv 1 _ _ rfl rfl
 clear hl hv
 refine aC_slen 0 rfl fun hlen => ?_
 refine nav ?_
 (refine aC_region ?_ <;> refine xL 4 q_assign ?_ <;> refine aL_end (nav ?_) <;> try dsimp only)
 (refine aC_region ?_ <;> refine xL 5 q_assign ?_ <;> refine aL_end (nav ?_) <;> try dsimp only)
 refine aC_ent (nilOwn 200 3 1 rfl) fun _ => ?_
 (refine aC_region ?_ <;> refine xL 8 q_move ?_ <;> refine xL 9 (q_len tSl22_LbB) ?_ <;> refine xL 10 q_move ?_ <;> refine aL_end (nav ?_) <;> try dsimp only)
 refine aC_loop (ι := { q : Nat × Value // q.1 ≤ l.length ∧ q.2.oneCell' = true }) (fun k => ⟨[(1, _, _), (8, _, _), (9, _, _), (5, k.1.2, .val k.1.2), (10, .int .i64 k.1.1, pInt k.1.1)], [(200, k.1.2, .own 3 1 (addI n (l.take k.1.1)).length ((addI n (l.take k.1.1)).map pInt))]⟩) (fun k => l.length - k.1.1) ⟨(0, .slice none 0 0), Nat.zero_le _, rfl⟩ (fun a w H => H.weaken ⟨rfl, rfl, rfl, rfl, rfl, trivial⟩ ⟨rfl, trivial⟩) ?_
 rintro ⟨⟨k, hO⟩, hk, hOo⟩
 dsimp only
 dsimp only at hk hOo
 have hal : (addI n (l.take k)).length ≤ 1000000 := by rw [addI_len, List.length_take]; omega
 refine nav ?_
 (refine aC_region ?_ <;> refine xL 11 q_lss ?_ <;> refine aL_end (nav ?_) <;> try dsimp only)
 (first | refine cCd ?_ ?_ | refine cC ?_ ?_) <;> intro hb11
 · first
   | exact Bool.noConfusion hb11
   | (
    obtain ⟨x, hx⟩ := get_some (show k < l.length by omega)
    have e1 := map_at (f := pInt) hx
    have hxb := hb x (List.mem_of_getElem? hx)
    refine nav ?_
    (refine aC_region ?_ <;> refine xL 12 (q_idxN tSl22_LbB) ?_ <;> (refine yL 13 (q_ld tNa3_LbB) fun v13 hv13 => ?_; cases hv13) <;> refine xL 7 q_assign ?_ <;> refine aL_end (nav ?_) <;> try dsimp only)
    (refine aC_region ?_ <;> refine xL 14 q_move ?_ <;> refine xL 15 q_move ?_ <;> refine xL 16 q_move ?_ <;> refine xL 17 q_add ?_ <;> refine s_lit1 (kk := 1) 18 tEl22_LdI fun h18 ho18 => ?_ <;> (refine s_app 200 18 19 tEl22_LdI fun h19 ho19 => ?_; refine aL_ent (relabel (l := 19) 200 rfl rfl) fun _ => ?_; refine aL_ent (recast (l := 200) rfl ((own_ints _ (addI n (l.take k)) (x + n)).trans (by rw [← addI_snoc n hx]))) fun _ => ?_) <;> refine xL 5 q_assign ?_ <;> refine aL_end (nav ?_) <;> try dsimp only)
    (refine aC_region ?_ <;> refine xL 20 q_add ?_ <;> refine xL 10 q_move ?_ <;> refine aL_end (nav ?_) <;> try dsimp only)
    refine aN_again (
     ⟨(k + 1, h19), lt_of_get hx, ho19⟩
     ) (by dsimp only; omega) ⟨rfl, rfl, rfl, rfl, rfl, trivial⟩ ⟨rfl, trivial⟩)
 · first
   | exact Bool.noConfusion hb11
   | (
    rw [List.take_of_length_le (show l.length ≤ k by omega)]
    refine nav ?_
    (refine aC_region ?_ <;> refine xL 21 q_move ?_ <;> refine xL 4 q_assign ?_ <;> refine aL_end (nav ?_) <;> try dsimp only)
    exact ret_own 200 (Tryz.results87) rfl rfl rfl)
theorem rowMv_at {i : Nat} {r : List Nat} {s n : Nat} (h : r[s]? = some n) : (rowMv i r)[s]? = some ⟨(i : Nat), (n : Nat), (s : Nat)⟩ := by
 unfold rowMv
 rw [List.getElem?_map, List.getElem?_zipIdx, h]
 show some (⟨(i : Nat), (n : Nat), ((0 + s : Nat) : Int)⟩ : Mv) = _
 rw [Nat.zero_add]
def mvFrom (k : Nat) (rows : List (List Nat)) : List Mv := (rows.zipIdx k).flatMap fun p => rowMv p.2 p.1
theorem mvFrom_cons (k : Nat) (r : List Nat) (rows : List (List Nat)) : mvFrom k (r :: rows) = rowMv k r ++ mvFrom (k + 1) rows := by
 unfold mvFrom; rw [List.zipIdx_cons, List.flatMap_cons]
theorem mvFrom_at {m : Nat} : ∀ {rows : List (List Nat)} {k i s n : Nat} {r : List Nat}, (∀ r ∈ rows, r.length = m) → rows[i]? = some r → r[s]? = some n → (mvFrom k rows)[i * m + s]? = some ⟨((k + i : Nat) : Int), (n : Nat), (s : Nat)⟩
 | [], _, _, _, _, _, _, h, _ => by simp at h
 | x :: rows, k, 0, s, n, r, hl, hr, hs => by
   simp only [List.getElem?_cons_zero, Option.some.injEq] at hr
   subst hr
   rw [mvFrom_cons, Nat.zero_mul, Nat.zero_add, List.getElem?_append_left (by rw [rowMv_len]; exact lt_of_get hs), rowMv_at hs]; rfl
 | x :: rows, k, i + 1, s, n, r, hl, hr, hs => by
   simp only [List.getElem?_cons_succ] at hr
   have hx := hl x (List.mem_cons_self ..)
   rw [mvFrom_cons, List.getElem?_append_right (by rw [rowMv_len, hx, Nat.succ_mul]; omega), rowMv_len, hx, show (i + 1) * m + s - m = i * m + s by rw [Nat.succ_mul]; omega, mvFrom_at (fun r hr => hl r (List.mem_cons_of_mem _ hr)) hr hs]
   rw [show k + 1 + i = k + (i + 1) by omega]
theorem rowMv_src {i : Nat} {r : List Nat} : ∀ m ∈ rowMv i r, m.src = (i : Nat) := fun m hm => by
 obtain ⟨n, s, _, rfl⟩ := mem_rowMv hm
 rfl
theorem mvFrom_src {k : Nat} {rows : List (List Nat)} : ∀ m ∈ mvFrom k rows, (k : Int) ≤ m.src := fun m hm => by
 unfold mvFrom at hm
 obtain ⟨p, hp, hm⟩ := List.mem_flatMap.1 hm
 rw [rowMv_src m hm]
 have := List.mem_zipIdx hp
 omega
theorem mvFrom_of : ∀ {rows : List (List Nat)} {k i : Nat} {r : List Nat}, rows[i]? = some r → (mvFrom k rows).filter (fun m => decide (m.src = ((k + i : Nat) : Int))) = rowMv (k + i) r
 | [], _, _, _, h => by simp at h
 | x :: rows, k, 0, r, h => by
   simp only [List.getElem?_cons_zero, Option.some.injEq] at h
   subst h
   rw [Nat.add_zero, mvFrom_cons, List.filter_append, List.filter_eq_self.2 fun m hm => decide_eq_true (rowMv_src m hm), List.filter_eq_nil_iff.2 fun m hm => by
    have := mvFrom_src m hm
    simp only [decide_eq_true_eq]; omega, List.append_nil]
 | x :: rows, k, i + 1, r, h => by
   simp only [List.getElem?_cons_succ] at h
   rw [mvFrom_cons, List.filter_append, List.filter_eq_nil_iff.2 fun m hm => by
    have := rowMv_src m hm
    simp only [decide_eq_true_eq]; omega, List.nil_append, show k + (i + 1) = k + 1 + i by omega]
   exact mvFrom_of h
structure DetA (A : Aut) : Prop where
 ok : AOk A
 pos : 0 < A.n.toNat
 mo : ∀ i s, i < A.n.toNat → s < A.syms.toNat → ∃ x : Mv, (movesOf A i)[s]? = some x ∧ A.moves[i * A.syms.toNat + s]? = some x ∧ x.dst = (stepA A i s : Nat)
 ml : ∀ i, i < A.n.toNat → (movesOf A i).length = A.syms.toNat
 sl : ∀ i s, i < A.n.toNat → s < A.syms.toNat → stepA A i s < A.n.toNat
theorem stepA_at {A : Aut} {i s : Nat} {x : Mv} (h : A.moves[i * A.syms.toNat + s]? = some x) : stepA A i s = x.dst.toNat := by
 unfold stepA; rw [h]; rfl
theorem det_Q {t : Tab} (ht : TOk t) {o : List Nat} {rows : List (List Nat)} (h : Fin t o rows) (hm : (movesT rows).length ≤ 20000) : DetA (autQ t (o, rows)) := by
 have hok := autQ_aok ht h hm
 have hn : (autQ t (o, rows)).n.toNat = o.length := Int.toNat_natCast _
 have hs : (autQ t (o, rows)).syms.toNat = t.m := Int.toNat_natCast _
 have key : ∀ i s, i < o.length → s < t.m → ∃ (r : List Nat) (n : Nat), rows[i]? = some r ∧ r[s]? = some n ∧ n < o.length ∧ (autQ t (o, rows)).moves[i * t.m + s]? = some ⟨(i : Nat), (n : Nat), (s : Nat)⟩ ∧ movesOf (autQ t (o, rows)) i = rowMv i r := fun i s hi hs => by
  obtain ⟨r, hr⟩ := get_some (show i < rows.length by rw [h.len]; exact hi)
  have hrl : r.length = t.m := h.ok.len r (List.mem_of_getElem? hr)
  obtain ⟨n, hn⟩ := get_some (show s < r.length by omega)
  obtain ⟨x, hx⟩ := get_some hi
  refine ⟨r, n, hr, hn, (h.ok.to i x r s n hx hr hn).1, ?_, ?_⟩
  · have := mvFrom_at (k := 0) h.ok.len hr hn
    rw [Nat.zero_add] at this
    exact this
  · have := mvFrom_of (k := 0) hr
    rw [Nat.zero_add] at this
    exact this
 refine ⟨hok, by rw [hn]; exact h.pos, fun i s hi hs' => ?_, fun i hi => ?_, fun i s hi hs' => ?_⟩
 · rw [hn] at hi
   rw [hs] at hs' ⊢
   obtain ⟨r, n, h1, h2, h3, h4, h5⟩ := key i s hi hs'
   refine ⟨_, by rw [h5]; exact rowMv_at h2, h4, ?_⟩
   rw [stepA_at (by rw [hs]; exact h4)]
   show ((n : Nat) : Int) = (((n : Nat) : Int).toNat : Nat)
   rw [Int.toNat_natCast]
 · rw [hn] at hi
   obtain ⟨r, hr⟩ := get_some (show i < rows.length by rw [h.len]; exact hi)
   have := mvFrom_of (k := 0) hr
   rw [Nat.zero_add] at this
   show ((movesT rows).filter fun m => decide (m.src = (i : Int))).length = _
   rw [show ((movesT rows).filter fun m => decide (m.src = (i : Int))) = rowMv i r from this, rowMv_len, hs]
   exact h.ok.len r (List.mem_of_getElem? hr)
 · rw [hn] at hi ⊢
   rw [hs] at hs'
   obtain ⟨r, n, h1, h2, h3, h4, h5⟩ := key i s hi hs'
   rw [stepA_at (by rw [hs]; exact h4)]
   show ((n : Nat) : Int).toNat < _
   rw [Int.toNat_natCast]; exact h3
theorem redX_det {a A : Aut} (h : AOk a) (hr : redX a = .ok A) : DetA A ∧ A.syms = a.syms := by
 obtain ⟨t, o, rows, hs, hT, _, hF, rfl, hm⟩ := redX_ok h hr
 refine ⟨det_Q hT hF hm, ?_⟩
 unfold subT at hs
 obtain ⟨q, _, rfl⟩ := Option.map_eq_some_iff.1 hs
 show ((a.syms.toNat : Nat) : Int) = a.syms
 have := h.s0
 omega
def PairOk (A B : Aut) (x : (Nat × Nat) × (Int × Int)) : Prop := x.1.1 < A.n.toNat ∧ x.1.2 < B.n.toNat
theorem prod_ok {A B : Aut} (hA : DetA A) (hB : DetA B) (hs : A.syms = B.syms) {i : Nat} {o : List ((Nat × Nat) × (Int × Int))} {rows : List (List Nat)} (hu : (prodW A B).upto ((0, 0), (-1, -1)) i = some (o, rows)) : (prodW A B).Ok (PairOk A B) ((0, 0), (-1, -1)) o rows ∧ (i ≤ o.length → rows.length = i) ∧ (o.length ≤ i → rows.length = o.length) :=
 Srch.ok (W := prodW A B) (P := PairOk A B) (show 1 ≤ 2000 by decide) ⟨hA.pos, hB.pos⟩ (fun i x s hx hsm => ⟨hA.sl _ _ hx.1 hsm, hB.sl _ _ hx.2 (by have : s < A.syms.toNat := hsm; rw [← hs]; exact this)⟩) hu
theorem tAgg151_LfP : AggT Tryz.prog 151 2 = true := by kernel_rfl
theorem tAgg95_LfP : AggT Tryz.prog 95 5 = true := by kernel_rfl
theorem tAr151_LfP : ArrT Tryz.prog 151 2 = true := by kernel_rfl
theorem tEl152_LfP : ElT Tryz.prog 152 151 2 16 (.agg #[(.int .i64 0), (.int .i64 0)]) := ⟨Tryz.underlying152, by kernel_rfl, rfl, by decide⟩
theorem tFl95_0_LfP : FldT Tryz.prog 95 0 0 = true := by kernel_rfl
theorem tFl95_1_LfP : FldT Tryz.prog 95 1 3 = true := by kernel_rfl
theorem tFl95_2_LfP : FldT Tryz.prog 95 2 4 = true := by kernel_rfl
theorem tSl152_LfP : SlT Tryz.prog 152 151 2 = true := by kernel_rfl
theorem tZr151_LfP : ZeroT Tryz.prog 151 (.agg #[(.int .i64 0), (.int .i64 0)]) := by unfold ZeroT; kernel_rfl
theorem tZr95_LfP : ZeroT Tryz.prog 95 (.agg #[(.int .i64 0), (.slice none 0 0), (.slice none 0 0), (.slice none 0 0), (.slice none 0 0)]) := by unfold ZeroT; kernel_rfl
theorem aDecides_e (op : Int) (x y : Bool) : AF Tryz.prog 120 [pInt op, pBool x, pBool y] (· = pBool (decB op x y)) := by
 refine AF.of_body 30 Tryz.func120 rfl Tryz.ntmps120 (Nat.le_of_ble_eq_true rfl) ?_
 intro w0 M0 vs hl hv
 obtain ⟨v0, v1, v2, rfl⟩ := len3 hl
 obtain rfl := hv 0 _ _ rfl rfl
 obtain rfl := hv 1 _ _ rfl rfl
 obtain rfl := hv 2 _ _ rfl rfl
 clear hl hv
 refine nav ?_
 (refine aC_region ?_ <;> refine xL 6 q_assign ?_ <;> refine aL_end (nav ?_) <;> try dsimp only)
 (refine aC_region ?_ <;> refine xL 7 q_move ?_ <;> refine aL_end (nav ?_) <;> try dsimp only)
 (refine aC_region ?_ <;> refine xL 9 q_eql ?_ <;> refine xL 8 q_assign ?_ <;> refine aL_end (nav ?_) <;> try dsimp only)
 (first | refine cCd ?_ ?_ | refine cC ?_ ?_) <;> intro hb8
 · first
   | exact Bool.noConfusion hb8
   | (
    refine nav ?_
    (refine aC_region ?_ <;> refine xL 10 q_move ?_ <;> refine xL 11 q_move ?_ <;> (refine bL 11 (fun hb11 => ?_) (fun hb11 => ?_) <;> (first | refine kL 12 ?_ | refine xL 12 q_move ?_)) <;> refine xL 13 q_pick ?_ <;> refine xL 6 q_assign ?_ <;> refine aL_end (nav ?_) <;> try dsimp only) <;> (
     refine ret_shr (Tryz.results120) rfl ?_
     unfold decB
     rw [if_pos (by omega)]
     cases x <;> cases y <;> first | rfl | (exfalso; simp_all; done)))
 · first
   | exact Bool.noConfusion hb8
   | (
    refine nav ?_
    (refine aC_region ?_ <;> refine xL 15 q_eql ?_ <;> refine xL 14 q_assign ?_ <;> refine aL_end (nav ?_) <;> try dsimp only)
    (first | refine cCd ?_ ?_ | refine cC ?_ ?_) <;> intro hb14
    · first
      | exact Bool.noConfusion hb14
      | (
       refine nav ?_
       (refine aC_region ?_ <;> refine xL 16 q_move ?_ <;> refine xL 17 q_move ?_ <;> (refine bL 17 (fun hb17 => ?_) (fun hb17 => ?_) <;> (first | refine kL 18 ?_ | refine xL 18 q_move ?_)) <;> refine xL 19 q_pick ?_ <;> refine xL 6 q_assign ?_ <;> refine aL_end (nav ?_) <;> try dsimp only) <;> (
        refine ret_shr (Tryz.results120) rfl ?_
        unfold decB
        rw [if_neg (by omega), if_pos (by omega)]
        cases x <;> cases y <;> first | rfl | (exfalso; simp_all; done)))
    · first
      | exact Bool.noConfusion hb14
      | (
       refine nav ?_
       (refine aC_region ?_ <;> refine xL 21 q_eql ?_ <;> refine xL 20 q_assign ?_ <;> refine aL_end (nav ?_) <;> try dsimp only)
       (first | refine cCd ?_ ?_ | refine cC ?_ ?_) <;> intro hb20
       · first
         | exact Bool.noConfusion hb20
         | (
          refine nav ?_
          (refine aC_region ?_ <;> refine xL 22 q_move ?_ <;> refine xL 23 q_move ?_ <;> (refine bL 23 (fun hb23 => ?_) (fun hb23 => ?_) <;> (first | refine kL 24 ?_ | refine xL 24 q_move ?_)) <;> (first | refine kL 25 ?_ | refine xL 25 q_not ?_) <;> refine xL 26 q_pick ?_ <;> refine xL 6 q_assign ?_ <;> refine aL_end (nav ?_) <;> try dsimp only) <;> (
           refine ret_shr (Tryz.results120) rfl ?_
           unfold decB
           rw [if_neg (by omega), if_neg (by omega), if_pos (by omega)]
           cases x <;> cases y <;> first | rfl | (exfalso; simp_all; done)))
       · first
         | exact Bool.noConfusion hb20
         | (
          refine nav ?_
          (refine aC_region ?_ <;> refine xL 27 q_move ?_ <;> refine xL 28 q_move ?_ <;> refine xL 29 (q_bneq Tryz.underlying4) ?_ <;> refine xL 6 q_assign ?_ <;> refine aL_end (nav ?_) <;> try dsimp only)
          refine ret_shr (Tryz.results120) rfl ?_
          unfold decB
          rw [if_neg (by omega), if_neg (by omega), if_neg (by omega)]
          cases x <;> cases y <;> first | rfl | (exfalso; simp_all; done))))
theorem numE_snoc {α κ : Type} [DecidableEq κ] (f : α → κ) (x : α) : ∀ (l : List α) (off : Nat), numE f off (l ++ [x]) = numE f off l ++ [(f x, .int .i64 ((off + l.length : Nat) : Int))]
 | [], off => by simp [numE]
 | y :: l, off => by rw [List.cons_append, numE, numE_snoc f x l (off + 1), numE, List.cons_append, List.length_cons]; congr 5; omega
theorem numE_keys {α κ : Type} [DecidableEq κ] (f : α → κ) : ∀ (l : List α) (off : Nat), (numE f off l).map (·.1) = l.map f
 | [], _ => rfl
 | y :: l, off => by rw [numE, List.map_cons, numE_keys f l (off + 1), List.map_cons]
abbrev PrS := (Nat × Nat) × (Int × Int)
def keyI (x : PrS) : Pi2 := ((x.1.1 : Nat), (x.1.2 : Nat))
theorem keyI_inj {x y : PrS} : keyI x = keyI y ↔ x.1 = y.1 := by
 unfold keyI
 rw [Prod.mk.injEq, Prod.ext_iff]
 omega
theorem keyI_id (o : List PrS) (x : PrS) : posK keyI o (keyI x) = posK Prod.fst o x.1 := posK_inj fun y _ => keyI_inj
def cPr (x : PrS) : List PV := [pInt (x.1.1 : Nat), pInt (x.1.2 : Nat)]
theorem cPr_len (x : PrS) : (cPr x).length = 2 := rfl
theorem snoc_pr (e : Nat) (L : List PrS) (x : PrS) : PV.own e 2 (L.length + 1) (L.flatMap cPr ++ cPr x) = .own e 2 (L ++ [x]).length ((L ++ [x]).flatMap cPr) := by simp
theorem num_lookP (o : List PrS) (x : PrS) : (aget (numE keyI 0 o) (keyI x)).getD (.int .i64 0) = .int .i64 ((if posK keyI o (keyI x) < o.length then posK keyI o (keyI x) else 0 : Nat) : Int) ∧ (aget (numE keyI 0 o) (keyI x)).isSome = decide (posK keyI o (keyI x) < o.length) := by
 rw [numE_get]
 by_cases h : posK keyI o (keyI x) < o.length
 · rw [if_pos h, if_pos h, decide_eq_true h, Nat.zero_add]; exact ⟨rfl, rfl⟩
 · rw [if_neg h, if_neg h, decide_eq_false h]; exact ⟨rfl, rfl⟩
def pFrom (o : List PrS) : List Int := o.map fun x => x.2.1
def pSym (o : List PrS) : List Int := o.map fun x => x.2.2
theorem from_snoc (o : List PrS) (y : PrS) : pFrom (o ++ [y]) = pFrom o ++ [y.2.1] := by unfold pFrom; rw [List.map_append]; rfl
theorem sym_snoc (o : List PrS) (y : PrS) : pSym (o ++ [y]) = pSym o ++ [y.2.2] := by unfold pSym; rw [List.map_append]; rfl
def pPairs (A B : Aut) (op : Int) (q : List PrS × List (List Nat)) : PV := .agg [pInt (A.syms.toNat : Nat), .sl q.2.length (q.2.map pNats), .sl (q.1.map (prodF A B op)).length ((q.1.map (prodF A B op)).map pBool), pInts (pFrom q.1), pInts (pSym q.1)]
def RProd (A B : Aut) (op : Int) (p : PV) : Prop := (∃ q, prodQ A B = some q ∧ p = .tup [pPairs A B op q, pBool true]) ∨
 (prodQ A B = none ∧ ∃ u0 u1 u2 u3 u4 : Value, u0.oneCell' = true ∧ u1.oneCell' = true ∧ u2.oneCell' = true ∧ u3.oneCell' = true ∧ u4.oneCell' = true ∧ p = .tup [.agg [.val u0, .val u1, .val u2, .val u3, .val u4], pBool false])
theorem stPairs : stInfo Tryz.prog 95 = some (.agg #[.int .i64 0, .slice none 0 0, .slice none 0 0, .slice none 0 0, .slice none 0 0], [(0, 3), (3, 1), (4, 1)]) := by kernel_rfl
theorem tPi : PiT Tryz.prog 153 151 3 3 (.int .i64 0) := ⟨Tryz.underlying153, Tryz.underlying151, Tryz.underlying3, by kernel_rfl, by kernel_rfl, by kernel_rfl, by kernel_rfl, by kernel_rfl, fun a b => by kernel_rfl, ⟨Tryz.prog.types.size - 1, by kernel_rfl⟩, by show ZeroT _ _ _; unfold ZeroT; kernel_rfl⟩
set_option maxHeartbeats 4000000 in
theorem aProduct_e (A B : Aut) (op : Int) (hA : DetA A) (hB : DetA B) (hs : A.syms = B.syms) : AF Tryz.prog 104 [pAut A, pAut B, pInt op] (RProd A B op) := by
 have hAn1 := hA.ok.n1
 have hAn0 := hA.ok.n0
 have hBn1 := hB.ok.n1
 have hBn0 := hB.ok.n0
 have hs0 := hA.ok.s0
 have hs1 := hA.ok.s1
 have hsN : ((A.syms.toNat : Nat) : Int) = A.syms := by omega
 have hsB : B.syms.toNat = A.syms.toNat := by rw [hs]
 refine AF.of_body 152 Tryz.func104 rfl Tryz.ntmps104 (Nat.le_of_ble_eq_true rfl) ?_
 intro w0 M0 vs hl hv
 obtain ⟨v0, v1, v2, rfl⟩ := len3 hl
 obtain rfl := hv 2 _ _ rfl rfl
 clear hl hv
 refine nav ?_
 (refine aC_region ?_ <;> refine s_boxa 3 5 fun h3 => ?_ <;> refine s_boxa 4 5 fun h4 => ?_ <;> refine s_alloc [(.int .i64 0), (.slice none 0 0), (.slice none 0 0), (.slice none 0 0), (.slice none 0 0)] 5 6 tZr95_LfP fun h6 => ?_ <;> refine xL 7 q_assign ?_ <;> refine aL_end (nav ?_) <;> try dsimp only)
 (refine aC_draw (fun i => ([] : List Nat).elem i) [3, 4] (by kernel_rfl) ?_ <;> (refine yD 0 21 rfl (q_ldao 3 tAgg25_LdS) fun v21 hv21 => ?_; cases hv21) <;> (refine yD 2 23 rfl (q_ldao 4 tAgg25_LdS) fun v23 hv23 => ?_; cases hv23) <;> (refine aD_one 1 (by kernel_rfl) ?_) <;> (refine aW_call (d := 22) rfl (cA Tryz.call58 (aGraphOf_e A hA.ok)) fun v22 hv22 => ?_; cases hv22) <;> (refine aD_one 3 (by kernel_rfl) ?_) <;> (refine aW_call (d := 24) rfl (cA Tryz.call58 (aGraphOf_e B hB.ok)) fun v24 hv24 => ?_; cases hv24) <;> refine xE 4 8 rfl q_assign ?_ <;> refine xE 5 9 rfl q_assign ?_ <;> refine aD_end (by kernel_rfl) (nav ?_) <;> try dsimp only)
 (refine aC_region ?_ <;> refine xL 25 (q_fldo 3 tFl25_1_LdI) ?_ <;> (refine yL 26 (q_ldo 3 tNa3_LbB) fun v26 hv26 => ?_; cases hv26) <;> refine xL 27 (q_build tSt93_LfB) ?_ <;> refine s_lit1 (kk := 1) 28 tEl22_LdI fun h28 ho28 => ?_ <;> (refine s_lit1 (kk := 1) 29 tEl22_LdI fun h29 ho29 => ?_; have q28 : En.one (PV.val h28) = true := ho28; have q29 : En.one (PV.val h29) = true := ho29) <;> refine yL 30 (q_build311 stPairs rfl ho28 ho29) fun v30 _ => ?_ <;> refine s_alloc [(.int .i64 0), (.slice none 0 0), (.slice none 0 0), (.slice none 0 0), (.slice none 0 0)] 5 10 tZr95_LfP fun h10 => ?_ <;> refine s_sta 10 tAgg95_LfP ?_ <;> refine aL_end (nav ?_) <;> try dsimp only)
 refine aC_ent (nilCells (l := 10) [pInt A.syms, .own 22 1 0 [], .own 4 1 0 [], .val h28, .val h29] rfl rfl (fun i p p' h1 h2 => by
  match i with
  | 0 => cases h1; cases h2; exact .inl rfl
  | 1 => cases h1; cases h2; exact .inr ⟨rfl, _, _, rfl⟩
  | 2 => cases h1; cases h2; exact .inr ⟨rfl, _, _, rfl⟩
  | 3 => cases h1; cases h2; exact .inl rfl
  | 4 => cases h1; cases h2; exact .inl rfl
  | i + 5 => simp at h2)) fun _ => ?_
 refine aC_ent (focusO (l := 10) (l' := 301) (j := 1) rfl rfl rfl rfl) fun i => ?_
 obtain ⟨v301, ho301⟩ := i
 refine aC_ent (focusO (l := 10) (l' := 302) (j := 2) rfl rfl rfl rfl) fun i => ?_
 obtain ⟨v302, ho302⟩ := i
 dsimp only [List.set]
 refine aC_ent (relabel (l := 28) 303 rfl rfl) fun _ => ?_
 refine aC_ent (relabel (l := 29) 304 rfl rfl) fun _ => ?_
 refine aC_ent (recast (l := 303) (p' := .own 3 1 (pFrom [((0, 0), (-1, -1))]).length ((pFrom [((0, 0), (-1, -1))]).map pInt)) rfl rfl) fun _ => ?_
 refine aC_ent (recast (l := 304) (p' := .own 3 1 (pSym [((0, 0), (-1, -1))]).length ((pSym [((0, 0), (-1, -1))]).map pInt)) rfl rfl) fun _ => ?_
 (refine aC_region ?_ <;> refine xL 31 (q_build2 tAr151_LfP tZr151_LfP) ?_ <;> refine s_lit1a 32 tEl152_LfP fun h32 ho32 => ?_ <;> refine xL 11 q_assign ?_ <;> refine aL_end (nav ?_) <;> try dsimp only)
 refine aC_ent (relabel (l := 32) 305 rfl rfl) fun _ => ?_
 refine aC_ent (recast (l := 305) (p' := .own 151 2 ([((0, 0), (-1, -1))] : List PrS).length (([((0, 0), (-1, -1))] : List PrS).flatMap cPr)) rfl rfl) fun _ => ?_
 (refine aC_region ?_ <;> refine s_mkmap 33 fun h33 ho33 => ?_ <;> refine xL 34 (q_build2 tAr151_LfP tZr151_LfP) ?_ <;> (refine s_mput2 (m := []) (k := ((0 : Int), (0 : Int))) 33 tPi (fun x hx => by simp at hx) (by simp) ⟨by decide, by decide⟩ rfl ?_; rw [show ([] : List (Pi2 × Value)) ++ [(((0 : Int), (0 : Int)), Value.int .i64 0)] = numE keyI 0 [((0, 0), (-1, -1))] from rfl]) <;> refine xL 35 q_move ?_ <;> refine xL 12 q_assign ?_ <;> refine aL_end (nav ?_) <;> try dsimp only)
 refine aC_ent (relabel (l := 33) 306 rfl rfl) fun _ => ?_
 (refine aC_region ?_ <;> refine xL 13 q_assign ?_ <;> refine aL_end (nav ?_) <;> try dsimp only)
 refine aC_loop (ι := { q : Nat × Value × Value × Value × Value × Value × List PrS × List (List Nat) // (prodW A B).upto ((0, 0), (-1, -1)) q.1 = some (q.2.2.2.2.2.2.1, q.2.2.2.2.2.2.2) ∧ q.1 ≤ q.2.2.2.2.2.2.1.length ∧ q.2.1.oneCell' = true ∧ q.2.2.1.oneCell' = true ∧ q.2.2.2.1.oneCell' = true ∧ q.2.2.2.2.1.oneCell' = true ∧ q.2.2.2.2.2.1.oneCell' = true }) (fun k => ⟨[(2, _, _), (3, _, _), (4, _, _), (6, _, _), (7, _, _), (8, _, _), (9, _, _), (10, _, _), (12, _, _), (11, k.1.2.2.2.2.2.1, .val k.1.2.2.2.2.2.1), (13, .int .i64 k.1.1, pInt k.1.1)], [(3, _, _), (4, _, _), (6, _, _), (10, h10, .own 95 5 1 [pInt A.syms, .val k.1.2.1, .val k.1.2.2.1, .val k.1.2.2.2.1, .val k.1.2.2.2.2.1]), (301, k.1.2.1, .own 22 1 k.1.2.2.2.2.2.2.2.length (k.1.2.2.2.2.2.2.2.map pNats)), (302, k.1.2.2.1, .own 4 1 ((k.1.2.2.2.2.2.2.1.take k.1.1).map (prodF A B op)).length (((k.1.2.2.2.2.2.2.1.take k.1.1).map (prodF A B op)).map pBool)), (303, k.1.2.2.2.1, .own 3 1 (pFrom k.1.2.2.2.2.2.2.1).length ((pFrom k.1.2.2.2.2.2.2.1).map pInt)), (304, k.1.2.2.2.2.1, .own 3 1 (pSym k.1.2.2.2.2.2.2.1).length ((pSym k.1.2.2.2.2.2.2.1).map pInt)), (305, k.1.2.2.2.2.2.1, .own 151 2 k.1.2.2.2.2.2.2.1.length (k.1.2.2.2.2.2.2.1.flatMap cPr)), (306, h33, .omap (pikv (numE keyI 0 k.1.2.2.2.2.2.2.1)))]⟩) (fun k => 2000 - k.1.1) ⟨(0, v301, v302, h28, h29, h32, [((0, 0), (-1, -1))], []), rfl, Nat.zero_le _, ho301, ho302, ho28, ho29, ho32⟩ (fun a w H => H.weaken ⟨rfl, rfl, rfl, rfl, rfl, rfl, rfl, rfl, rfl, rfl, rfl, trivial⟩ ⟨rfl, rfl, rfl, rfl, rfl, rfl, rfl, rfl, rfl, rfl, trivial⟩) ?_
 rintro ⟨⟨i, r1, r2, r3, r4, r5, o, rows⟩, hU, hi, hr1, hr2, hr3, hr4, hr5⟩
 dsimp only
 dsimp only at hU hi hr1 hr2 hr3 hr4 hr5
 obtain ⟨hOk, hRl, _⟩ := prod_ok hA hB hs hU
 have hRl := hRl hi
 have hcap : o.length ≤ 2000 := hOk.cap
 have hfl : ((o.take i).map (prodF A B op)).length ≤ 2000 := by rw [List.length_map, List.length_take]; omega
 have q1 : En.one (PV.val r1) = true := hr1
 have q2 : En.one (PV.val r2) = true := hr2
 have q3 : En.one (PV.val r3) = true := hr3
 have q4 : En.one (PV.val r4) = true := hr4
 refine nav ?_
 (refine aC_region ?_ <;> refine xL 36 q_move ?_ <;> refine xL 37 q_move ?_ <;> refine xL 38 (q_leno 305 tSl152_LfP) ?_ <;> refine xL 39 q_lss ?_ <;> refine aL_end (nav ?_) <;> try dsimp only)
 (first | refine cCd ?_ ?_ | refine cC ?_ ?_) <;> intro hb39
 · first
   | exact Bool.noConfusion hb39
   | (
    obtain ⟨x, hx⟩ := get_some (show i < o.length by omega)
    have hxp := hOk.p x (List.mem_of_getElem? hx)
    have hx1 : x.1.1 < A.n.toNat := hxp.1
    have hx2 : x.1.2 < B.n.toNat := hxp.2
    have e1 : (o.flatMap cPr)[i * 2 + 0]? = some (pInt (x.1.1 : Nat)) := flat_at cPr_len hx (by decide)
    have e2 : (o.flatMap cPr)[i * 2 + 1]? = some (pInt (x.1.2 : Nat)) := flat_at cPr_len hx (by decide)
    refine nav ?_
    (refine aC_draw (fun i => ([] : List Nat).elem i) [305] (by kernel_rfl) ?_ <;> refine xD 0 42 rfl q_move ?_ <;> refine xD 1 43 rfl q_move ?_ <;> refine xD 2 44 rfl (q_idxoN 305 tSl152_LfP) ?_ <;> refine xD 3 45 rfl (q_idxa (len := 2) (i := 0) 305 (by kernel_rfl)) ?_ <;> (refine yD 4 46 rfl (q_ldo 305 tNa3_LbB) fun v46 hv46 => ?_; cases hv46) <;> refine xD 5 47 rfl q_move ?_ <;> refine xD 6 48 rfl q_move ?_ <;> refine xD 7 49 rfl (q_idxoN 305 tSl152_LfP) ?_ <;> refine xD 8 50 rfl (q_idxa (len := 2) (i := 1) 305 (by kernel_rfl)) ?_ <;> (refine yD 9 51 rfl (q_ldo 305 tNa3_LbB) fun v51 hv51 => ?_; cases hv51) <;> refine xE 10 14 rfl q_assign ?_ <;> refine xE 11 15 rfl q_assign ?_ <;> refine aD_end (by kernel_rfl) (nav ?_) <;> try dsimp only)
    (refine aC_region ?_ <;> refine xL 52 (q_fldo 3 tFl25_1_LdI) ?_ <;> (refine yL 53 (q_ldo 3 tNa3_LbB) fun v53 hv53 => ?_; cases hv53) <;> (refine s_make (n := A.syms.toNat) 54 tEl22_LdI (fun h54 ho54 => ?_) (hx := by rw [hsN]; exact rfl) (hy := by rw [hsN]; exact rfl) (hb := by omega)) <;> refine xL 16 q_assign ?_ <;> refine aL_end (nav ?_) <;> try dsimp only)
    rw [← rowAt_nil]
    (refine aC_region ?_ <;> refine xL 55 q_move ?_ <;> refine xL 56 (q_leno 54 tSl22_LbB) ?_ <;> refine xL 57 q_move ?_ <;> refine aL_end (nav ?_) <;> try dsimp only)
    refine aC_loop (ι := { q : Nat × Value × Value × Value × List PrS × List Nat // (prodW A B).row i x o q.1 = some (q.2.2.2.2.1, q.2.2.2.2.2) ∧ q.1 ≤ A.syms.toNat ∧ q.2.1.oneCell' = true ∧ q.2.2.1.oneCell' = true ∧ q.2.2.2.1.oneCell' = true }) (fun k => ⟨[(2, _, _), (3, _, _), (4, _, _), (6, _, _), (7, _, _), (8, _, _), (9, _, _), (10, _, _), (12, _, _), (13, _, _), (14, _, _), (15, _, _), (16, _, _), (56, _, _), (11, k.1.2.2.2.1, .val k.1.2.2.2.1), (57, .int .i64 k.1.1, pInt k.1.1)], [(3, _, _), (4, _, _), (6, _, _), (301, _, _), (302, _, _), (10, h10, .own 95 5 1 [pInt A.syms, .val r1, .val r2, .val k.1.2.1, .val k.1.2.2.1]), (303, k.1.2.1, .own 3 1 (pFrom k.1.2.2.2.2.1).length ((pFrom k.1.2.2.2.2.1).map pInt)), (304, k.1.2.2.1, .own 3 1 (pSym k.1.2.2.2.2.1).length ((pSym k.1.2.2.2.2.1).map pInt)), (305, k.1.2.2.2.1, .own 151 2 k.1.2.2.2.2.1.length (k.1.2.2.2.2.1.flatMap cPr)), (306, h33, .omap (pikv (numE keyI 0 k.1.2.2.2.2.1))), (54, h54, .own 3 1 A.syms.toNat (vec A.syms.toNat fun j => pInt (rowAt k.1.2.2.2.2.2 j)))]⟩) (fun k => A.syms.toNat - k.1.1) ⟨(0, r3, r4, r5, o, []), rfl, Nat.zero_le _, hr3, hr4, hr5⟩ (fun a w H => H.weaken ⟨rfl, rfl, rfl, rfl, rfl, rfl, rfl, rfl, rfl, rfl, rfl, rfl, rfl, rfl, rfl, rfl, trivial⟩ ⟨rfl, rfl, rfl, rfl, rfl, rfl, rfl, rfl, rfl, rfl, rfl, trivial⟩) ?_
    rintro ⟨⟨s, r3', r4', r5', o', r⟩, hW, hsm, hr3', hr4', hr5'⟩
    dsimp only
    dsimp only at hW hsm hr3' hr4' hr5'
    obtain ⟨hMt, hpr, hrl, _⟩ := hOk.toMet.row (fun s hs' => ⟨hA.sl _ _ hx1 hs', hB.sl _ _ hx2 (by have : s < A.syms.toNat := hs'; omega)⟩) (show s ≤ (prodW A B).m from hsm) hW
    have hcap' : o'.length ≤ 2000 := hMt.cap
    have hx' := preG_get hpr hx
    have hil := lt_of_get hx'
    have hpf : (pFrom o').length = o'.length := by unfold pFrom; rw [List.length_map]
    have hps : (pSym o').length = o'.length := by unfold pSym; rw [List.length_map]
    have q3' : En.one (PV.val r3') = true := hr3'
    have q4' : En.one (PV.val r4') = true := hr4'
    refine nav ?_
    (refine aC_region ?_ <;> refine xL 58 q_lss ?_ <;> refine aL_end (nav ?_) <;> try dsimp only)
    (first | refine cCd ?_ ?_ | refine cC ?_ ?_) <;> intro hb58
    · first
      | exact Bool.noConfusion hb58
      | (
       obtain ⟨mx, hm1, hm2, hm3⟩ := hA.mo x.1.1 s hx1 (by omega)
       obtain ⟨my, hn1, hn2, hn3⟩ := hB.mo x.1.2 s hx2 (by omega)
       have hml := hA.ml x.1.1 hx1
       have hnl := hB.ml x.1.2 hx2
       have d1 : ((List.range A.n.toNat).map fun s => pMvs (movesOf A s))[x.1.1 * 1]? = some (pMvs (movesOf A x.1.1)) := by rw [Nat.mul_one, range_at hx1]
       have d2 : ((List.range B.n.toNat).map fun s => pMvs (movesOf B s))[x.1.2 * 1]? = some (pMvs (movesOf B x.1.2)) := by rw [Nat.mul_one, range_at hx2]
       have d3 : ((movesOf A x.1.1).flatMap cMv)[s * 3 + 1]? = some (pInt (stepA A x.1.1 s : Nat)) := by rw [← hm3]; exact flat_at cMv_len hm1 (by decide)
       have d4 : ((movesOf B x.1.2).flatMap cMv)[s * 3 + 1]? = some (pInt (stepA B x.1.2 s : Nat)) := by rw [← hn3]; exact flat_at cMv_len hn1 (by decide)
       obtain ⟨y, hy⟩ : ∃ y : PrS, y = (prodW A B).step i x s := ⟨_, rfl⟩
       have hyk : keyI y = (((stepA A x.1.1 s : Nat) : Int), ((stepA B x.1.2 s : Nat) : Int)) := by rw [hy]; rfl
       have hy2 : y.2 = (((i : Nat) : Int), ((s : Nat) : Int)) := by rw [hy]; rfl
       have hyp : PairOk A B y := by rw [hy]; exact ⟨hA.sl _ _ hx1 (by omega), hB.sl _ _ hx2 (by omega)⟩
       have hy11 : y.1.1 = stepA A x.1.1 s := by rw [hy]; rfl
       have hy12 : y.1.2 = stepA B x.1.2 s := by rw [hy]; rfl
       have hyp1 : y.1.1 < A.n.toNat := hyp.1
       have hyp2 : y.1.2 < B.n.toNat := hyp.2
       rw [← hy11] at d3
       rw [← hy12] at d4
       have hid := keyI_id o' y
       have hlk := num_lookP o' y
       have hko : ∀ z ∈ numE keyI 0 o', piOk z.1 := fun z hz => by
        have hz1 : z.1 ∈ (numE keyI 0 o').map (·.1) := List.mem_map_of_mem hz
        rw [numE_keys] at hz1
        obtain ⟨u, hu, hue⟩ := List.mem_map.1 hz1
        have hup := hMt.p u hu
        have h1 : u.1.1 < A.n.toNat := hup.1
        have h2 : u.1.2 < B.n.toNat := hup.2
        rw [← hue]
        exact ⟨⟨by show (0 : Int) ≤ (u.1.1 : Nat); omega, by show ((u.1.1 : Nat) : Int) ≤ 1000000; omega⟩, ⟨by show (0 : Int) ≤ (u.1.2 : Nat); omega, by show ((u.1.2 : Nat) : Int) ≤ 1000000; omega⟩⟩
       have hkn : ((numE keyI 0 o').map (·.1)).Nodup := by
        rw [numE_keys]
        have hnd := hMt.nd
        refine map_nodup (nodup_of_map hnd) fun u hu v hv e => ?_
        obtain ⟨i1, hi1⟩ := List.getElem?_of_mem hu
        obtain ⟨i2, hi2⟩ := List.getElem?_of_mem hv
        have p1 := posK_idx hnd hi1
        have p2 := posK_idx hnd hi2
        have e2 : (prodW A B).key u = (prodW A B).key v := keyI_inj.1 e
        rw [e2, p2] at p1
        rw [p1, hi1] at hi2
        exact Option.some.inj hi2
       have hky : piOk (keyI y) := ⟨⟨by show (0 : Int) ≤ (y.1.1 : Nat); omega, by show ((y.1.1 : Nat) : Int) ≤ 1000000; omega⟩, ⟨by show (0 : Int) ≤ (y.1.2 : Nat); omega, by show ((y.1.2 : Nat) : Int) ≤ 1000000; omega⟩⟩
       have e3 := vec_len A.syms.toNat (fun j => pInt (rowAt r j))
       refine nav ?_
       (refine aC_region ?_ <;> refine xL 59 q_move ?_ <;> refine xL 17 q_assign ?_ <;> refine aL_end (nav ?_) <;> try dsimp only)
       (refine aC_draw (fun i => ([] : List Nat).elem i) [] (by kernel_rfl) ?_ <;> refine xD 0 60 rfl q_move ?_ <;> refine xD 1 61 rfl q_nilp ?_ <;> refine xD 2 62 rfl (q_fld tFl125_1_LdL) ?_ <;> (refine yD 3 63 rfl (q_ld tNa123_LdL) fun v63 hv63 => ?_; cases hv63) <;> refine xD 4 64 rfl q_move ?_ <;> refine xD 5 65 rfl (q_idxN tSl123_LdL) ?_ <;> (refine yD 6 66 rfl (q_ld tNa23_LdI) fun v66 hv66 => ?_; cases hv66) <;> refine xD 7 67 rfl q_move ?_ <;> refine xD 8 68 rfl (q_idxN tSl23_LdI) ?_ <;> refine xD 9 69 rfl (q_fld tFl72_1_LdI) ?_ <;> (refine yD 10 70 rfl (q_ld tNa3_LbB) fun v70 hv70 => ?_; cases hv70) <;> refine xD 11 71 rfl q_move ?_ <;> refine xD 12 72 rfl q_nilp ?_ <;> refine xD 13 73 rfl (q_fld tFl125_1_LdL) ?_ <;> (refine yD 14 74 rfl (q_ld tNa123_LdL) fun v74 hv74 => ?_; cases hv74) <;> refine xD 15 75 rfl q_move ?_ <;> refine xD 16 76 rfl (q_idxN tSl123_LdL) ?_ <;> (refine yD 17 77 rfl (q_ld tNa23_LdI) fun v77 hv77 => ?_; cases hv77) <;> refine xD 18 78 rfl q_move ?_ <;> refine xD 19 79 rfl (q_idxN tSl23_LdI) ?_ <;> refine xD 20 80 rfl (q_fld tFl72_1_LdI) ?_ <;> (refine yD 21 81 rfl (q_ld tNa3_LbB) fun v81 hv81 => ?_; cases hv81) <;> refine xD 22 82 rfl (q_build2 tAr151_LfP tZr151_LfP) ?_ <;> (refine aD_one 23 (by kernel_rfl) ?_) <;> (refine aW_run rfl fun w9 M9 N9 DQ back => ?_) <;> refine s_alloc [(.int .i64 0), (.int .i64 0)] 2 18 tZr151_LfP fun h18 => ?_ <;> refine aL_end (back _ (nrm ?_)) <;> (refine aD_one 24 (by kernel_rfl) ?_) <;> (refine aW_run rfl fun w9 M9 N9 DQ back => ?_) <;> refine s_sta 18 tAgg151_LfP ?_ <;> refine aL_end (back _ (nrm ?_)) <;> refine aD_end (by kernel_rfl) (nav ?_) <;> try dsimp only)
       (refine aC_region ?_ <;> refine xL 84 q_move ?_ <;> (refine yL 85 (q_ldao (k := 2) (ps := [pInt (y.1.1 : Nat), pInt (y.1.2 : Nat)]) 18 (by kernel_rfl)) fun v85 hv85 => ?_; cases hv85) <;> refine xL 86 (q_look2P (m := numE keyI 0 o') (k := keyI y) 306 tPi hko hkn hky hlk.1 hlk.2) ?_ <;> refine xL 83 q_move ?_ <;> refine xL 87 q_extract ?_ <;> refine xL 88 q_extract ?_ <;> refine xL 19 q_assign ?_ <;> refine xL 20 q_assign ?_ <;> refine aL_end (nav ?_) <;> try dsimp only)
       (refine aC_region ?_ <;> refine xL 89 q_move ?_ <;> refine xL 90 q_not ?_ <;> refine aL_end (nav ?_) <;> try dsimp only)
       refine aC_mid (fun z : { z : Value × Value × Value × List PrS × Nat // z.1.oneCell' = true ∧ z.2.1.oneCell' = true ∧ z.2.2.1.oneCell' = true ∧ visit (prodW A B).key (prodW A B).cap o' ((prodW A B).step i x s) = some (z.2.2.2.1, z.2.2.2.2) } => ⟨[(2, .int .i64 op, pInt op), (3, padd (sbase h3) 0, .val (padd (sbase h3) 0)), (4, padd (sbase h4) 0, .val (padd (sbase h4) 0)), (6, padd (sbase h6) 0, .val (padd (sbase h6) 0)), (7, .bool false, pBool false), (8, v22, pGr A), (9, v24, pGr B), (10, padd (sbase h10) 0, .val (padd (sbase h10) 0)), (11, z.1.2.2.1, .val z.1.2.2.1), (12, h33, .val h33), (13, .int .i64 i, pInt i), (14, .int .i64 x.1.1, pInt x.1.1), (15, .int .i64 x.1.2, pInt x.1.2), (16, h54, .val h54), (17, .int .i64 s, pInt s), (19, .int .i64 z.1.2.2.2.2, pInt z.1.2.2.2.2), (56, .int .i64 A.syms.toNat, pInt A.syms.toNat), (57, .int .i64 s, pInt s)], [(3, h3, .own 25 5 1 [pInt A.n, pInt A.syms, pInts A.start, pInts A.fin, pMvs A.moves]), (4, h4, .own 25 5 1 [pInt B.n, pInt B.syms, pInts B.start, pInts B.fin, pMvs B.moves]), (6, h6, .own 95 5 1 [pInt 0, .val (.slice none 0 0), .val (.slice none 0 0), .val (.slice none 0 0), .val (.slice none 0 0)]), (10, h10, .own 95 5 1 [pInt A.syms, .val r1, .val r2, .val z.1.1, .val z.1.2.1]), (301, r1, .own 22 1 rows.length (rows.map pNats)), (302, r2, .own 4 1 ((o.take i).map (prodF A B op)).length (((o.take i).map (prodF A B op)).map pBool)), (303, z.1.1, .own 3 1 (pFrom z.1.2.2.2.1).length ((pFrom z.1.2.2.2.1).map pInt)), (304, z.1.2.1, .own 3 1 (pSym z.1.2.2.2.1).length ((pSym z.1.2.2.2.1).map pInt)), (305, z.1.2.2.1, .own 151 2 z.1.2.2.2.1.length (z.1.2.2.2.1.flatMap cPr)), (306, h33, .omap (pikv (numE keyI 0 z.1.2.2.2.1))), (54, h54, .own 3 1 A.syms.toNat (vec A.syms.toNat fun j => pInt (rowAt r j)))]⟩) ?_ ?_
       · (first | refine cCd ?_ ?_ | refine cC ?_ ?_) <;> intro hb90
         · first
           | exact Bool.noConfusion hb90
           | (
            have hnew : ¬ posK keyI o' (keyI y) < o'.length := by simpa using hb90
            have hnew2 : ¬ posK (prodW A B).key o' ((prodW A B).key ((prodW A B).step i x s)) < o'.length := by
             rw [← hy]
             show ¬ posK Prod.fst o' y.1 < o'.length
             rw [← hid]; exact hnew
            have hno : aget (numE keyI 0 o') (keyI y) = none := by rw [numE_get, if_neg hnew]
            refine nav ?_
            (refine aC_region ?_ <;> refine xL 91 q_move ?_ <;> refine xL 92 (q_leno 305 tSl152_LfP) ?_ <;> refine xL 19 q_assign ?_ <;> refine aL_end (nav ?_) <;> try dsimp only)
            (refine aC_region ?_ <;> refine xL 93 q_move ?_ <;> refine xL 94 q_geq ?_ <;> refine aL_end (nav ?_) <;> try dsimp only)
            (first | refine cCd ?_ ?_ | refine cC ?_ ?_) <;> intro hb94
            · first
              | exact Bool.noConfusion hb94
              | (
               refine nav ?_
               (refine aC_region ?_ <;> (refine yL 95 (q_ldao (k := 5) (ps := [pInt A.syms, PV.val r1, PV.val r2, PV.val r3', PV.val r4']) 10 (by kernel_rfl)) fun v95 hv95 => ?_; cases hv95) <;> refine s_sta 6 tAgg95_LfP ?_ <;> refine xL 7 q_assign ?_ <;> refine aL_end (nav ?_) <;> try dsimp only)
               refine ret_cs (k := 5) 6 (by kernel_rfl) (Tryz.results104) rfl rfl rfl (Nat.le_of_ble_eq_true rfl) (by decide) rfl (.inr ⟨?_, _, _, _, _, _, rfl, hr1, hr2, hr3', hr4', rfl⟩)
               have hv := visit_no hnew2 (show (prodW A B).cap ≤ o'.length by show 2000 ≤ o'.length; omega)
               have h1 := Srch.row_fails (Srch.row_out hW hv) (show s + 1 ≤ (prodW A B).m by show s + 1 ≤ A.syms.toNat; omega)
               exact Srch.all_none (Srch.upto_out hU hx h1) (show i + 1 ≤ (prodW A B).cap by show i + 1 ≤ 2000; omega))
            · first
              | exact Bool.noConfusion hb94
              | (
               refine nav ?_
               (refine aC_region ?_ <;> refine xL 96 q_move ?_ <;> (refine yL 97 (q_ldao (k := 2) (ps := [pInt (y.1.1 : Nat), pInt (y.1.2 : Nat)]) 18 (by kernel_rfl)) fun v97 hv97 => ?_; cases hv97) <;> refine xL 98 q_move ?_ <;> (refine s_mput2 (m := numE keyI 0 o') (k := keyI y) 306 tPi hko hkn hky hno ?_; rw [show numE keyI 0 o' ++ [(keyI y, Value.int .i64 ((o'.length : Nat) : Int))] = numE keyI 0 (o' ++ [y]) by rw [numE_snoc, Nat.zero_add]]) <;> refine aL_end (nav ?_) <;> try dsimp only)
               (refine aC_draw (fun i => ([16, 17, 18] : List Nat).elem i) [10, 18] (by kernel_rfl) ?_ <;> refine xDT 0 99 rfl q_move ?_ <;> (refine yDT 1 100 rfl (q_ldao (k := 2) (ps := [pInt (y.1.1 : Nat), pInt (y.1.2 : Nat)]) 18 (by kernel_rfl)) fun v100 hv100 => ?_; cases hv100) <;> refine xDT 4 103 rfl (q_fldo 10 tFl95_1_LfP) ?_ <;> (refine yDT 5 104 rfl (q_ldo 10 tNa22_LdI) fun v104 hv104 => ?_; cases hv104) <;> refine xDT 6 105 rfl q_move ?_ <;> refine xDT 9 108 rfl (q_fldo 10 tFl95_2_LfP) ?_ <;> (refine yDT 10 109 rfl (q_ldo 10 tNa22_LdI) fun v109 hv109 => ?_; cases hv109) <;> refine xDT 11 110 rfl q_move ?_ <;> (refine aD_three 2 7 12 (by kernel_rfl) ?_ ?_ ?_; rotate_right; (focus ((refine aW_run rfl fun w9 M9 N9 DQ back => ?_) <;> refine s_lit1 (kk := 1) 111 tEl22_LdI fun h111 ho111 => ?_ <;> refine aL_end (back _ (nrm ?_)) <;> (refine aD_two 2 7 (by kernel_rfl) ?_ ?_; rotate_right; (focus ((refine aW_run rfl fun w9 M9 N9 DQ back => ?_) <;> refine s_lit1 (kk := 1) 106 tEl22_LdI fun h106 ho106 => ?_ <;> refine aL_end (back _ (nrm ?_)) <;> (refine aD_one 2 (by kernel_rfl) ?_) <;> (refine aW_run rfl fun w9 M9 N9 DQ back => ?_) <;> refine s_lit1a 101 tEl152_LfP fun h101 ho101 => ?_ <;> refine aL_end (back _ (nrm ?_)) <;> (refine aD_one 3 (by kernel_rfl) ?_) <;> (refine aW_run rfl fun w9 M9 N9 DQ back => ?_) <;> refine s_app 305 101 102 tEl152_LfP fun h102 ho102 => ?_ <;> refine aL_end (back _ (nrm ?_)) <;> (refine aD_one 8 (by kernel_rfl) ?_) <;> (refine aW_run rfl fun w9 M9 N9 DQ back => ?_) <;> (refine s_app 303 106 107 tEl22_LdI fun h107 ho107 => ?_; have q107 : En.one (PV.val h107) = true := ho107) <;> refine aL_end (back _ (nrm ?_)) <;> (refine aD_one 13 (by kernel_rfl) ?_) <;> (refine aW_run rfl fun w9 M9 N9 DQ back => ?_) <;> (refine s_app 304 111 112 tEl22_LdI fun h112 ho112 => ?_; have q112 : En.one (PV.val h112) = true := ho112) <;> refine aL_end (back _ (nrm ?_)) <;> refine xE 14 11 rfl q_assign ?_ <;> refine xE 15 113 rfl (q_fldo 10 tFl95_1_LfP) ?_)); rotate_right; (focus ((refine aW_run rfl fun w9 M9 N9 DQ back => ?_) <;> refine s_lit1a 101 tEl152_LfP fun h101 ho101 => ?_ <;> refine aL_end (back _ (nrm ?_)) <;> (refine aD_two 3 7 (by kernel_rfl) ?_ ?_; rotate_right; (focus ((refine aW_run rfl fun w9 M9 N9 DQ back => ?_) <;> refine s_lit1 (kk := 1) 106 tEl22_LdI fun h106 ho106 => ?_ <;> refine aL_end (back _ (nrm ?_)) <;> (refine aD_one 3 (by kernel_rfl) ?_) <;> (refine aW_run rfl fun w9 M9 N9 DQ back => ?_) <;> refine s_app 305 101 102 tEl152_LfP fun h102 ho102 => ?_ <;> refine aL_end (back _ (nrm ?_)) <;> (refine aD_one 8 (by kernel_rfl) ?_) <;> (refine aW_run rfl fun w9 M9 N9 DQ back => ?_) <;> (refine s_app 303 106 107 tEl22_LdI fun h107 ho107 => ?_; have q107 : En.one (PV.val h107) = true := ho107) <;> refine aL_end (back _ (nrm ?_)) <;> (refine aD_one 13 (by kernel_rfl) ?_) <;> (refine aW_run rfl fun w9 M9 N9 DQ back => ?_) <;> (refine s_app 304 111 112 tEl22_LdI fun h112 ho112 => ?_; have q112 : En.one (PV.val h112) = true := ho112) <;> refine aL_end (back _ (nrm ?_)) <;> refine xE 14 11 rfl q_assign ?_ <;> refine xE 15 113 rfl (q_fldo 10 tFl95_1_LfP) ?_)); rotate_right; (focus ((refine aW_run rfl fun w9 M9 N9 DQ back => ?_) <;> refine s_app 305 101 102 tEl152_LfP fun h102 ho102 => ?_ <;> refine aL_end (back _ (nrm ?_)) <;> (refine aD_one 7 (by kernel_rfl) ?_) <;> (refine aW_run rfl fun w9 M9 N9 DQ back => ?_) <;> refine s_lit1 (kk := 1) 106 tEl22_LdI fun h106 ho106 => ?_ <;> refine aL_end (back _ (nrm ?_)) <;> (refine aD_one 8 (by kernel_rfl) ?_) <;> (refine aW_run rfl fun w9 M9 N9 DQ back => ?_) <;> (refine s_app 303 106 107 tEl22_LdI fun h107 ho107 => ?_; have q107 : En.one (PV.val h107) = true := ho107) <;> refine aL_end (back _ (nrm ?_)) <;> (refine aD_one 13 (by kernel_rfl) ?_) <;> (refine aW_run rfl fun w9 M9 N9 DQ back => ?_) <;> (refine s_app 304 111 112 tEl22_LdI fun h112 ho112 => ?_; have q112 : En.one (PV.val h112) = true := ho112) <;> refine aL_end (back _ (nrm ?_)) <;> refine xE 14 11 rfl q_assign ?_ <;> refine xE 15 113 rfl (q_fldo 10 tFl95_1_LfP) ?_)))))))); rotate_right; (focus ((refine aW_run rfl fun w9 M9 N9 DQ back => ?_) <;> refine s_lit1 (kk := 1) 106 tEl22_LdI fun h106 ho106 => ?_ <;> refine aL_end (back _ (nrm ?_)) <;> (refine aD_two 2 12 (by kernel_rfl) ?_ ?_; rotate_right; (focus ((refine aW_run rfl fun w9 M9 N9 DQ back => ?_) <;> refine s_lit1 (kk := 1) 111 tEl22_LdI fun h111 ho111 => ?_ <;> refine aL_end (back _ (nrm ?_)) <;> (refine aD_one 2 (by kernel_rfl) ?_) <;> (refine aW_run rfl fun w9 M9 N9 DQ back => ?_) <;> refine s_lit1a 101 tEl152_LfP fun h101 ho101 => ?_ <;> refine aL_end (back _ (nrm ?_)) <;> (refine aD_one 3 (by kernel_rfl) ?_) <;> (refine aW_run rfl fun w9 M9 N9 DQ back => ?_) <;> refine s_app 305 101 102 tEl152_LfP fun h102 ho102 => ?_ <;> refine aL_end (back _ (nrm ?_)) <;> (refine aD_one 8 (by kernel_rfl) ?_) <;> (refine aW_run rfl fun w9 M9 N9 DQ back => ?_) <;> (refine s_app 303 106 107 tEl22_LdI fun h107 ho107 => ?_; have q107 : En.one (PV.val h107) = true := ho107) <;> refine aL_end (back _ (nrm ?_)) <;> (refine aD_one 13 (by kernel_rfl) ?_) <;> (refine aW_run rfl fun w9 M9 N9 DQ back => ?_) <;> (refine s_app 304 111 112 tEl22_LdI fun h112 ho112 => ?_; have q112 : En.one (PV.val h112) = true := ho112) <;> refine aL_end (back _ (nrm ?_)) <;> refine xE 14 11 rfl q_assign ?_ <;> refine xE 15 113 rfl (q_fldo 10 tFl95_1_LfP) ?_)); rotate_right; (focus ((refine aW_run rfl fun w9 M9 N9 DQ back => ?_) <;> refine s_lit1a 101 tEl152_LfP fun h101 ho101 => ?_ <;> refine aL_end (back _ (nrm ?_)) <;> (refine aD_two 3 12 (by kernel_rfl) ?_ ?_; rotate_right; (focus ((refine aW_run rfl fun w9 M9 N9 DQ back => ?_) <;> refine s_lit1 (kk := 1) 111 tEl22_LdI fun h111 ho111 => ?_ <;> refine aL_end (back _ (nrm ?_)) <;> (refine aD_one 3 (by kernel_rfl) ?_) <;> (refine aW_run rfl fun w9 M9 N9 DQ back => ?_) <;> refine s_app 305 101 102 tEl152_LfP fun h102 ho102 => ?_ <;> refine aL_end (back _ (nrm ?_)) <;> (refine aD_one 8 (by kernel_rfl) ?_) <;> (refine aW_run rfl fun w9 M9 N9 DQ back => ?_) <;> (refine s_app 303 106 107 tEl22_LdI fun h107 ho107 => ?_; have q107 : En.one (PV.val h107) = true := ho107) <;> refine aL_end (back _ (nrm ?_)) <;> (refine aD_one 13 (by kernel_rfl) ?_) <;> (refine aW_run rfl fun w9 M9 N9 DQ back => ?_) <;> (refine s_app 304 111 112 tEl22_LdI fun h112 ho112 => ?_; have q112 : En.one (PV.val h112) = true := ho112) <;> refine aL_end (back _ (nrm ?_)) <;> refine xE 14 11 rfl q_assign ?_ <;> refine xE 15 113 rfl (q_fldo 10 tFl95_1_LfP) ?_)); rotate_right; (focus ((refine aW_run rfl fun w9 M9 N9 DQ back => ?_) <;> refine s_app 305 101 102 tEl152_LfP fun h102 ho102 => ?_ <;> refine aL_end (back _ (nrm ?_)) <;> (refine aD_two 8 12 (by kernel_rfl) ?_ ?_; rotate_right; (focus ((refine aW_run rfl fun w9 M9 N9 DQ back => ?_) <;> refine s_lit1 (kk := 1) 111 tEl22_LdI fun h111 ho111 => ?_ <;> refine aL_end (back _ (nrm ?_)) <;> (refine aD_one 8 (by kernel_rfl) ?_) <;> (refine aW_run rfl fun w9 M9 N9 DQ back => ?_) <;> (refine s_app 303 106 107 tEl22_LdI fun h107 ho107 => ?_; have q107 : En.one (PV.val h107) = true := ho107) <;> refine aL_end (back _ (nrm ?_)) <;> (refine aD_one 13 (by kernel_rfl) ?_) <;> (refine aW_run rfl fun w9 M9 N9 DQ back => ?_) <;> (refine s_app 304 111 112 tEl22_LdI fun h112 ho112 => ?_; have q112 : En.one (PV.val h112) = true := ho112) <;> refine aL_end (back _ (nrm ?_)) <;> refine xE 14 11 rfl q_assign ?_ <;> refine xE 15 113 rfl (q_fldo 10 tFl95_1_LfP) ?_)); rotate_right; (focus ((refine aW_run rfl fun w9 M9 N9 DQ back => ?_) <;> (refine s_app 303 106 107 tEl22_LdI fun h107 ho107 => ?_; have q107 : En.one (PV.val h107) = true := ho107) <;> refine aL_end (back _ (nrm ?_)) <;> (refine aD_one 12 (by kernel_rfl) ?_) <;> (refine aW_run rfl fun w9 M9 N9 DQ back => ?_) <;> refine s_lit1 (kk := 1) 111 tEl22_LdI fun h111 ho111 => ?_ <;> refine aL_end (back _ (nrm ?_)) <;> (refine aD_one 13 (by kernel_rfl) ?_) <;> (refine aW_run rfl fun w9 M9 N9 DQ back => ?_) <;> (refine s_app 304 111 112 tEl22_LdI fun h112 ho112 => ?_; have q112 : En.one (PV.val h112) = true := ho112) <;> refine aL_end (back _ (nrm ?_)) <;> refine xE 14 11 rfl q_assign ?_ <;> refine xE 15 113 rfl (q_fldo 10 tFl95_1_LfP) ?_))))))))))); rotate_right; (focus ((refine aW_run rfl fun w9 M9 N9 DQ back => ?_) <;> refine s_lit1a 101 tEl152_LfP fun h101 ho101 => ?_ <;> refine aL_end (back _ (nrm ?_)) <;> (refine aD_three 3 7 12 (by kernel_rfl) ?_ ?_ ?_; rotate_right; (focus ((refine aW_run rfl fun w9 M9 N9 DQ back => ?_) <;> refine s_lit1 (kk := 1) 111 tEl22_LdI fun h111 ho111 => ?_ <;> refine aL_end (back _ (nrm ?_)) <;> (refine aD_two 3 7 (by kernel_rfl) ?_ ?_; rotate_right; (focus ((refine aW_run rfl fun w9 M9 N9 DQ back => ?_) <;> refine s_lit1 (kk := 1) 106 tEl22_LdI fun h106 ho106 => ?_ <;> refine aL_end (back _ (nrm ?_)) <;> (refine aD_one 3 (by kernel_rfl) ?_) <;> (refine aW_run rfl fun w9 M9 N9 DQ back => ?_) <;> refine s_app 305 101 102 tEl152_LfP fun h102 ho102 => ?_ <;> refine aL_end (back _ (nrm ?_)) <;> (refine aD_one 8 (by kernel_rfl) ?_) <;> (refine aW_run rfl fun w9 M9 N9 DQ back => ?_) <;> (refine s_app 303 106 107 tEl22_LdI fun h107 ho107 => ?_; have q107 : En.one (PV.val h107) = true := ho107) <;> refine aL_end (back _ (nrm ?_)) <;> (refine aD_one 13 (by kernel_rfl) ?_) <;> (refine aW_run rfl fun w9 M9 N9 DQ back => ?_) <;> (refine s_app 304 111 112 tEl22_LdI fun h112 ho112 => ?_; have q112 : En.one (PV.val h112) = true := ho112) <;> refine aL_end (back _ (nrm ?_)) <;> refine xE 14 11 rfl q_assign ?_ <;> refine xE 15 113 rfl (q_fldo 10 tFl95_1_LfP) ?_)); rotate_right; (focus ((refine aW_run rfl fun w9 M9 N9 DQ back => ?_) <;> refine s_app 305 101 102 tEl152_LfP fun h102 ho102 => ?_ <;> refine aL_end (back _ (nrm ?_)) <;> (refine aD_one 7 (by kernel_rfl) ?_) <;> (refine aW_run rfl fun w9 M9 N9 DQ back => ?_) <;> refine s_lit1 (kk := 1) 106 tEl22_LdI fun h106 ho106 => ?_ <;> refine aL_end (back _ (nrm ?_)) <;> (refine aD_one 8 (by kernel_rfl) ?_) <;> (refine aW_run rfl fun w9 M9 N9 DQ back => ?_) <;> (refine s_app 303 106 107 tEl22_LdI fun h107 ho107 => ?_; have q107 : En.one (PV.val h107) = true := ho107) <;> refine aL_end (back _ (nrm ?_)) <;> (refine aD_one 13 (by kernel_rfl) ?_) <;> (refine aW_run rfl fun w9 M9 N9 DQ back => ?_) <;> (refine s_app 304 111 112 tEl22_LdI fun h112 ho112 => ?_; have q112 : En.one (PV.val h112) = true := ho112) <;> refine aL_end (back _ (nrm ?_)) <;> refine xE 14 11 rfl q_assign ?_ <;> refine xE 15 113 rfl (q_fldo 10 tFl95_1_LfP) ?_))))); rotate_right; (focus ((refine aW_run rfl fun w9 M9 N9 DQ back => ?_) <;> refine s_lit1 (kk := 1) 106 tEl22_LdI fun h106 ho106 => ?_ <;> refine aL_end (back _ (nrm ?_)) <;> (refine aD_two 3 12 (by kernel_rfl) ?_ ?_; rotate_right; (focus ((refine aW_run rfl fun w9 M9 N9 DQ back => ?_) <;> refine s_lit1 (kk := 1) 111 tEl22_LdI fun h111 ho111 => ?_ <;> refine aL_end (back _ (nrm ?_)) <;> (refine aD_one 3 (by kernel_rfl) ?_) <;> (refine aW_run rfl fun w9 M9 N9 DQ back => ?_) <;> refine s_app 305 101 102 tEl152_LfP fun h102 ho102 => ?_ <;> refine aL_end (back _ (nrm ?_)) <;> (refine aD_one 8 (by kernel_rfl) ?_) <;> (refine aW_run rfl fun w9 M9 N9 DQ back => ?_) <;> (refine s_app 303 106 107 tEl22_LdI fun h107 ho107 => ?_; have q107 : En.one (PV.val h107) = true := ho107) <;> refine aL_end (back _ (nrm ?_)) <;> (refine aD_one 13 (by kernel_rfl) ?_) <;> (refine aW_run rfl fun w9 M9 N9 DQ back => ?_) <;> (refine s_app 304 111 112 tEl22_LdI fun h112 ho112 => ?_; have q112 : En.one (PV.val h112) = true := ho112) <;> refine aL_end (back _ (nrm ?_)) <;> refine xE 14 11 rfl q_assign ?_ <;> refine xE 15 113 rfl (q_fldo 10 tFl95_1_LfP) ?_)); rotate_right; (focus ((refine aW_run rfl fun w9 M9 N9 DQ back => ?_) <;> refine s_app 305 101 102 tEl152_LfP fun h102 ho102 => ?_ <;> refine aL_end (back _ (nrm ?_)) <;> (refine aD_two 8 12 (by kernel_rfl) ?_ ?_; rotate_right; (focus ((refine aW_run rfl fun w9 M9 N9 DQ back => ?_) <;> refine s_lit1 (kk := 1) 111 tEl22_LdI fun h111 ho111 => ?_ <;> refine aL_end (back _ (nrm ?_)) <;> (refine aD_one 8 (by kernel_rfl) ?_) <;> (refine aW_run rfl fun w9 M9 N9 DQ back => ?_) <;> (refine s_app 303 106 107 tEl22_LdI fun h107 ho107 => ?_; have q107 : En.one (PV.val h107) = true := ho107) <;> refine aL_end (back _ (nrm ?_)) <;> (refine aD_one 13 (by kernel_rfl) ?_) <;> (refine aW_run rfl fun w9 M9 N9 DQ back => ?_) <;> (refine s_app 304 111 112 tEl22_LdI fun h112 ho112 => ?_; have q112 : En.one (PV.val h112) = true := ho112) <;> refine aL_end (back _ (nrm ?_)) <;> refine xE 14 11 rfl q_assign ?_ <;> refine xE 15 113 rfl (q_fldo 10 tFl95_1_LfP) ?_)); rotate_right; (focus ((refine aW_run rfl fun w9 M9 N9 DQ back => ?_) <;> (refine s_app 303 106 107 tEl22_LdI fun h107 ho107 => ?_; have q107 : En.one (PV.val h107) = true := ho107) <;> refine aL_end (back _ (nrm ?_)) <;> (refine aD_one 12 (by kernel_rfl) ?_) <;> (refine aW_run rfl fun w9 M9 N9 DQ back => ?_) <;> refine s_lit1 (kk := 1) 111 tEl22_LdI fun h111 ho111 => ?_ <;> refine aL_end (back _ (nrm ?_)) <;> (refine aD_one 13 (by kernel_rfl) ?_) <;> (refine aW_run rfl fun w9 M9 N9 DQ back => ?_) <;> (refine s_app 304 111 112 tEl22_LdI fun h112 ho112 => ?_; have q112 : En.one (PV.val h112) = true := ho112) <;> refine aL_end (back _ (nrm ?_)) <;> refine xE 14 11 rfl q_assign ?_ <;> refine xE 15 113 rfl (q_fldo 10 tFl95_1_LfP) ?_)))))))); rotate_right; (focus ((refine aW_run rfl fun w9 M9 N9 DQ back => ?_) <;> refine s_app 305 101 102 tEl152_LfP fun h102 ho102 => ?_ <;> refine aL_end (back _ (nrm ?_)) <;> (refine aD_two 7 12 (by kernel_rfl) ?_ ?_; rotate_right; (focus ((refine aW_run rfl fun w9 M9 N9 DQ back => ?_) <;> refine s_lit1 (kk := 1) 111 tEl22_LdI fun h111 ho111 => ?_ <;> refine aL_end (back _ (nrm ?_)) <;> (refine aD_one 7 (by kernel_rfl) ?_) <;> (refine aW_run rfl fun w9 M9 N9 DQ back => ?_) <;> refine s_lit1 (kk := 1) 106 tEl22_LdI fun h106 ho106 => ?_ <;> refine aL_end (back _ (nrm ?_)) <;> (refine aD_one 8 (by kernel_rfl) ?_) <;> (refine aW_run rfl fun w9 M9 N9 DQ back => ?_) <;> (refine s_app 303 106 107 tEl22_LdI fun h107 ho107 => ?_; have q107 : En.one (PV.val h107) = true := ho107) <;> refine aL_end (back _ (nrm ?_)) <;> (refine aD_one 13 (by kernel_rfl) ?_) <;> (refine aW_run rfl fun w9 M9 N9 DQ back => ?_) <;> (refine s_app 304 111 112 tEl22_LdI fun h112 ho112 => ?_; have q112 : En.one (PV.val h112) = true := ho112) <;> refine aL_end (back _ (nrm ?_)) <;> refine xE 14 11 rfl q_assign ?_ <;> refine xE 15 113 rfl (q_fldo 10 tFl95_1_LfP) ?_)); rotate_right; (focus ((refine aW_run rfl fun w9 M9 N9 DQ back => ?_) <;> refine s_lit1 (kk := 1) 106 tEl22_LdI fun h106 ho106 => ?_ <;> refine aL_end (back _ (nrm ?_)) <;> (refine aD_two 8 12 (by kernel_rfl) ?_ ?_; rotate_right; (focus ((refine aW_run rfl fun w9 M9 N9 DQ back => ?_) <;> refine s_lit1 (kk := 1) 111 tEl22_LdI fun h111 ho111 => ?_ <;> refine aL_end (back _ (nrm ?_)) <;> (refine aD_one 8 (by kernel_rfl) ?_) <;> (refine aW_run rfl fun w9 M9 N9 DQ back => ?_) <;> (refine s_app 303 106 107 tEl22_LdI fun h107 ho107 => ?_; have q107 : En.one (PV.val h107) = true := ho107) <;> refine aL_end (back _ (nrm ?_)) <;> (refine aD_one 13 (by kernel_rfl) ?_) <;> (refine aW_run rfl fun w9 M9 N9 DQ back => ?_) <;> (refine s_app 304 111 112 tEl22_LdI fun h112 ho112 => ?_; have q112 : En.one (PV.val h112) = true := ho112) <;> refine aL_end (back _ (nrm ?_)) <;> refine xE 14 11 rfl q_assign ?_ <;> refine xE 15 113 rfl (q_fldo 10 tFl95_1_LfP) ?_)); rotate_right; (focus ((refine aW_run rfl fun w9 M9 N9 DQ back => ?_) <;> (refine s_app 303 106 107 tEl22_LdI fun h107 ho107 => ?_; have q107 : En.one (PV.val h107) = true := ho107) <;> refine aL_end (back _ (nrm ?_)) <;> (refine aD_one 12 (by kernel_rfl) ?_) <;> (refine aW_run rfl fun w9 M9 N9 DQ back => ?_) <;> refine s_lit1 (kk := 1) 111 tEl22_LdI fun h111 ho111 => ?_ <;> refine aL_end (back _ (nrm ?_)) <;> (refine aD_one 13 (by kernel_rfl) ?_) <;> (refine aW_run rfl fun w9 M9 N9 DQ back => ?_) <;> (refine s_app 304 111 112 tEl22_LdI fun h112 ho112 => ?_; have q112 : En.one (PV.val h112) = true := ho112) <;> refine aL_end (back _ (nrm ?_)) <;> refine xE 14 11 rfl q_assign ?_ <;> refine xE 15 113 rfl (q_fldo 10 tFl95_1_LfP) ?_)))))))))))) <;> (refine aD_one 16 (by kernel_rfl) ?_) <;> (refine aW_thenZ rfl rfl fun DQ back => ?_) <;> refine s_st 10 tNa22_LdI tSz22_LdK ?_ <;> refine aL_end (back _ ?_) <;> (refine aDZ_one 17 (by kernel_rfl) rfl rfl fun DQ back => ?_) <;> refine xL 114 (q_fldo 10 tFl95_2_LfP) ?_ <;> refine aL_end (back _ ?_) <;> (refine aDZ_one 18 (by kernel_rfl) rfl rfl fun DQ back => ?_) <;> refine s_st 10 tNa22_LdI tSz22_LdK ?_ <;> refine aL_end (back _ ?_) <;> refine aDZ_end (by kernel_rfl) (nav ?_) <;> try dsimp only) <;> (
                first
                 | (refine aN_ent (relabel (l := 102) 305 rfl rfl) fun _ => ?_
                    refine aN_ent (recast (l := 305) rfl (snoc_pr _ o' y)) fun _ => ?_
                    refine aN_ent (relabel (l := 107) 303 rfl rfl) fun _ => ?_
                    refine aN_ent (recast (l := 303) (p' := .own 3 1 (pFrom (o' ++ [y])).length ((pFrom (o' ++ [y])).map pInt)) rfl ((own_ints _ (pFrom o') i).trans (by rw [from_snoc, hy2]))) fun _ => ?_
                    refine aN_ent (relabel (l := 112) 304 rfl rfl) fun _ => ?_
                    refine aN_ent (recast (l := 304) (p' := .own 3 1 (pSym (o' ++ [y])).length ((pSym (o' ++ [y])).map pInt)) rfl ((own_ints _ (pSym o') s).trans (by rw [sym_snoc, hy2]))) fun _ => ?_
                    exact aN_join ⟨(h107, h112, h102, o' ++ [y], o'.length), ho107, ho112, ho102, by dsimp only; rw [hy]; exact visit_new hnew2 (show o'.length < 2000 by omega)⟩ ⟨rfl, rfl, rfl, rfl, rfl, rfl, rfl, rfl, rfl, rfl, rfl, rfl, rfl, rfl, rfl, rfl, rfl, rfl, trivial⟩ ⟨rfl, rfl, rfl, rfl, rfl, rfl, rfl, rfl, rfl, rfl, rfl, trivial⟩)
                 | exact aN_join ⟨(r3', r4', r5', o', posK keyI o' (keyI y)), hr3', hr4', hr5', by dsimp only; rw [hid, hy]; exact visit_old hold2⟩ ⟨rfl, rfl, rfl, rfl, rfl, rfl, rfl, rfl, rfl, rfl, rfl, rfl, rfl, rfl, rfl, rfl, rfl, rfl, trivial⟩ ⟨rfl, rfl, rfl, rfl, rfl, rfl, rfl, rfl, rfl, rfl, rfl, trivial⟩)))
         · first
           | exact Bool.noConfusion hb90
           | (
            have hold : posK keyI o' (keyI y) < o'.length := by simpa using hb90
            have hold2 : posK (prodW A B).key o' ((prodW A B).key ((prodW A B).step i x s)) < o'.length := by
             rw [← hy]
             show posK Prod.fst o' y.1 < o'.length
             rw [← hid]; exact hold
            rw [if_pos hold]
            refine nav ?_
            first
             | (refine aN_ent (relabel (l := 102) 305 rfl rfl) fun _ => ?_
                refine aN_ent (recast (l := 305) rfl (snoc_pr _ o' y)) fun _ => ?_
                refine aN_ent (relabel (l := 107) 303 rfl rfl) fun _ => ?_
                refine aN_ent (recast (l := 303) (p' := .own 3 1 (pFrom (o' ++ [y])).length ((pFrom (o' ++ [y])).map pInt)) rfl ((own_ints _ (pFrom o') i).trans (by rw [from_snoc, hy2]))) fun _ => ?_
                refine aN_ent (relabel (l := 112) 304 rfl rfl) fun _ => ?_
                refine aN_ent (recast (l := 304) (p' := .own 3 1 (pSym (o' ++ [y])).length ((pSym (o' ++ [y])).map pInt)) rfl ((own_ints _ (pSym o') s).trans (by rw [sym_snoc, hy2]))) fun _ => ?_
                exact aN_join ⟨(h107, h112, h102, o' ++ [y], o'.length), ho107, ho112, ho102, by dsimp only; rw [hy]; exact visit_new hnew2 (show o'.length < 2000 by omega)⟩ ⟨rfl, rfl, rfl, rfl, rfl, rfl, rfl, rfl, rfl, rfl, rfl, rfl, rfl, rfl, rfl, rfl, rfl, rfl, trivial⟩ ⟨rfl, rfl, rfl, rfl, rfl, rfl, rfl, rfl, rfl, rfl, rfl, trivial⟩)
             | exact aN_join ⟨(r3', r4', r5', o', posK keyI o' (keyI y)), hr3', hr4', hr5', by dsimp only; rw [hid, hy]; exact visit_old hold2⟩ ⟨rfl, rfl, rfl, rfl, rfl, rfl, rfl, rfl, rfl, rfl, rfl, rfl, rfl, rfl, rfl, rfl, rfl, rfl, trivial⟩ ⟨rfl, rfl, rfl, rfl, rfl, rfl, rfl, rfl, rfl, rfl, rfl, trivial⟩)
       · rintro ⟨⟨g3, g4, g5, o2, n2⟩, w3, w4, w5, hvis⟩
         dsimp only at w3 w4 w5 hvis ⊢
         refine nav ?_
         (refine aC_region ?_ <;> refine xL 115 q_move ?_ <;> refine xL 116 q_move ?_ <;> refine xL 117 q_move ?_ <;> refine xL 118 (q_idxoN 54 tSl22_LbB) ?_ <;> refine s_st 54 tNa3_LbB tSz3_LdJ ?_ <;> refine aL_end (nav ?_) <;> try dsimp only)
         (refine aC_region ?_ <;> refine xL 119 q_add ?_ <;> refine xL 57 q_move ?_ <;> refine aL_end (nav ?_) <;> try dsimp only)
         rw [show s * 1 = r.length * 1 by omega, rowAt_set _ (by omega)]
         refine aN_again (
          ⟨(s + 1, g3, g4, g5, o2, r ++ [n2]), Srch.row_snoc hW hvis, (by dsimp only; omega), w3, w4, w5⟩
          ) (by dsimp only; omega) ⟨rfl, rfl, rfl, rfl, rfl, rfl, rfl, rfl, rfl, rfl, rfl, rfl, rfl, rfl, rfl, rfl, trivial⟩ ⟨rfl, rfl, rfl, rfl, rfl, rfl, rfl, rfl, rfl, rfl, rfl, trivial⟩)
    · first
      | exact Bool.noConfusion hb58
      | (
       have hse : s = A.syms.toNat := by omega
       subst hse
       have hU2 := Srch.upto_snoc hU hx hW
       have htk : o'.take (i + 1) = (o.take i) ++ [x] := by
        rw [take_snoc hx']
        obtain ⟨e, rfl⟩ := hpr
        rw [List.take_append_of_le_length hi]
       have f1 : ((List.range A.n.toNat).map fun s => pBool (finB A (s : Nat)))[x.1.1 * 1]? = some (pBool (finB A (x.1.1 : Nat))) := by rw [Nat.mul_one, range_at hx1]
       have f2 : ((List.range B.n.toNat).map fun s => pBool (finB B (s : Nat)))[x.1.2 * 1]? = some (pBool (finB B (x.1.2 : Nat))) := by rw [Nat.mul_one, range_at hx2]
       refine nav ?_
       refine aC_ent (En.freeze (l := 54) (t := 16) rfl rfl) fun _ => ?_
       rw [share_row _ _ _ hrl]
       (refine aC_draw (fun i => ([29, 30, 31, 32] : List Nat).elem i) [10] (by kernel_rfl) ?_ <;> refine xDT 0 120 rfl (q_fldo 10 tFl95_0_LfP) ?_ <;> refine xDT 1 121 rfl (q_fldo 10 tFl93_1_LfB) ?_ <;> (refine yDT 2 122 rfl (q_ldo 10 tNa28_LfB) fun v122 hv122 => ?_; cases hv122) <;> refine xDT 3 123 rfl q_move ?_ <;> refine xDT 6 126 rfl (q_fldo 10 tFl95_0_LfP) ?_ <;> refine xDT 7 127 rfl (q_fldo 10 tFl93_2_LfB) ?_ <;> (refine yDT 8 128 rfl (q_ldo 10 tNa66_LdJ) fun v128 hv128 => ?_; cases hv128) <;> refine xDT 9 129 rfl q_move ?_ <;> refine xDT 10 130 rfl q_move ?_ <;> refine xDT 11 131 rfl q_nilp ?_ <;> refine xDT 12 132 rfl (q_fld tFl125_2_LdJ) ?_ <;> (refine yDT 13 133 rfl (q_ld tNa66_LdJ) fun v133 hv133 => ?_; cases hv133) <;> refine xDT 14 134 rfl q_move ?_ <;> refine xDT 15 135 rfl (q_idxN tSl66_LdJ) ?_ <;> (refine yDT 16 136 rfl (q_ld tNa4_LdJ) fun v136 hv136 => ?_; cases hv136) <;> refine xDT 17 137 rfl q_move ?_ <;> refine xDT 18 138 rfl q_nilp ?_ <;> refine xDT 19 139 rfl (q_fld tFl125_2_LdJ) ?_ <;> (refine yDT 20 140 rfl (q_ld tNa66_LdJ) fun v140 hv140 => ?_; cases hv140) <;> refine xDT 21 141 rfl q_move ?_ <;> refine xDT 22 142 rfl (q_idxN tSl66_LdJ) ?_ <;> (refine yDT 23 143 rfl (q_ld tNa4_LdJ) fun v143 hv143 => ?_; cases hv143) <;> (refine aD_one 4 (by kernel_rfl) ?_) <;> (refine aW_run rfl fun w9 M9 N9 DQ back => ?_) <;> refine s_lit1 (kk := 1) 124 tEl28_LdS fun h124 ho124 => ?_ <;> refine aL_end (back _ (nrm ?_)) <;> (refine aD_one 5 (by kernel_rfl) ?_) <;> (refine aW_run rfl fun w9 M9 N9 DQ back => ?_) <;> (refine s_app 301 124 125 tEl28_LdS fun h125 ho125 => ?_; have q125 : En.one (PV.val h125) = true := ho125) <;> refine aL_end (back _ (nrm ?_)) <;> refine xDT 27 147 rfl (q_fldo 10 tFl95_0_LfP) ?_ <;> refine xDT 28 148 rfl (q_fldo 10 tFl93_1_LfB) ?_ <;> (refine aD_one 24 (by kernel_rfl) ?_) <;> (refine aW_call (d := 144) rfl (cA Tryz.call120 (aDecides_e op (finB A (x.1.1 : Nat)) (finB B (x.1.2 : Nat)))) fun v144 hv144 => ?_; cases hv144) <;> (refine aD_one 25 (by kernel_rfl) ?_) <;> (refine aW_run rfl fun w9 M9 N9 DQ back => ?_) <;> refine s_lit1 (kk := 1) 145 tEl66_LdR fun h145 ho145 => ?_ <;> refine aL_end (back _ (nrm ?_)) <;> (refine aD_one 26 (by kernel_rfl) ?_) <;> (refine aW_run rfl fun w9 M9 N9 DQ back => ?_) <;> (refine s_app 302 145 146 tEl66_LdR fun h146 ho146 => ?_; have q146 : En.one (PV.val h146) = true := ho146) <;> refine aL_end (back _ (nrm ?_)) <;> (refine aD_one 29 (by kernel_rfl) ?_) <;> (refine aW_thenZ rfl rfl fun DQ back => ?_) <;> refine s_st 10 tNa28_LfB tSz28_LfB ?_ <;> refine aL_end (back _ ?_) <;> (refine aDZ_one 30 (by kernel_rfl) rfl rfl fun DQ back => ?_) <;> refine xL 149 (q_fldo 10 tFl95_0_LfP) ?_ <;> refine aL_end (back _ ?_) <;> (refine aDZ_one 31 (by kernel_rfl) rfl rfl fun DQ back => ?_) <;> refine xL 150 (q_fldo 10 tFl93_2_LfB) ?_ <;> refine aL_end (back _ ?_) <;> (refine aDZ_one 32 (by kernel_rfl) rfl rfl fun DQ back => ?_) <;> refine s_st 10 tNa66_LdJ tSz66_LfB ?_ <;> refine aL_end (back _ ?_) <;> refine aDZ_end (by kernel_rfl) (nav ?_) <;> try dsimp only)
       refine aC_ent (relabel (l := 125) 301 rfl rfl) fun _ => ?_
       refine aC_ent (relabel (l := 146) 302 rfl rfl) fun _ => ?_
       refine aC_ent (recast (l := 301) rfl (snoc_nats _ rows r)) fun _ => ?_
       refine aC_ent (recast (l := 302) rfl (snoc_bools _ ((o.take i).map (prodF A B op)) (prodF A B op x))) fun _ => ?_
       rw [show ((o.take i).map (prodF A B op)) ++ [prodF A B op x] = (o'.take (i + 1)).map (prodF A B op) by rw [htk, List.map_append]; rfl]
       (refine aC_region ?_ <;> refine xL 40 q_move ?_ <;> refine xL 41 q_add ?_ <;> refine xL 13 q_assign ?_ <;> refine aL_end (nav ?_) <;> try dsimp only)
       refine aN_again (
        ⟨(i + 1, h125, h146, r3', r4', r5', o', rows ++ [r]), hU2, (by dsimp only; omega), ho125, ho146, hr3', hr4', hr5'⟩
        ) (by dsimp only; omega) ⟨rfl, rfl, rfl, rfl, rfl, rfl, rfl, rfl, rfl, rfl, rfl, trivial⟩ ⟨rfl, rfl, rfl, rfl, rfl, rfl, rfl, rfl, rfl, rfl, trivial⟩))
 · first
   | exact Bool.noConfusion hb39
   | (
    have hio : i = o.length := by omega
    subst hio
    refine nav ?_
    refine aC_ent (freezeCell (l := 10) (l' := 301) (j := 1) rfl rfl rfl rfl) fun _ => ?_
    refine aC_ent (freezeCell (l := 10) (l' := 302) (j := 2) rfl rfl rfl rfl) fun _ => ?_
    refine aC_ent (freezeCell (l := 10) (l' := 303) (j := 3) rfl rfl rfl rfl) fun _ => ?_
    refine aC_ent (freezeCell (l := 10) (l' := 304) (j := 4) rfl rfl rfl rfl) fun _ => ?_
    rw [share_natss _ _ _ rfl, share_boolss _ _ _ rfl, share_ints _ _ _ rfl, share_ints _ _ _ rfl]
    (refine aC_region ?_ <;> (refine yL 151 (q_ldao 10 tAgg95_LfP) fun v151 hv151 => ?_; cases hv151) <;> refine s_sta 6 tAgg95_LfP ?_ <;> refine xL 7 q_assign ?_ <;> refine aL_end (nav ?_) <;> try dsimp only)
    refine ret_cs (k := 5) 6 (by kernel_rfl) (Tryz.results104) rfl rfl rfl (Nat.le_of_ble_eq_true rfl) (by decide) rfl (.inl ⟨(o, rows), Srch.all_some hU (Nat.le_refl _) (show o.length ≤ (prodW A B).cap from hcap), ?_⟩)
    unfold pPairs
    dsimp only
    rw [List.take_length, hsN]; rfl)
section
variable {α κ : Type} [DecidableEq κ] {W : Srch α κ}
def Srch.Born (W : Srch α κ) (o : List α) : Prop := ∀ j x, 0 < j → o[j]? = some x → ∃ i y s, i < j ∧ o[i]? = some y ∧ s < W.m ∧ x = W.step i y s
theorem Srch.Born.visit {o o' : List α} {i s n : Nat} {y : α} (h : W.Born o) (hy : o[i]? = some y) (hs : s < W.m) (hv : visit W.key W.cap o (W.step i y s) = some (o', n)) : W.Born o' := by
 unfold Go.Proofs.YtgigclnaicbiaaaGreatDoor.visit at hv
 split at hv
 · cases hv; exact h
 · split at hv
   · cases hv
   · cases hv
     intro j x hj hx
     rw [List.getElem?_append] at hx
     split at hx
     · obtain ⟨i', y', s', h1, h2, h3, h4⟩ := h j x hj hx
       exact ⟨i', y', s', h1, preG_get (List.prefix_append ..) h2, h3, h4⟩
     · rename_i hjl
       have h1 := lt_of_get hx
       rw [List.length_singleton] at h1
       rw [show j - o.length = 0 by omega, List.getElem?_cons_zero] at hx
       cases hx
       exact ⟨i, y, s, by have := lt_of_get hy; omega, preG_get (List.prefix_append ..) hy, hs, rfl⟩
theorem Srch.Born.row {o : List α} {i : Nat} {y : α} (h : W.Born o) (hy : o[i]? = some y) : ∀ {s : Nat} {o' : List α} {r : List Nat}, s ≤ W.m → W.row i y o s = some (o', r) → W.Born o' ∧ o <+: o'
 | 0, o', r, _, hr => by
   rw [Srch.row] at hr; cases hr
   exact ⟨h, List.prefix_refl _⟩
 | s + 1, o', r, hs, hr => by
   rw [Srch.row, Option.bind_eq_some_iff] at hr
   obtain ⟨⟨o1, r1⟩, h1, h2⟩ := hr
   obtain ⟨⟨o2, n⟩, h3, h4⟩ := Option.map_eq_some_iff.1 h2
   cases h4
   obtain ⟨h5, h6⟩ := Srch.Born.row h hy (by omega) h1
   exact ⟨h5.visit (preG_get h6 hy) (by omega) h3, h6.trans (visit_pre h3).1⟩
theorem Srch.born {x0 : α} : ∀ {i : Nat} {o : List α} {rows : List (List Nat)}, W.upto x0 i = some (o, rows) → W.Born o
 | 0, o, rows, h => by
   rw [Srch.upto] at h; cases h
   intro j x hj hx
   have := lt_of_get hx
   rw [List.length_singleton] at this; omega
 | i + 1, o, rows, h => by
   rw [Srch.upto, Option.bind_eq_some_iff] at h
   obtain ⟨⟨o1, rows1⟩, h1, h2⟩ := h
   have h3 := Srch.born h1
   dsimp only at h2
   cases hx : o1[i]? with
   | none => rw [hx] at h2; cases h2; exact h3
   | some x =>
     rw [hx] at h2
     obtain ⟨⟨o2, r⟩, h5, h6⟩ := Option.map_eq_some_iff.1 h2
     cases h6
     exact (h3.row hx (Nat.le_refl _) h5).1
end
def Back (par : List (Int × Int)) : Prop := ∀ (j : Nat) (x : Int × Int), par[j]? = some x → x.1 < (j : Int)
theorem pathP_fuel {par : List (Int × Int)} (h : Back par) : ∀ (f g i : Nat), i < f → i < g → pathP par f i = pathP par g i
 | 0, _, _, h1, _ => by omega
 | f + 1, 0, _, _, h2 => by omega
 | f + 1, g + 1, i, h1, h2 => by
   rw [pathP, pathP]
   cases hx : par[i]? with
   | none => rfl
   | some x =>
     dsimp only
     have := h i x hx
     by_cases h0 : x.1 < 0
     · rw [if_pos h0, if_pos h0]
     · rw [if_neg h0, if_neg h0, pathP_fuel h f g x.1.toNat (by omega) (by omega)]
def wayP (par : List (Int × Int)) (i : Nat) : List Int := pathP par (i + 1) i
theorem wayP_end {par : List (Int × Int)} {i : Nat} {x : Int × Int} (hx : par[i]? = some x) (h0 : x.1 < 0) : wayP par i = [] := by
 unfold wayP; rw [pathP, hx]; dsimp only; rw [if_pos h0]
theorem wayP_on {par : List (Int × Int)} (h : Back par) {i : Nat} {x : Int × Int} (hx : par[i]? = some x) (h0 : ¬ x.1 < 0) : wayP par i = wayP par x.1.toNat ++ [x.2] := by
 unfold wayP; rw [pathP, hx]; dsimp only; rw [if_neg h0, pathP_fuel h i (x.1.toNat + 1) x.1.toNat (by have := h i x hx; omega) (by omega)]
theorem prod_back {A B : Aut} {i : Nat} {o : List ((Nat × Nat) × (Int × Int))} {rows : List (List Nat)} (hu : (prodW A B).upto ((0, 0), (-1, -1)) i = some (o, rows)) (h0 : o[0]? = some ((0, 0), (-1, -1))) : Back (o.map (·.2)) := fun j x hx => by
 rw [List.getElem?_map] at hx
 obtain ⟨y, hy, rfl⟩ := Option.map_eq_some_iff.1 hx
 rcases Nat.eq_zero_or_pos j with rfl | hj
 · rw [h0] at hy; cases hy; decide
 · obtain ⟨i', y', s, h1, _, _, rfl⟩ := Srch.born hu j y hj hy
   show ((i' : Nat) : Int) < _
   omega
theorem idxB (l : List Bool) : idx (fun x => x == true) l = match l.idxOf? true with | some i => (i : Int) | none => -1 := rfl
end Go.Proofs.YtgigclnaicbiaaaGreatDoor
