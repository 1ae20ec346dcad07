/-
  Walks: automata: the shortest word.
  The law AutomatonFirst: first words are first.
-/
import Derived.Test.YtgigclnaicbiaaaGreatDoorPk03
import Derived.Test.YtgigclnaicbiaaaGreatDoorPk04
import Derived.Test.YtgigclnaicbiaaaGreatDoorPk06
import Derived.Test.YtgigclnaicbiaaaGreatDoorPk05
namespace Go.Proofs.YtgigclnaicbiaaaGreatDoor
open Go.RowKit Go.Cb Go.En
set_option linter.all false
set_option maxRecDepth 100000
set_option maxHeartbeats 2000000 in
theorem aShortest_e (a : Aut) : AF Tryz.prog 30 [pAut a] (· = .tup [pInts (shortX a).1, pInt (shortX a).2]) := by
 refine AF.of_body 81 Tryz.func30 rfl Tryz.ntmps30 (Nat.le_of_ble_eq_true rfl) ?_
 intro w0 M0 vs hl hv
 obtain ⟨v0, rfl⟩ := len1 hl
 clear hl hv
 refine nav ?_
 (refine aC_region ?_ <;> refine s_boxa 1 5 fun h1 => ?_ <;> refine xL 2 q_assign ?_ <;> refine xL 3 q_assign ?_ <;> refine aL_end (nav ?_) <;> try dsimp only)
 (refine aC_region ?_ <;> (refine yL 13 (q_ldao 1 tAgg25_LdS) fun v13 hv13 => ?_; cases hv13) <;> (refine cS 14 (cA Tryz.call24 (aValid_e a)) fun v14 hv14 => ?_; cases hv14) <;> refine xL 15 q_not ?_ <;> refine aL_end (nav ?_) <;> try dsimp only)
 (first | refine cCd ?_ ?_ | refine cC ?_ ?_) <;> intro hb15
 · first
   | exact Bool.noConfusion hb15
   | (
    refine nav ?_
    (refine aC_region ?_ <;> refine xL 2 q_assign ?_ <;> refine xL 3 q_assign ?_ <;> refine aL_end (nav ?_) <;> try dsimp only)
    refine aR_ent (nilSlD (t := 2) rfl) fun _ => ?_
    refine ret_ss (Tryz.results30) rfl rfl ?_
    unfold shortX
    rw [if_pos (by simpa using hb15)]; rfl)
 · first
   | exact Bool.noConfusion hb15
   | (
    have hok : autOk a = true := by simpa using hb15
    have hA := aok_of hok
    have hn1 := hA.n1
    have hs0 := hA.s0
    have hs1 := hA.s1
    have hsN : ((a.syms.toNat : Nat) : Int) = a.syms := by omega
    have hfl := (farL_ok a).len
    have hcl := closL_len hA.mi hA.st
    have hci := closL_in hA.mi hA.st
    obtain ⟨S0, hS0⟩ : ∃ S0, S0 = closL a a.start := ⟨_, rfl⟩
    refine nav ?_
    (refine aC_draw (fun i => ([] : List Nat).elem i) [1] (by kernel_rfl) ?_ <;> (refine yD 0 16 rfl (q_ldao 1 tAgg25_LdS) fun v16 hv16 => ?_; cases hv16) <;> (refine yD 2 18 rfl (q_ldao 1 tAgg25_LdS) fun v18 hv18 => ?_; cases hv18) <;> (refine aD_one 1 (by kernel_rfl) ?_) <;> (refine aW_call (d := 17) rfl (cA Tryz.call58 (aGraphOf_e a hA)) fun v17 hv17 => ?_; cases hv17) <;> (refine aD_one 3 (by kernel_rfl) ?_) <;> (refine aW_run rfl fun w9 M9 N9 DQ back => ?_) <;> (refine cO 19 (cA Tryz.call59 (aDistances_e a hA)) fun v19 ho19 => ?_; refine aL_ent (En.freeze (l := 19) (t := 19) rfl rfl) fun _ => ?_; rw [share_ints _ _ _ hfl.symm]) <;> refine aL_end (back _ (nrm ?_)) <;> refine xE 4 4 rfl q_assign ?_ <;> refine xE 5 5 rfl q_assign ?_ <;> refine aD_end (by kernel_rfl) (nav ?_) <;> try dsimp only)
    (refine aC_region ?_ <;> refine xL 20 q_move ?_ <;> refine xL 21 (q_fldo 1 tFl25_2_LdI) ?_ <;> (refine yL 22 (q_ldo 1 tNa22_LdI) fun v22 hv22 => ?_; cases hv22) <;> (refine cO 23 (cA Tryz.call61 (aClosure_e a a.start hn1 hA.mi hA.st)) fun v23 ho23 => ?_; refine aL_ent (En.freeze (l := 23) (t := 23) rfl rfl) fun _ => ?_; rw [share_ints _ _ _ rfl, ← hS0]) <;> refine xL 6 q_assign ?_ <;> refine aL_end (nav ?_) <;> try dsimp only)
    rw [← hS0] at hcl hci
    (refine aC_region ?_ <;> refine xL 7 q_assign ?_ <;> refine aL_end (nav ?_) <;> try dsimp only)
    (refine aC_region ?_ <;> refine xL 24 q_move ?_ <;> refine xL 25 (q_len tSl22_LbB) ?_ <;> refine xL 26 q_move ?_ <;> refine aL_end (nav ?_) <;> try dsimp only)
    refine aC_loop (ι := { k : Nat // k ≤ S0.length }) (fun k => ⟨[(1, _, _), (2, _, _), (3, _, _), (4, _, _), (5, _, _), (6, _, _), (24, _, _), (25, _, _), (7, .int .i64 ((S0.take k.1).foldl (bestF (farL a)) (-1)), pInt ((S0.take k.1).foldl (bestF (farL a)) (-1))), (26, .int .i64 k.1, pInt k.1)], [(1, _, _)]⟩) (fun k => S0.length - k.1) ⟨0, Nat.zero_le _⟩ (fun a w H => H.weaken ⟨rfl, rfl, rfl, rfl, rfl, rfl, rfl, rfl, rfl, rfl, trivial⟩ ⟨rfl, trivial⟩) ?_
    rintro ⟨k, hk⟩
    dsimp only
    refine nav ?_
    (refine aC_region ?_ <;> refine xL 27 q_lss ?_ <;> refine aL_end (nav ?_) <;> try dsimp only)
    (first | refine cCd ?_ ?_ | refine cC ?_ ?_) <;> intro hb27
    · first
      | exact Bool.noConfusion hb27
      | (
       obtain ⟨x, hx⟩ := get_some (show k < S0.length by omega)
       have e1 := map_at (f := pInt) hx
       have hx2 := hci x (List.mem_of_getElem? hx)
       obtain ⟨d, hd⟩ := get_some (show x.toNat < (farL a).length by omega)
       have e2 := map_at (f := pInt) hd
       obtain ⟨b, hbE⟩ : ∃ b, b = (S0.take k).foldl (bestF (farL a)) (-1) := ⟨_, rfl⟩
       have hst : (S0.take (k + 1)).foldl (bestF (farL a)) (-1) = bestF (farL a) b x := by rw [take_snoc hx, List.foldl_append, ← hbE]; rfl
       rw [show bestF (farL a) b x = if 0 ≤ d ∧ (b < 0 ∨ d < b) then d else b by unfold bestF; rw [hd]] at hst
       rw [← hbE]
       refine nav ?_
       (refine aC_region ?_ <;> refine xL 28 (q_idxN tSl22_LbB) ?_ <;> (refine yL 29 (q_ld tNa3_LbB) fun v29 hv29 => ?_; cases hv29) <;> refine xL 9 q_assign ?_ <;> refine aL_end (nav ?_) <;> try dsimp only)
       (refine aC_region ?_ <;> refine xL 30 q_move ?_ <;> refine xL 31 q_move ?_ <;> refine xL 32 (q_idx tSl22_LbB) ?_ <;> (refine yL 33 (q_ld tNa3_LbB) fun v33 hv33 => ?_; cases hv33) <;> refine xL 34 q_geq ?_ <;> refine xL 35 q_move ?_ <;> (refine bLd 35 (fun hb35 => ?_) (fun hb35 => ?_) <;> (first | refine kL 36 ?_ | refine xL 36 q_move ?_)) <;> (first | refine kL 37 ?_ | refine xL 37 q_lss ?_) <;> (first | refine kL 38 ?_ | refine xL 38 q_move ?_) <;> (first | refine kL 39 ?_ | (refine bLd 38 (fun hb38 => ?_) (fun hb38 => ?_) <;> (first | refine kL 39 ?_ | refine xL 39 q_move ?_))) <;> (first | refine kL 40 ?_ | refine xL 40 q_move ?_) <;> (first | refine kL 41 ?_ | refine xL 41 (q_idx tSl22_LbB) ?_) <;> (first | refine kL 42 ?_ | (refine yL 42 (q_ld tNa3_LbB) fun v42 hv42 => ?_; cases hv42)) <;> (first | refine kL 43 ?_ | refine xL 43 q_move ?_) <;> (first | refine kL 44 ?_ | refine xL 44 q_lss ?_) <;> (first | refine kL 45 ?_ | refine xL 45 q_pick ?_) <;> refine xL 46 q_pick ?_ <;> refine aL_end (nav ?_) <;> try dsimp only) <;> (
        (first | refine cCd ?_ ?_ | refine cC ?_ ?_) <;> intro hb46
        · first
          | exact Bool.noConfusion hb46
          | (
           refine nav ?_
           (refine aC_region ?_ <;> refine xL 47 q_move ?_ <;> refine xL 48 q_move ?_ <;> refine xL 49 (q_idx tSl22_LbB) ?_ <;> (refine yL 50 (q_ld tNa3_LbB) fun v50 hv50 => ?_; cases hv50) <;> refine xL 7 q_assign ?_ <;> refine aL_end (nav ?_) <;> try dsimp only)
           (refine aC_region ?_ <;> refine xL 51 q_add ?_ <;> refine xL 26 q_move ?_ <;> refine aL_end (nav ?_) <;> try dsimp only)
           first | rw [show d = (S0.take (k + 1)).foldl (bestF (farL a)) (-1) by rw [hst, if_pos (by first | omega | (simp_all; omega))]] | rw [show b = (S0.take (k + 1)).foldl (bestF (farL a)) (-1) by rw [hst, if_neg (by first | omega | (simp_all; omega))]]
           refine aN_again (
            ⟨k + 1, lt_of_get hx⟩
            ) (by dsimp only; omega) ⟨rfl, rfl, rfl, rfl, rfl, rfl, rfl, rfl, rfl, rfl, trivial⟩ ⟨rfl, trivial⟩)
        · first
          | exact Bool.noConfusion hb46
          | (
           refine nav ?_
           (refine aC_region ?_ <;> refine xL 51 q_add ?_ <;> refine xL 26 q_move ?_ <;> refine aL_end (nav ?_) <;> try dsimp only)
           first | rw [show d = (S0.take (k + 1)).foldl (bestF (farL a)) (-1) by rw [hst, if_pos (by first | omega | (simp_all; omega))]] | rw [show b = (S0.take (k + 1)).foldl (bestF (farL a)) (-1) by rw [hst, if_neg (by first | omega | (simp_all; omega))]]
           refine aN_again (
            ⟨k + 1, lt_of_get hx⟩
            ) (by dsimp only; omega) ⟨rfl, rfl, rfl, rfl, rfl, rfl, rfl, rfl, rfl, rfl, trivial⟩ ⟨rfl, trivial⟩)))
    · first
      | exact Bool.noConfusion hb27
      | (
       rw [List.take_of_length_le (show S0.length ≤ k by omega), show S0.foldl (bestF (farL a)) (-1) = leastL (farL a) S0 from rfl]
       obtain ⟨L, hL⟩ : ∃ L, L = leastL (farL a) S0 := ⟨_, rfl⟩
       rw [← hL]
       refine nav ?_
       (refine aC_region ?_ <;> refine xL 52 q_move ?_ <;> refine xL 53 q_lss ?_ <;> refine aL_end (nav ?_) <;> try dsimp only)
       (first | refine cCd ?_ ?_ | refine cC ?_ ?_) <;> intro hb53
       · first
         | exact Bool.noConfusion hb53
         | (
          refine nav ?_
          (refine aC_region ?_ <;> refine xL 2 q_assign ?_ <;> refine xL 3 q_assign ?_ <;> refine aL_end (nav ?_) <;> try dsimp only)
          refine aR_ent (nilSlD (t := 2) rfl) fun _ => ?_
          refine ret_ss (Tryz.results30) rfl rfl ?_
          unfold shortX
          rw [if_neg (by rw [hok]; decide), ← hS0, ← hL, if_pos (by omega)]; rfl)
       · first
         | exact Bool.noConfusion hb53
         | (
          obtain ⟨N, rfl⟩ : ∃ N : Nat, L = (N : Int) := ⟨L.toNat, by omega⟩
          have hsx : shortX a = (shortW a N S0, 0) := by
           unfold shortX
           rw [if_neg (by rw [hok]; decide), ← hS0, ← hL, if_neg (by omega), Int.toNat_natCast]
          have hin0 : InS a S0 := hci
          have hN : N ≤ 2000 := by
           obtain ⟨h1, _, _⟩ := least_spec (farL a) S0 (-1) (by omega)
           have h2 : leastL (farL a) S0 = (N : Int) := hL.symm
           unfold leastL at h2
           rw [h2] at h1
           rcases h1 with h1 | ⟨s, hs, h6, h7⟩
           · omega
           · have h8 := (farL_ok a).hi _ (List.mem_of_getElem? h6)
             have h9 := cntD_le (farL a)
             omega
          refine nav ?_
          (refine aC_region ?_ <;> refine xL 10 q_assign ?_ <;> refine aL_end (nav ?_) <;> try dsimp only)
          refine aC_ent (nilOwn 200 3 1 rfl) fun _ => ?_
          refine aC_loop (ι := { q : Int × List Int × Value × List Int × Value × List Int // (∃ m : Nat, q.1 = (m : Int) ∧ m ≤ N ∧ q.2.1 ++ shortW a m q.2.2.2.2.2 = shortW a N S0 ∧ q.2.1.length + m ≤ N) ∧ Shrt a q.1 q.2.2.2.1 q.2.2.2.2.2 ∧ q.2.2.2.1.length ≤ 2000 ∧ q.2.2.1.oneCell' = true }) (fun k => ⟨[(1, _, _), (2, _, _), (3, _, _), (4, _, _), (5, _, _), (6, k.1.2.2.2.2.1, pInts k.1.2.2.2.1), (7, .int .i64 k.1.1, pInt k.1.1), (10, k.1.2.2.1, .val k.1.2.2.1)], [(1, _, _), (200, k.1.2.2.1, .own 3 1 k.1.2.1.length (k.1.2.1.map pInt))]⟩) (fun k => k.1.1.toNat) ⟨((N : Int), [], .slice none 0 0, S0, v23, S0), ⟨N, rfl, Nat.le_refl _, rfl, by simp⟩, ⟨hin0, hin0, rfl, by dsimp only; omega⟩, by dsimp only; omega, rfl⟩ (fun a w H => H.weaken ⟨rfl, rfl, rfl, rfl, rfl, rfl, rfl, rfl, trivial⟩ ⟨rfl, rfl, trivial⟩) ?_
          rintro ⟨⟨n, w, hO, P, vP, S⟩, ⟨m, hnm, hm, hw, hwl⟩, hSh, hPl, hOo⟩
          dsimp only
          dsimp only at hnm hm hw hwl hSh hPl hOo
          subst hnm
          refine nav ?_
          (refine aC_region ?_ <;> refine xL 54 q_move ?_ <;> refine xL 55 q_gtr ?_ <;> refine aL_end (nav ?_) <;> try dsimp only)
          (first | refine cCd ?_ ?_ | refine cC ?_ ?_) <;> intro hb55
          · first
            | exact Bool.noConfusion hb55
            | (
             obtain ⟨m', rfl⟩ : ∃ m', m = m' + 1 := ⟨m - 1, by omega⟩
             have hmi : ((m' + 1 : Nat) : Int) - 1 = (m' : Int) := by omega
             refine nav ?_
             (refine aC_region ?_ <;> refine xL 58 (q_fldo 1 tFl25_1_LdI) ?_ <;> (refine yL 59 (q_ldo 1 tNa3_LbB) fun v59 hv59 => ?_; cases hv59) <;> refine xL 60 q_move ?_ <;> refine aL_end (nav ?_) <;> try dsimp only)
             refine aC_loop (ι := { c : Nat // c ≤ a.syms.toNat ∧ ∀ j, j < c → hitB a (m' : Int) S j = false }) (fun k => ⟨[(1, _, _), (2, _, _), (3, _, _), (4, _, _), (5, _, _), (6, _, _), (7, _, _), (10, _, _), (59, _, _), (60, .int .i64 k.1, pInt k.1)], [(1, _, _), (200, _, _)]⟩) (fun k => a.syms.toNat - k.1) ⟨0, Nat.zero_le _, by omega⟩ (fun a w H => H.weaken ⟨rfl, rfl, rfl, rfl, rfl, rfl, rfl, rfl, rfl, rfl, trivial⟩ ⟨rfl, rfl, trivial⟩) ?_
             rintro ⟨c, hc, hcp⟩
             dsimp only
             refine nav ?_
             (refine aC_region ?_ <;> refine xL 61 q_lss ?_ <;> refine aL_end (nav ?_) <;> try dsimp only)
             (first | refine cCd ?_ ?_ | refine cC ?_ ?_) <;> intro hb61
             · first
               | exact Bool.noConfusion hb61
               | (
                have hni := next_in hA.mi (c : Nat) P
                have hnl : (nextL a (c : Nat) P).length ≤ 2000 := by have := closL_len hA.mi (leads_in hA.mi (c : Nat) P); show (closL a (leads a (c : Nat) P)).length ≤ 2000; omega
                have hit := hit_iff hA.mi hSh (by omega) c
                rw [hmi] at hit
                refine nav ?_
                (refine aC_region ?_ <;> refine xL 62 q_move ?_ <;> refine xL 11 q_assign ?_ <;> refine aL_end (nav ?_) <;> try dsimp only)
                (refine aC_region ?_ <;> refine xL 63 q_move ?_ <;> refine xL 64 q_move ?_ <;> refine xL 65 q_move ?_ <;> (refine cO 66 (cA Tryz.call63 (aNext_e a P (c : Nat) hn1 hA.ml hA.mi hSh.p hPl)) fun v66 ho66 => ?_; refine aL_ent (En.freeze (l := 66) (t := 66) rfl rfl) fun _ => ?_; rw [share_ints _ _ _ rfl]) <;> refine xL 67 q_move ?_ <;> refine xL 68 q_move ?_ <;> refine xL 69 q_sub ?_ <;> (refine cO 70 (cA Tryz.call60 (aNear_e (nextL a (c : Nat) P) (farL a) (((m' + 1 : Nat) : Int) - 1) (by omega) (fun s hs => by have := hni s hs; omega))) fun v70 ho70 => ?_; refine aL_ent (En.freeze (l := 70) (t := 70) rfl rfl) fun _ => ?_; rw [share_ints _ _ _ rfl, hmi]) <;> refine xL 12 q_assign ?_ <;> refine aL_end (nav ?_) <;> try dsimp only)
                (refine aC_region ?_ <;> refine xL 71 q_move ?_ <;> refine xL 72 (q_len tSl22_LbB) ?_ <;> refine xL 73 q_gtr ?_ <;> refine aL_end (nav ?_) <;> try dsimp only)
                (first | refine cCd ?_ ?_ | refine cC ?_ ?_) <;> intro hb73
                · first
                  | exact Bool.noConfusion hb73
                  | (
                   have hh := hit.1 (by omega)
                   refine nav ?_
                   (refine aC_region ?_ <;> refine xL 74 q_move ?_ <;> refine xL 75 q_move ?_ <;> refine s_lit1 (kk := 1) 76 tEl22_LdI fun h76 ho76 => ?_ <;> (refine s_app 200 76 77 tEl22_LdI fun h77 ho77 => ?_; refine aL_ent (relabel (l := 77) 200 rfl rfl) fun _ => ?_; refine aL_ent (recast (l := 200) rfl (own_ints _ w (c : Nat))) fun _ => ?_) <;> refine xL 78 q_move ?_ <;> refine xL 10 q_assign ?_ <;> refine xL 6 q_assign ?_ <;> refine aL_end (nav ?_) <;> try dsimp only)
                   (refine aC_region ?_ <;> refine xL 56 q_move ?_ <;> refine xL 57 q_sub ?_ <;> refine xL 7 q_assign ?_ <;> refine aL_end (nav ?_) <;> try dsimp only)
                   first
                    | (exact aN_again (
                        ⟨(((m' + 1 : Nat) : Int) - 1, w ++ [(c : Int)], h77, nearL (nextL a (c : Nat) P) (farL a) (m' : Int), v70, nextL a (c : Nat) S), ⟨m', by dsimp only; omega, by omega, by dsimp only; rw [← hw, shortW_hit (by omega) hcp hh, List.append_assoc]; rfl, by dsimp only; rw [List.length_append, List.length_singleton]; omega⟩, by dsimp only; have h9 := hSh.hit hA.mi (c := c) (by rw [hmi]; exact hh); rw [hmi] at h9 ⊢; exact h9, by dsimp only; exact Nat.le_trans (List.length_filter_le _ _) hnl, ho77⟩
                        ) (by dsimp only; omega) ⟨rfl, rfl, rfl, rfl, rfl, rfl, rfl, rfl, trivial⟩ ⟨rfl, rfl, trivial⟩)
                    | (exact aN_again (
                        ⟨(((m' + 1 : Nat) : Int) - 1, w, hO, P, vP, S), ⟨m', by dsimp only; omega, by omega, by dsimp only; rw [← hw, shortW_miss fun j hj => hcp j (by omega)], by dsimp only; omega⟩, hSh.miss, hPl, hOo⟩
                        ) (by dsimp only; omega) ⟨rfl, rfl, rfl, rfl, rfl, rfl, rfl, rfl, trivial⟩ ⟨rfl, rfl, trivial⟩))
                · first
                  | exact Bool.noConfusion hb73
                  | (
                   have hh : hitB a (m' : Int) S c = false := by
                    cases e : hitB a (m' : Int) S c with
                    | false => rfl
                    | true => exact absurd (hit.2 e) (by omega)
                   refine nav ?_
                   (refine aC_region ?_ <;> refine xL 79 q_add ?_ <;> refine xL 60 q_move ?_ <;> refine aL_end (nav ?_) <;> try dsimp only)
                   refine aN_again (
                    ⟨c + 1, by omega, fun j hj => by
                     by_cases e : j = c
                     · subst e; exact hh
                     · exact hcp j (by omega)⟩
                    ) (by dsimp only; omega) ⟨rfl, rfl, rfl, rfl, rfl, rfl, rfl, rfl, rfl, rfl, trivial⟩ ⟨rfl, rfl, trivial⟩))
             · first
               | exact Bool.noConfusion hb61
               | (
                have hcs : a.syms.toNat ≤ c := by omega
                refine nav ?_
                (refine aC_region ?_ <;> refine xL 56 q_move ?_ <;> refine xL 57 q_sub ?_ <;> refine xL 7 q_assign ?_ <;> refine aL_end (nav ?_) <;> try dsimp only)
                first
                 | (exact aN_again (
                     ⟨(((m' + 1 : Nat) : Int) - 1, w ++ [(c : Int)], h77, nearL (nextL a (c : Nat) P) (farL a) (m' : Int), v70, nextL a (c : Nat) S), ⟨m', by dsimp only; omega, by omega, by dsimp only; rw [← hw, shortW_hit (by omega) hcp hh, List.append_assoc]; rfl, by dsimp only; rw [List.length_append, List.length_singleton]; omega⟩, by dsimp only; have h9 := hSh.hit hA.mi (c := c) (by rw [hmi]; exact hh); rw [hmi] at h9 ⊢; exact h9, by dsimp only; exact Nat.le_trans (List.length_filter_le _ _) hnl, ho77⟩
                     ) (by dsimp only; omega) ⟨rfl, rfl, rfl, rfl, rfl, rfl, rfl, rfl, trivial⟩ ⟨rfl, rfl, trivial⟩)
                 | (exact aN_again (
                     ⟨(((m' + 1 : Nat) : Int) - 1, w, hO, P, vP, S), ⟨m', by dsimp only; omega, by omega, by dsimp only; rw [← hw, shortW_miss fun j hj => hcp j (by omega)], by dsimp only; omega⟩, hSh.miss, hPl, hOo⟩
                     ) (by dsimp only; omega) ⟨rfl, rfl, rfl, rfl, rfl, rfl, rfl, rfl, trivial⟩ ⟨rfl, rfl, trivial⟩)))
          · first
            | exact Bool.noConfusion hb55
            | (
             have hm0 : m = 0 := by omega
             subst hm0
             rw [shortW, List.append_nil] at hw
             refine aC_ent (En.freeze (l := 200) (t := 10) rfl rfl) fun _ => ?_
             refine aC_ent (reslot (t := 10) (p' := pInts (shortW a N S0)) rfl (by rw [share_ints _ _ _ rfl, hw])) fun _ => ?_
             refine nav ?_
             (refine aC_region ?_ <;> refine xL 80 q_move ?_ <;> refine xL 2 q_assign ?_ <;> refine xL 3 q_assign ?_ <;> refine aL_end (nav ?_) <;> try dsimp only)
             refine ret_ss (Tryz.results30) rfl rfl ?_
             rw [hsx]))))
theorem tEl75_LiG : ElT Tryz.prog 75 25 5 88 (.agg #[(.int .i64 0), (.int .i64 0), (.slice none 0 0), (.slice none 0 0), (.slice none 0 0)]) := ⟨Tryz.underlying75, by kernel_rfl, rfl, by decide⟩
theorem sEqualF_self (l : List Int) : AF Tryz.prog 32 [pInts l, pInts l] (· = pBool true) := (sEqualInt_e l l).mono fun p hp => by rw [hp, decide_eq_true rfl]
set_option maxHeartbeats 8000000 in
theorem autFirst_c (a b : Aut) (w v : List Int) (l l2 l3 l4 : List (List Int)) (e f g f2 f3 f4 : Int) (sm x : Bool)
 (c1 : AF Tryz.prog 30 [pAut a] (· = .tup [pInts w, pInt e]))
 (c2 : AF Tryz.prog 15 [pAut a, pInt (w.length : Nat)] (· = .tup [pIntss l, pInt f]))
 (c3 : 0 < w.length → AF Tryz.prog 15 [pAut a, pInt ((w.length : Nat) - 1)] (· = .tup [pIntss l2, pInt g]))
 (c4 : w.length = 0 → AF Tryz.prog 15 [pAut a, pInt 0] (· = .tup [pIntss l2, pInt g]))
 (k1 : e = 0 → w.length ≤ 8 → f = 5 ∨ f = 0 ∧ ∃ rest, l = w :: rest) (k2 : e = 0 → w.length ≤ 8 → 0 < w.length → g = 0 ∧ l2.length = 0)
 (c5 : AF Tryz.prog 33 [pAut a, pAut b] (· = .tup [pBool sm, pInts v, pInt f2]))
 (c6 : f2 = 0 → sm = false → v.length ≤ 8 → AF Tryz.prog 39 [pAut a, pInts v] (· = .tup [pBool x, pBool true]) ∧ AF Tryz.prog 39 [pAut b, pInts v] (· = .tup [pBool (!x), pBool true]))
 (c7 : 0 < v.length → AF Tryz.prog 15 [pAut a, pInt ((v.length : Nat) - 1)] (· = .tup [pIntss l3, pInt f3]))
 (c8 : 0 < v.length → AF Tryz.prog 15 [pAut b, pInt ((v.length : Nat) - 1)] (· = .tup [pIntss l4, pInt f4]))
 (k5 : f2 = 0 → sm = false → v.length ≤ 8 → 0 < v.length → (f3 = 5 ∨ f3 = 0) ∧ (f4 = 5 ∨ f4 = 0) ∧ (f3 = 0 → f4 = 0 → l3 = l4)) : AF Tryz.prog 9 [pAut a, pAut b] (· = pBool true) := by
 refine AF.of_body 177 Tryz.func9 rfl Tryz.ntmps9 (Nat.le_of_ble_eq_true rfl) ?_
 intro w0 M0 vs hl hv
 obtain ⟨v0, v1, rfl⟩ := len2 hl
 clear hl hv
 refine nav ?_
 (refine aC_region ?_ <;> refine s_boxa 2 5 fun h2 => ?_ <;> refine s_boxa 3 5 fun h3 => ?_ <;> refine xL 4 q_assign ?_ <;> refine aL_end (nav ?_) <;> try dsimp only)
 (refine aC_region ?_ <;> (refine cS 22 (cA Tryz.call13 (awake07_e)) fun v22 hv22 => ?_; cases hv22) <;> refine xL 23 q_not ?_ <;> refine aL_end (nav ?_) <;> try dsimp only)
 (first | refine cCd ?_ ?_ | refine cC ?_ ?_) <;> intro hb23
 · first
   | exact Bool.noConfusion hb23
   | (
    refine nav ?_
    (refine aC_region ?_ <;> refine xL 4 q_assign ?_ <;> refine aL_end (nav ?_) <;> try dsimp only)
    exfalso; simp at hb23)
 · first
   | exact Bool.noConfusion hb23
   | (
    refine nav ?_
    (refine aC_region ?_ <;> (refine yL 24 (q_ldao 2 tAgg25_LdS) fun v24 hv24 => ?_; cases hv24) <;> (refine yL 25 (q_ldao 3 tAgg25_LdS) fun v25 hv25 => ?_; cases hv25) <;> (refine s_lita (kk := 5) (xs := [_, _]) (cs := [[_, _, _, _, _], [_, _, _, _, _]]) 26 tEl75_LiG fun h26 ho26 => ?_; refine aL_ent (En.freeze (l := 26) (t := 26) rfl rfl) fun _ => ?_; refine aL_ent (reslot (t := 26) (p' := .sl [a, b].length ([a, b].flatMap cAut)) rfl rfl) fun _ => ?_) <;> (refine cS 27 (cA Tryz.call14 (great07_e [a, b])) fun v27 hv27 => ?_; cases hv27) <;> refine xL 28 q_move ?_ <;> (refine bL 28 (fun hb28 => ?_) (fun hb28 => ?_) <;> (first | refine kL 29 ?_ | refine xL 29 (q_fldo 2 tFl25_1_LdI) ?_)) <;> (first | refine kL 30 ?_ | (refine yL 30 (q_ldo 2 tNa3_LbB) fun v30 hv30 => ?_; cases hv30)) <;> (first | refine kL 31 ?_ | refine xL 31 q_gtr ?_) <;> (first | refine kL 32 ?_ | refine xL 32 q_move ?_) <;> (first | refine kL 33 ?_ | (refine bLd 32 (fun hb32 => ?_) (fun hb32 => ?_) <;> (first | refine kL 33 ?_ | refine xL 33 (q_fldo 2 tFl25_1_LdI) ?_))) <;> (first | refine kL 34 ?_ | (refine yL 34 (q_ldo 2 tNa3_LbB) fun v34 hv34 => ?_; cases hv34)) <;> (first | refine kL 35 ?_ | refine xL 35 q_leq ?_) <;> (first | refine kL 36 ?_ | refine xL 36 q_pick ?_) <;> refine xL 37 q_pick ?_ <;> refine aL_end (nav ?_) <;> try dsimp only) <;> (
     refine aC_mid (fun _ : Unit => ⟨[(2, padd (sbase h2) 0, .val (padd (sbase h2) 0)), (3, padd (sbase h3) 0, .val (padd (sbase h3) 0))], [(2, h2, .own 25 5 1 [pInt a.n, pInt a.syms, pInts a.start, pInts a.fin, pMvs a.moves]), (3, h3, .own 25 5 1 [pInt b.n, pInt b.syms, pInts b.start, pInts b.fin, pMvs b.moves])]⟩) ?_ ?_
     · (first | refine cCd ?_ ?_ | refine cC ?_ ?_) <;> intro hb37
       · first
         | exact Bool.noConfusion hb37
         | (
          refine nav ?_
          (refine aC_region ?_ <;> refine xL 4 q_assign ?_ <;> refine aL_end (nav ?_) <;> try dsimp only)
          exact ret_shr (Tryz.results9) rfl rfl)
       · first
         | exact Bool.noConfusion hb37
         | (
          refine nav ?_
          exact aN_join () ⟨rfl, rfl, trivial⟩ ⟨rfl, rfl, trivial⟩)
     · intro _
       skip
       refine nav ?_
       (refine aC_region ?_ <;> (refine yL 39 (q_ldao 2 tAgg25_LdS) fun v39 hv39 => ?_; cases hv39) <;> (refine cP 40 (cA Tryz.call30 (c1)) fun va40 vb40 hva40 hvb40 => ?_; cases hvb40) <;> refine xL 38 q_move ?_ <;> refine xL 41 q_extract ?_ <;> refine xL 42 q_extract ?_ <;> refine xL 5 q_assign ?_ <;> refine xL 6 q_assign ?_ <;> refine aL_end (nav ?_) <;> try dsimp only)
       (refine aC_region ?_ <;> refine xL 43 q_move ?_ <;> refine xL 44 q_eql ?_ <;> refine xL 45 q_move ?_ <;> (refine bLd 45 (fun hb45 => ?_) (fun hb45 => ?_) <;> (first | refine kL 46 ?_ | refine xL 46 q_move ?_)) <;> (first | refine kL 47 ?_ | refine xL 47 (q_len tSl22_LbB) ?_) <;> (first | refine kL 48 ?_ | refine xL 48 q_leq ?_) <;> refine xL 49 q_pick ?_ <;> refine aL_end (nav ?_) <;> try dsimp only) <;> (
        refine aC_mid (fun _ : Unit => ⟨[(2, padd (sbase h2) 0, .val (padd (sbase h2) 0)), (3, padd (sbase h3) 0, .val (padd (sbase h3) 0))], [(2, h2, .own 25 5 1 [pInt a.n, pInt a.syms, pInts a.start, pInts a.fin, pMvs a.moves]), (3, h3, .own 25 5 1 [pInt b.n, pInt b.syms, pInts b.start, pInts b.fin, pMvs b.moves])]⟩) ?_ ?_
        · (first | refine cCd ?_ ?_ | refine cC ?_ ?_) <;> intro hb49
          · first
            | exact Bool.noConfusion hb49
            | (
             have he : e = 0 := by omega
             have hl8 : w.length ≤ 8 := by omega
             have k1 := k1 he hl8
             have k2 := k2 he hl8
             refine nav ?_
             (refine aC_region ?_ <;> (refine yL 51 (q_ldao 2 tAgg25_LdS) fun v51 hv51 => ?_; cases hv51) <;> refine xL 52 q_move ?_ <;> refine xL 53 (q_len tSl22_LbB) ?_ <;> (rcases k1 with rfl | ⟨rfl, rest, rfl⟩ <;> (refine cP 54 (cA Tryz.call15 c2) fun va54 vb54 hva54 hvb54 => ?_; cases hvb54)) <;> refine xL 50 q_move ?_ <;> refine xL 55 q_extract ?_ <;> refine xL 56 q_extract ?_ <;> refine xL 7 q_assign ?_ <;> refine xL 8 q_assign ?_ <;> refine aL_end (nav ?_) <;> try dsimp only) <;> (
              (refine aC_region ?_ <;> (refine yL 58 (q_ldao 2 tAgg25_LdS) fun v58 hv58 => ?_; cases hv58) <;> refine xL 59 q_move ?_ <;> refine xL 60 (q_len tSl22_LbB) ?_ <;> refine xL 61 q_sub ?_ <;> (rcases Nat.eq_zero_or_pos w.length with h0 | h0 <;> first | (refine xL 62 (q_max (a := 0) (b := ((w.length : Nat) : Int) - 1) 0 (by rw [if_neg (by omega)])) ?_; have c34 := c4 h0) | (refine xL 62 (q_max (a := 0) (b := ((w.length : Nat) : Int) - 1) (((w.length : Nat) : Int) - 1) (by split <;> omega)) ?_; have c34 := c3 h0)) <;> (refine cP 63 (cA Tryz.call15 (c34)) fun va63 vb63 hva63 hvb63 => ?_; cases hvb63) <;> refine xL 57 q_move ?_ <;> refine xL 64 q_extract ?_ <;> refine xL 65 q_extract ?_ <;> refine xL 9 q_assign ?_ <;> refine xL 10 q_assign ?_ <;> refine aL_end (nav ?_) <;> try dsimp only) <;> (
               (refine aC_region ?_ <;> refine xL 66 q_move ?_ <;> (first | refine xL 67 q_neqV ?_ | refine xL 67 q_neq ?_) <;> refine xL 68 q_move ?_ <;> (first | refine kL 69 ?_ | refine xL 69 q_move ?_) <;> (first | refine kL 70 ?_ | (first | refine xL 70 q_neqV ?_ | refine xL 70 q_neq ?_)) <;> (first | refine kL 71 ?_ | refine xL 71 q_move ?_) <;> (first | refine kL 72 ?_ | refine xL 72 q_move ?_) <;> (first | refine kL 73 ?_ | refine xL 73 (q_len tSl28_LdS) ?_) <;> (first | refine kL 74 ?_ | refine xL 74 q_eql ?_) <;> (first | refine kL 75 ?_ | refine xL 75 q_pick ?_) <;> (first | refine kL 76 ?_ | refine xL 76 q_move ?_) <;> (first | refine kL 77 ?_ | refine xL 77 q_move ?_) <;> (first | refine kL 78 ?_ | refine xL 78 (q_idxN tSl28_LdS) ?_) <;> (first | refine kL 79 ?_ | (refine yL 79 (q_ld tNa22_LdI) fun v79 hv79 => ?_; cases hv79)) <;> (first | refine kL 80 ?_ | refine xL 80 q_move ?_) <;> (first | refine kL 81 ?_ | (refine cS 81 (cA Tryz.call32 (sEqualF_self w)) fun v81 hv81 => ?_; cases hv81)) <;> (first | refine kL 82 ?_ | refine xL 82 q_not ?_) <;> (first | refine kL 83 ?_ | refine xL 83 q_pick ?_) <;> refine xL 84 q_pick ?_ <;> refine xL 85 q_move ?_ <;> refine xL 86 q_move ?_ <;> refine xL 87 (q_len tSl22_LbB) ?_ <;> refine xL 88 q_gtr ?_ <;> refine xL 89 q_move ?_ <;> (refine bLd 89 (fun hb89 => ?_) (fun hb89 => ?_) <;> (first | refine kL 90 ?_ | refine xL 90 q_move ?_)) <;> (first | refine kL 91 ?_ | refine xL 91 q_neq ?_) <;> (first | refine kL 92 ?_ | refine xL 92 q_move ?_) <;> (first | refine kL 93 ?_ | (refine bLd 92 (fun hb92 => ?_) (fun hb92 => ?_) <;> (first | refine kL 93 ?_ | refine xL 93 q_move ?_))) <;> (first | refine kL 94 ?_ | refine xL 94 (q_len tSl28_LdS) ?_) <;> (first | refine kL 95 ?_ | refine xL 95 q_neq ?_) <;> (first | refine kL 96 ?_ | refine xL 96 q_pick ?_) <;> refine xL 97 q_pick ?_ <;> refine xL 98 q_pick ?_ <;> refine aL_end (nav ?_) <;> try dsimp only) <;> (
                (first | refine cCd ?_ ?_ | refine cC ?_ ?_) <;> intro hb98
                · first
                   | exact Bool.noConfusion hb98
                   | (exfalso; omega)
                   | (exfalso; have h0' := k2 h0; omega)
                   | (exfalso; simp at hb76; done)
                   | (exfalso; simp at hb98; done)
                · refine nav ?_
                  exact aN_join () ⟨rfl, rfl, trivial⟩ ⟨rfl, rfl, trivial⟩))))
          · first
            | exact Bool.noConfusion hb49
            | (
             refine nav ?_
             exact aN_join () ⟨rfl, rfl, trivial⟩ ⟨rfl, rfl, trivial⟩)
        · intro _
          skip
          refine nav ?_
          (refine aC_region ?_ <;> (refine yL 100 (q_ldao 2 tAgg25_LdS) fun v100 hv100 => ?_; cases hv100) <;> (refine yL 101 (q_ldao 3 tAgg25_LdS) fun v101 hv101 => ?_; cases hv101) <;> (refine cPx3 102 (cA Tryz.call33 c5) fun va102 vb102 vc102 hva102 hvb102 hvc102 => ?_; cases hva102; cases hvc102) <;> refine xL 99 q_move ?_ <;> refine xL 103 q_extract ?_ <;> refine xL 104 q_extract ?_ <;> refine xL 105 q_extract ?_ <;> refine xL 11 q_assign ?_ <;> refine xL 12 q_assign ?_ <;> refine xL 13 q_assign ?_ <;> refine aL_end (nav ?_) <;> try dsimp only)
          (refine aC_region ?_ <;> refine xL 106 q_move ?_ <;> refine xL 107 q_neq ?_ <;> refine xL 108 q_move ?_ <;> (refine bLd 108 (fun hb108 => ?_) (fun hb108 => ?_) <;> (first | refine kL 109 ?_ | refine xL 109 q_move ?_)) <;> refine xL 110 q_pick ?_ <;> refine xL 111 q_move ?_ <;> (first | refine kL 112 ?_ | (refine bL 111 (fun hb111 => ?_) (fun hb111 => ?_) <;> (first | refine kL 112 ?_ | refine xL 112 q_move ?_))) <;> (first | refine kL 113 ?_ | refine xL 113 (q_len tSl22_LbB) ?_) <;> (first | refine kL 114 ?_ | refine xL 114 q_gtr ?_) <;> refine xL 115 q_pick ?_ <;> refine aL_end (nav ?_) <;> try dsimp only) <;> (
           (first | refine cCd ?_ ?_ | refine cC ?_ ?_) <;> intro hb115
           · first
             | exact Bool.noConfusion hb115
             | (
              refine nav ?_
              (refine aC_region ?_ <;> refine xL 4 q_assign ?_ <;> refine aL_end (nav ?_) <;> try dsimp only)
              exact ret_shr (Tryz.results9) rfl rfl)
           · first
             | exact Bool.noConfusion hb115
             | (
              have hf2 : f2 = 0 := by omega
              have hsm : sm = false := by first | assumption | simpa using hb111
              have hv8 : v.length ≤ 8 := by omega
              obtain ⟨t1, t2⟩ := c6 hf2 hsm hv8
              have k5 := k5 hf2 hsm hv8
              refine nav ?_
              (refine aC_region ?_ <;> (refine yL 117 (q_ldao 2 tAgg25_LdS) fun v117 hv117 => ?_; cases hv117) <;> refine xL 118 q_move ?_ <;> (rcases x with _ | _ <;> (refine cP 119 (cA Tryz.call39 t1) fun va119 vb119 hva119 hvb119 => ?_; cases hva119; cases hvb119)) <;> refine xL 116 q_move ?_ <;> refine xL 120 q_extract ?_ <;> refine xL 121 q_extract ?_ <;> refine xL 14 q_assign ?_ <;> refine xL 15 q_assign ?_ <;> refine aL_end (nav ?_) <;> try dsimp only) <;> (
               (refine aC_region ?_ <;> (refine yL 123 (q_ldao 3 tAgg25_LdS) fun v123 hv123 => ?_; cases hv123) <;> refine xL 124 q_move ?_ <;> (refine cP 125 (cA Tryz.call39 (t2)) fun va125 vb125 hva125 hvb125 => ?_; cases hva125; cases hvb125) <;> refine xL 122 q_move ?_ <;> refine xL 126 q_extract ?_ <;> refine xL 127 q_extract ?_ <;> refine xL 16 q_assign ?_ <;> refine xL 17 q_assign ?_ <;> refine aL_end (nav ?_) <;> try dsimp only)
               (refine aC_region ?_ <;> refine xL 128 q_move ?_ <;> refine xL 129 q_not ?_ <;> refine xL 130 q_move ?_ <;> refine xL 131 q_move ?_ <;> refine xL 132 q_not ?_ <;> refine xL 133 q_pick ?_ <;> refine xL 134 q_move ?_ <;> refine xL 135 q_move ?_ <;> refine xL 136 q_move ?_ <;> refine xL 137 (q_beql Tryz.underlying4) ?_ <;> refine xL 138 q_pick ?_ <;> refine aL_end (nav ?_) <;> try dsimp only) <;> (
                refine cCf ?_
                refine nav ?_
                (refine aC_region ?_ <;> refine xL 139 q_move ?_ <;> refine xL 140 (q_len tSl22_LbB) ?_ <;> refine xL 141 q_eql ?_ <;> refine aL_end (nav ?_) <;> try dsimp only)
                (first | refine cCd ?_ ?_ | refine cC ?_ ?_) <;> intro hb141
                · first
                  | exact Bool.noConfusion hb141
                  | (
                   refine nav ?_
                   (refine aC_region ?_ <;> refine xL 4 q_assign ?_ <;> refine aL_end (nav ?_) <;> try dsimp only)
                   exact ret_shr (Tryz.results9) rfl rfl)
                · first
                  | exact Bool.noConfusion hb141
                  | (
                   have hv0 : 0 < v.length := by omega
                   obtain ⟨g1, g2, g3⟩ := k5 hv0
                   refine nav ?_
                   (refine aC_region ?_ <;> (refine yL 143 (q_ldao 2 tAgg25_LdS) fun v143 hv143 => ?_; cases hv143) <;> refine xL 144 q_move ?_ <;> refine xL 145 (q_len tSl22_LbB) ?_ <;> refine xL 146 q_sub ?_ <;> (rcases g1 with rfl | rfl <;> (refine cP 147 (cA Tryz.call15 (c7 hv0)) fun va147 vb147 hva147 hvb147 => ?_; cases hvb147)) <;> refine xL 142 q_move ?_ <;> refine xL 148 q_extract ?_ <;> refine xL 149 q_extract ?_ <;> refine xL 18 q_assign ?_ <;> refine xL 19 q_assign ?_ <;> refine aL_end (nav ?_) <;> try dsimp only) <;> (
                    (refine aC_region ?_ <;> (refine yL 151 (q_ldao 3 tAgg25_LdS) fun v151 hv151 => ?_; cases hv151) <;> refine xL 152 q_move ?_ <;> refine xL 153 (q_len tSl22_LbB) ?_ <;> refine xL 154 q_sub ?_ <;> (rcases g2 with rfl | rfl <;> (refine cP 155 (cA Tryz.call15 (c8 hv0)) fun va155 vb155 hva155 hvb155 => ?_; cases hvb155)) <;> refine xL 150 q_move ?_ <;> refine xL 156 q_extract ?_ <;> refine xL 157 q_extract ?_ <;> refine xL 20 q_assign ?_ <;> refine xL 21 q_assign ?_ <;> refine aL_end (nav ?_) <;> try dsimp only) <;> (
                     (refine aC_region ?_ <;> refine xL 158 q_move ?_ <;> refine xL 159 q_eql ?_ <;> refine xL 160 q_move ?_ <;> (first | refine kL 161 ?_ | refine xL 161 q_move ?_) <;> (first | refine kL 162 ?_ | refine xL 162 q_eql ?_) <;> refine xL 163 q_pick ?_ <;> refine xL 164 q_move ?_ <;> (first | refine kL 165 ?_ | refine xL 165 q_move ?_) <;> (first | refine kL 166 ?_ | refine xL 166 q_eql ?_) <;> (first | refine kL 167 ?_ | refine xL 167 q_move ?_) <;> (first | refine kL 168 ?_ | refine xL 168 q_move ?_) <;> (first | refine kL 169 ?_ | refine xL 169 q_eql ?_) <;> (first | refine kL 170 ?_ | refine xL 170 q_pick ?_) <;> (first | refine kL 171 ?_ | refine xL 171 q_move ?_) <;> (first | refine kL 172 ?_ | refine xL 172 q_move ?_) <;> (first | refine kL 173 ?_ | refine xL 173 q_move ?_) <;> (first | refine kL 174 ?_ | (refine cS 174 (cA Tryz.call17 ((r07SameWords_e l3 l4).mono fun p hp => (by rw [hp, decide_eq_true (g3 rfl rfl)] : p = pBool true))) fun v174 hv174 => ?_; cases hv174)) <;> (first | refine kL 175 ?_ | refine xL 175 q_pick ?_) <;> refine xL 176 q_pick ?_ <;> refine xL 4 q_assign ?_ <;> refine aL_end (nav ?_) <;> try dsimp only) <;> (
                      exact ret_shr (Tryz.results9) rfl rfl)))))))))))
theorem autFirst_e (a b : Aut) (_ : fitA a) (_ : fitA b) : AF Tryz.prog 9 [pAut a, pAut b] (· = pBool true) := by
 have cw : ∀ (a : Aut) (n : Int), AF Tryz.prog 15 [pAut a, pInt n] (· = .tup [pIntss (wdsX a n).1, pInt (wdsX a n).2]) := fun a n => (aWords_e a n).mono fun p hp => rwds hp
 by_cases hw0 : (shortX a).1.length = 0
 · refine autFirst_c a b _ _ _ _ _ _ _ _ _ _ _ _ _ (accX a (cmpX a b 4).2.1).1 (aShortest_e a) (cw a _) (fun h => absurd h (by omega)) (fun _ => cw a 0) (fun h h8 => (first_one h (by omega)).1) (fun h h8 h0 => absurd h0 (by omega)) (aEquivalent_e a b) (fun h hs h8 => ?_) (fun _ => cw a _) (fun _ => cw b _) (fun h hs h8 h0 => ?_)
   · have hx : cmpX a b 4 = (false, (cmpX a b 4).2.1, 0) := by rw [← h, ← hs]
     obtain ⟨h1, h2⟩ := first_acc hx (by omega)
     have t1 := takes07_e a (cmpX a b 4).2.1
     have t2 := takes07_e b (cmpX a b 4).2.1
     rw [h1] at t1
     rw [h2] at t2
     rw [h1]
     exact ⟨t1, t2⟩
   · exact first_two (by rw [← h, ← hs]) (by omega) h0
 · refine autFirst_c a b _ _ _ _ _ _ _ _ _ _ _ _ _ (accX a (cmpX a b 4).2.1).1 (aShortest_e a) (cw a _) (fun _ => cw a _) (fun h => absurd h hw0) (fun h h8 => (first_one h (by omega)).1) (fun h h8 h0 => (first_one h (by omega)).2 h0) (aEquivalent_e a b) (fun h hs h8 => ?_) (fun _ => cw a _) (fun _ => cw b _) (fun h hs h8 h0 => ?_)
   · have hx : cmpX a b 4 = (false, (cmpX a b 4).2.1, 0) := by rw [← h, ← hs]
     obtain ⟨h1, h2⟩ := first_acc hx (by omega)
     have t1 := takes07_e a (cmpX a b 4).2.1
     have t2 := takes07_e b (cmpX a b 4).2.1
     rw [h1] at t1
     rw [h2] at t2
     rw [h1]
     exact ⟨t1, t2⟩
   · exact first_two (by rw [← h, ← hs]) (by omega) h0
end Go.Proofs.YtgigclnaicbiaaaGreatDoor
