/-
  Walks: the reference's automata: the words up to a length.
-/
import Derived.Test.YtebcjijpdhbcdaaGreatMLdV
namespace Go.Proofs.YtebcjijpdhbcdaaGreat
open Go.RowKit Go.Cb Go.En
set_option linter.all false
set_option maxRecDepth 100000

theorem tAgg151_LdW : AggT Tryz.prog 151 2 = true := by kernel_rfl
theorem tAgg66_LdW : AggT Tryz.prog 66 5 = true := by kernel_rfl
theorem tEl111_LdW : ElT Tryz.prog 111 63 1 24 (.slice none 0 0) := ⟨Tryz.underlying111, by kernel_rfl, rfl, by decide⟩
theorem tEl152_LdW : ElT Tryz.prog 152 151 2 48 (.agg #[(.slice none 0 0), (.slice none 0 0)]) := ⟨Tryz.underlying152, by kernel_rfl, rfl, by decide⟩
theorem tEl63_LdW : ElT Tryz.prog 63 3 1 8 (.int .i64 0) := ⟨Tryz.underlying63, by kernel_rfl, rfl, by decide⟩
theorem tFl151_0_LdW : FldT Tryz.prog 151 0 0 = true := by kernel_rfl
theorem tFl151_1_LdW : FldT Tryz.prog 151 1 1 = true := by kernel_rfl
theorem tFl66_1_LdW : FldT Tryz.prog 66 1 1 = true := by kernel_rfl
theorem tFl66_2_LdW : FldT Tryz.prog 66 2 2 = true := by kernel_rfl
theorem tNa3_LdW : NoAgg Tryz.prog 3 = true := by kernel_rfl
theorem tNa63_LdW : NoAgg Tryz.prog 63 = true := by kernel_rfl
theorem tSl111_LdW : SlT Tryz.prog 111 63 1 = true := by kernel_rfl
theorem tSl152_LdW : SlT Tryz.prog 152 151 2 = true := by kernel_rfl
theorem tSt151_LdW : stInfo Tryz.prog 151 = some ((.agg #[(.slice none 0 0), (.slice none 0 0)]), ([0, 1] : List Nat).map fun o => (o, 1)) := by kernel_rfl
theorem tZr151_LdW : ZeroT Tryz.prog 151 (.agg #[(.slice none 0 0), (.slice none 0 0)]) := by unfold ZeroT; kernel_rfl

theorem kidR_len (a : Aut) (n : Int) (p : Pf) (c : Nat) : (kidR a n p c).length ≤ 1 := by unfold kidR; split <;> simp
theorem kidsR_part (a : Aut) (n : Int) (p : Pf) : ∀ c, ((List.range c).flatMap (kidR a n p)).length ≤ c
  | 0 => by simp
  | c + 1 => by
    rw [range_snoc, List.length_append]
    have := kidsR_part a n p c
    have := kidR_len a n p c
    omega
theorem kidR_last (a : Aut) {n : Int} (h : n ≤ 0) (p : Pf) (c : Nat) : kidR a n p c = [] := by unfold kidR; rw [if_neg (by omega)]
theorem flatMap_nils {α β : Type} {l : List α} {f : α → List β} (h : ∀ x, f x = []) : l.flatMap f = [] := by
  induction l with
  | nil => rfl
  | cons x l ih => rw [List.flatMap_cons, h, ih]; rfl
theorem kidsR_last (a : Aut) {n : Int} (h : n ≤ 0) (p : Pf) : kidsR a n p = [] := flatMap_nils fun c => kidR_last a h p c
theorem lvR_word {a : Aut} {n : Nat} : ∀ k, ∀ p ∈ lvR a n k, p.1.length = k
  | 0, p, hp => by
    simp only [lvR, List.mem_singleton] at hp
    subst hp; rfl
  | k + 1, p, hp => by
    rw [lvR] at hp
    obtain ⟨r, hr, hr2⟩ := List.mem_flatMap.1 hp
    obtain ⟨c, _, hc⟩ := List.mem_flatMap.1 hr2
    unfold kidR at hc
    split at hc
    · simp only [List.mem_singleton] at hc
      subst hc
      rw [List.length_append, lvR_word k r hr]; rfl
    · simp at hc
theorem big_R {a : Aut} (h : AOk a) {n : Nat} (hb : (∃ k, k ≤ n ∧ 2000 < (lvR a n (k + 1)).length) ∨ 2000 < (sumR a n (n + 1)).length) : bigP a n := by
  rcases hb with ⟨k, h1, h2⟩ | h1
  · exact .inl ⟨k, h1, by rw [lv_len h.mi h.st]; exact h2⟩
  · exact .inr (by rw [sum_same h.mi h.st (Nat.le_refl _)]; exact h1)
set_option maxHeartbeats 4000000 in
theorem r07Words_e (a : Aut) (n : Int) (hml : a.moves.length ≤ 1000000) : AF Tryz.prog 65 [pAut a, pInt n] (RWords a n) := by
  refine AF.of_body 109 Tryz.func65 rfl Tryz.ntmps65 (Nat.le_of_ble_eq_true rfl) ?_
  intro w0 M0 vs hl hv
  obtain ⟨v0, v1, rfl⟩ := len2 hl
  obtain rfl := hv 1 _ _ rfl rfl
  clear hl hv
  refine nav ?_
  (refine aC_region ?_
    <;> refine s_boxa 2 5 fun h2 => ?_
    <;> refine xL 4 q_assign ?_
    <;> refine xL 5 q_assign ?_
    <;> refine aL_end (nav ?_) <;> try dsimp only)
  (refine aC_region ?_
    <;> (refine yL 16 (q_ldao 2 tAgg66_LdW) fun v16 hv16 => ?_; cases hv16)
    <;> (refine cS 17 (cA Tryz.call106 (r07Valid_e a hml)) fun v17 hv17 => ?_; cases hv17)
    <;> refine xL 18 q_not ?_
    <;> refine aL_end (nav ?_) <;> try dsimp only)
  first | refine cCd (fun hb18 => ?_) (fun hb18 => ?_) | refine cC (fun hb18 => ?_) (fun hb18 => ?_)
  · first
    | exact Bool.noConfusion hb18
    | (
     refine nav ?_
     (refine aC_region ?_
       <;> refine xL 4 q_assign ?_
       <;> refine xL 5 q_assign ?_
       <;> refine aL_end (nav ?_) <;> try dsimp only)
     refine aR_ent (nilSlD (t := 4) rfl) fun _ => ?_
     exact ret_ss (Tryz.results65) rfl rfl (.inl ⟨by simpa using hb18, rfl⟩))
  · first
    | exact Bool.noConfusion hb18
    | (
     have hok : autOk a = true := by simpa using hb18
     have hA := aok_of hok
     have hn1 := hA.n1
     have hs1 := hA.s1
     have hs0 := hA.s0
     refine nav ?_
     (refine aC_region ?_
       <;> refine xL 19 q_move ?_
       <;> refine xL 20 q_lss ?_
       <;> refine xL 21 q_move ?_
       <;> (refine bLd 21 (fun hb21 => ?_) (fun hb21 => ?_) <;> (first | refine kL 22 ?_ | refine xL 22 q_move ?_))
       <;> (first | refine kL 23 ?_ | refine xL 23 q_gtr ?_)
       <;> refine xL 24 q_pick ?_
       <;> refine aL_end (nav ?_) <;> try dsimp only) <;> (
      first | refine cCd (fun hb24 => ?_) (fun hb24 => ?_) | refine cC (fun hb24 => ?_) (fun hb24 => ?_)
      · first
        | exact Bool.noConfusion hb24
        | (
         refine nav ?_
         (refine aC_region ?_
           <;> refine xL 4 q_assign ?_
           <;> refine xL 5 q_assign ?_
           <;> refine aL_end (nav ?_) <;> try dsimp only)
         refine aR_ent (nilSlD (t := 4) rfl) fun _ => ?_
         exact ret_ss (Tryz.results65) rfl rfl (.inr (.inl ⟨hok, by first | omega | (simp at hb24; omega), rfl⟩)))
      · first
        | exact Bool.noConfusion hb24
        | (
         have hnb : 0 ≤ n ∧ n ≤ 200 := by simp at hb24; omega
         obtain ⟨N, rfl⟩ : ∃ N : Nat, n = (N : Int) := ⟨n.toNat, by omega⟩
         have hfl := (farL_ok a).len
         have hci := closL_in hA.mi hA.st
         refine nav ?_
         (refine aC_region ?_
           <;> (refine yL 25 (q_ldao 2 tAgg66_LdW) fun v25 hv25 => ?_; cases hv25)
           <;> (refine cO 26 (cA Tryz.call107 (r07distances_e a hA)) fun v26 ho26 => ?_; refine aL_ent (En.freeze (l := 26) (t := 26) rfl rfl) fun _ => ?_; rw [share_ints _ _ _ hfl.symm])
           <;> refine xL 6 q_assign ?_
           <;> refine aL_end (nav ?_) <;> try dsimp only)
         (refine aC_region ?_
           <;> refine xL 7 q_assign ?_
           <;> refine aL_end (nav ?_) <;> try dsimp only)
         (refine aC_region ?_
           <;> (refine s_lit0 27 tEl63_LdW fun h27 ho27 => ?_; refine aL_ent (En.freeze (l := 27) (t := 27) rfl rfl) fun _ => ?_; rw [show share (PV.own 3 1 0 []) = pInts [] from rfl])
           <;> (refine yL 28 (q_ldao 2 tAgg66_LdW) fun v28 hv28 => ?_; cases hv28)
           <;> refine xL 29 (q_fldo 2 tFl66_2_LdW) ?_
           <;> (refine yL 30 (q_ldo 2 tNa63_LdW) fun v30 hv30 => ?_; cases hv30)
           <;> (refine cO 31 (cA Tryz.call108 (r07Closed_e a a.start hA hA.st)) fun v31 ho31 => ?_; refine aL_ent (En.freeze (l := 31) (t := 31) rfl rfl) fun _ => ?_; rw [share_ints _ _ _ rfl])
           <;> refine xL 32 (q_build tSt151_LdW) ?_
           <;> refine s_lit1a 33 tEl152_LdW fun h33 ho33 => ?_
           <;> refine xL 8 q_assign ?_
           <;> refine aL_end (nav ?_) <;> try dsimp only)
         refine aC_ent (nilOwn 200 63 1 rfl) fun _ => ?_
         refine aC_ent (relabel (l := 33) 201 rfl rfl) fun _ => ?_
         refine aC_ent (recast (l := 201) (p' := .own 151 2 (lvR a N 0).length ((lvR a N 0).flatMap cPf)) rfl rfl) fun _ => ?_
         (refine aC_region ?_
           <;> refine xL 9 q_assign ?_
           <;> refine aL_end (nav ?_) <;> try dsimp only)
         refine aC_loop (ι := { q : Nat × Value × Value // q.1 ≤ N + 1 ∧ (∀ j, j ≤ q.1 → (lvR a N j).length ≤ 2000) ∧ (sumR a N q.1).length ≤ 2000 ∧ q.2.1.oneCell' = true ∧ q.2.2.oneCell' = true }) (fun k => ⟨[(1, _, _), (2, _, _), (6, _, _), (7, k.1.2.1, .val k.1.2.1), (8, k.1.2.2, .val k.1.2.2), (9, .int .i64 k.1.1, pInt k.1.1)], [(2, _, _), (200, k.1.2.1, .own 63 1 (sumR a N k.1.1).length ((sumR a N k.1.1).map pInts)), (201, k.1.2.2, .own 151 2 (lvR a N k.1.1).length ((lvR a N k.1.1).flatMap cPf))]⟩) (fun k => N + 1 - k.1.1) ⟨(0, .slice none 0 0, h33), Nat.zero_le _, fun j hj => by have h9 : j = 0 := (by dsimp only at hj; omega); subst h9; simp [lvR], by simp [sumR], rfl, ho33⟩ (fun a w H => H.weaken ⟨rfl, rfl, rfl, rfl, rfl, rfl, trivial⟩ ⟨rfl, rfl, rfl, trivial⟩) ?_
         rintro ⟨⟨lev, hO, hL⟩, hk, hlv, hsm, hoO, hoL⟩
         dsimp only
         dsimp only at hk hlv hsm hoO hoL
         refine nav ?_
         (refine aC_region ?_
           <;> refine xL 34 q_move ?_
           <;> refine xL 35 q_move ?_
           <;> refine xL 36 q_leq ?_
           <;> refine aL_end (nav ?_) <;> try dsimp only)
         first | refine cCd (fun hb36 => ?_) (fun hb36 => ?_) | refine cC (fun hb36 => ?_) (fun hb36 => ?_)
         · first
           | exact Bool.noConfusion hb36
           | (
            have hkN : lev ≤ N := by omega
            have hlk := hlv lev (Nat.le_refl _)
            have hlin := lvR_in hA.mi hA.st N lev
            have hlw := lvR_word (a := a) (n := N) lev
            refine nav ?_
            (refine aC_region ?_
              <;> refine xL 10 q_assign ?_
              <;> refine aL_end (nav ?_) <;> try dsimp only)
            refine aC_ent (nilOwn 202 151 2 rfl) fun _ => ?_
            (refine aC_region ?_
              <;> refine xL 11 q_assign ?_
              <;> refine aL_end (nav ?_) <;> try dsimp only)
            refine aC_loop (ι := { q : Nat × Value × Value × List (List Int) × List Pf // q.1 ≤ (lvR a N lev).length ∧ q.2.2.2.2.length ≤ 2000 ∧ q.2.2.2.1.length ≤ 2000 ∧ q.2.1.oneCell' = true ∧ q.2.2.1.oneCell' = true ∧ q.2.2.2.1 = sumR a N lev ++ outP a ((lvR a N lev).take q.1) ∧ q.2.2.2.2 = ((lvR a N lev).take q.1).flatMap (kidsR a ((N : Int) - lev)) }) (fun k => ⟨[(1, _, _), (2, _, _), (6, _, _), (8, _, _), (9, _, _), (7, k.1.2.1, .val k.1.2.1), (10, k.1.2.2.1, .val k.1.2.2.1), (11, .int .i64 k.1.1, pInt k.1.1)], [(2, _, _), (201, _, _), (200, k.1.2.1, .own 63 1 k.1.2.2.2.1.length (k.1.2.2.2.1.map pInts)), (202, k.1.2.2.1, .own 151 2 k.1.2.2.2.2.length (k.1.2.2.2.2.flatMap cPf))]⟩) (fun k => (lvR a N lev).length - k.1.1) ⟨(0, hO, .slice none 0 0, sumR a N lev, []), Nat.zero_le _, Nat.zero_le _, hsm, hoO, rfl, (List.append_nil _).symm, rfl⟩ (fun a w H => H.weaken ⟨rfl, rfl, rfl, rfl, rfl, rfl, rfl, rfl, trivial⟩ ⟨rfl, rfl, rfl, rfl, trivial⟩) ?_
            rintro ⟨⟨i, hO2, hX, O, X⟩, hi, hkl, hol, hoO2, hoX, hOE, hXE⟩
            dsimp only
            dsimp only at hi hkl hol hoO2 hoX hOE hXE
            refine nav ?_
            (refine aC_region ?_
              <;> refine xL 39 q_move ?_
              <;> refine xL 40 q_move ?_
              <;> refine xL 41 (q_leno 201 tSl152_LdW) ?_
              <;> refine xL 42 q_lss ?_
              <;> refine aL_end (nav ?_) <;> try dsimp only)
            first | refine cCd (fun hb42 => ?_) (fun hb42 => ?_) | refine cC (fun hb42 => ?_) (fun hb42 => ?_)
            · first
              | exact Bool.noConfusion hb42
              | (
               obtain ⟨x, hx⟩ := get_some (show i < (lvR a N lev).length by omega)
               have e1 := flat_drop cPf_len (lvR a N lev) i x hx
               have e2 := flat_fit cPf_len hx
               have hxi := hlin x (List.mem_of_getElem? hx)
               have hxw := hlw x (List.mem_of_getElem? hx)
               have hO3 := outP_take (a := a) hx
               have hK3 := flat_take_snoc (kidsR a ((N : Int) - lev)) hx
               have f3 : (x.1.map pInt).length = x.1.length * 1 := by rw [List.length_map, Nat.mul_one]
               have f4 : (x.1.map pInt).all En.one = true := by rw [List.all_map, List.all_eq_true]; intro x _; rfl
               refine nav ?_
               (refine aC_region ?_
                 <;> refine xL 45 q_move ?_
                 <;> refine xL 46 q_move ?_
                 <;> refine xL 47 (q_idxoN 201 tSl152_LdW) ?_
                 <;> (refine yL 48 (q_ldao 201 tAgg151_LdW) fun v48 hv48 => ?_; cases hv48)
                 <;> refine s_alloc [(.slice none 0 0), (.slice none 0 0)] 2 12 tZr151_LdW fun h12 => ?_
                 <;> refine s_sta 12 tAgg151_LdW ?_
                 <;> refine aL_end (nav ?_) <;> try dsimp only)
               (refine aC_region ?_
                 <;> (refine yL 49 (q_ldao 2 tAgg66_LdW) fun v49 hv49 => ?_; cases hv49)
                 <;> refine xL 50 (q_fldo 12 tFl151_1_LdW) ?_
                 <;> (refine yL 51 (q_ldo 12 tNa63_LdW) fun v51 hv51 => ?_; cases hv51)
                 <;> (refine cS 52 (cA Tryz.call109 (r07final_e a x.2)) fun v52 hv52 => ?_; cases hv52)
                 <;> refine aL_end (nav ?_) <;> try dsimp only)
               first | refine cCd (fun hb52 => ?_) (fun hb52 => ?_) | refine cC (fun hb52 => ?_) (fun hb52 => ?_)
               · first
                 | exact Bool.noConfusion hb52
                 | (
                  rw [if_pos (show accB a x.2 = true from hb52)] at hO3
                  have hOF : O ++ [x.1] = sumR a N lev ++ outP a ((lvR a N lev).take (i + 1)) := by rw [hO3, hOE, List.append_assoc]
                  have hOl2 : (O ++ [x.1]).length = O.length + 1 := by rw [List.length_append]; rfl
                  refine nav ?_
                  (refine aC_region ?_
                    <;> refine xL 53 q_move ?_
                    <;> refine xL 54 (q_fldo 12 tFl151_0_LdW) ?_
                    <;> (refine yL 55 (q_ldo 12 tNa63_LdW) fun v55 hv55 => ?_; cases hv55)
                    <;> refine s_lit1 (kk := 1) 56 tEl111_LdW fun h56 ho56 => ?_
                    <;> (refine s_app 200 56 57 tEl111_LdW fun h57 ho57 => ?_; refine aL_ent (relabel (l := 57) 200 rfl rfl) fun _ => ?_; rw [snoc_w])
                    <;> refine xL 7 q_assign ?_
                    <;> refine aL_end (nav ?_) <;> try dsimp only)
                  (refine aC_region ?_
                    <;> refine xL 13 q_assign ?_
                    <;> refine aL_end (nav ?_) <;> try dsimp only)
                  refine aC_loop (ι := { q : Nat × Value × List Pf // q.1 ≤ a.syms.toNat ∧ q.2.1.oneCell' = true ∧ q.2.2 = X ++ (List.range q.1).flatMap (kidR a ((N : Int) - lev) x) }) (fun k => ⟨[(1, _, _), (2, _, _), (6, _, _), (7, _, _), (8, _, _), (9, _, _), (11, _, _), (12, _, _), (10, k.1.2.1, .val k.1.2.1), (13, .int .i64 k.1.1, pInt k.1.1)], [(2, _, _), (12, _, _), (200, _, _), (201, _, _), (202, k.1.2.1, .own 151 2 k.1.2.2.length (k.1.2.2.flatMap cPf))]⟩) (fun k => a.syms.toNat - k.1.1) ⟨(0, hX, X), Nat.zero_le _, hoX, (List.append_nil _).symm⟩ (fun a w H => H.weaken ⟨rfl, rfl, rfl, rfl, rfl, rfl, rfl, rfl, rfl, rfl, trivial⟩ ⟨rfl, rfl, rfl, rfl, rfl, trivial⟩) ?_
                  rintro ⟨⟨c, hX2, X2⟩, hc, hoX2, hX2E⟩
                  dsimp only
                  dsimp only at hc hoX2 hX2E
                  have hkc := kidsR_part a ((N : Int) - lev) x c
                  have hkl2 : X2.length ≤ 2100 := by rw [hX2E, List.length_append]; omega
                  refine nav ?_
                  (refine aC_region ?_
                    <;> refine xL 58 q_move ?_
                    <;> refine xL 59 (q_fldo 2 tFl66_1_LdW) ?_
                    <;> (refine yL 60 (q_ldo 2 tNa3_LdW) fun v60 hv60 => ?_; cases hv60)
                    <;> refine xL 61 q_lss ?_
                    <;> refine xL 62 q_move ?_
                    <;> (refine bLd 62 (fun hb62 => ?_) (fun hb62 => ?_) <;> (first | refine kL 63 ?_ | refine xL 63 q_move ?_))
                    <;> (first | refine kL 64 ?_ | refine xL 64 q_move ?_)
                    <;> (first | refine kL 65 ?_ | refine xL 65 q_lss ?_)
                    <;> refine xL 66 q_pick ?_
                    <;> refine aL_end (nav ?_) <;> try dsimp only) <;> (
                   first | refine cCd (fun hb66 => ?_) (fun hb66 => ?_) | refine cC (fun hb66 => ?_) (fun hb66 => ?_)
                   · first
                     | exact Bool.noConfusion hb66
                     | (
                      have hni := next_in hA.mi (c : Int) x.2
                      have hcs : c < a.syms.toNat := by first | omega | (simp at hb66; omega)
                      have hR := range_snoc (kidR a ((N : Int) - lev) x) c
                      refine nav ?_
                      (refine aC_region ?_
                        <;> (refine yL 69 (q_ldao 2 tAgg66_LdW) fun v69 hv69 => ?_; cases hv69)
                        <;> refine xL 70 (q_fldo 12 tFl151_1_LdW) ?_
                        <;> (refine yL 71 (q_ldo 12 tNa63_LdW) fun v71 hv71 => ?_; cases hv71)
                        <;> refine xL 72 q_move ?_
                        <;> (refine cO 73 (cA Tryz.call110 (r07After_e a x.2 c hA hxi)) fun v73 ho73 => ?_; refine aL_ent (En.freeze (l := 73) (t := 73) rfl rfl) fun _ => ?_; rw [share_ints _ _ _ rfl])
                        <;> refine xL 14 q_assign ?_
                        <;> refine aL_end (nav ?_) <;> try dsimp only)
                      (refine aC_region ?_
                        <;> refine xL 74 q_move ?_
                        <;> refine xL 75 q_move ?_
                        <;> (refine cS 76 (cA Tryz.call111 (r07near_e (farL a) (nextL a c x.2) (fun s hs => by have := hni s hs; omega))) fun v76 hv76 => ?_; cases hv76)
                        <;> refine xL 15 q_assign ?_
                        <;> refine aL_end (nav ?_) <;> try dsimp only)
                      (refine aC_region ?_
                        <;> refine xL 77 q_move ?_
                        <;> refine xL 78 q_geq ?_
                        <;> refine xL 79 q_move ?_
                        <;> (refine bLd 79 (fun hb79 => ?_) (fun hb79 => ?_) <;> (first | refine kL 80 ?_ | refine xL 80 q_move ?_))
                        <;> (first | refine kL 81 ?_ | refine xL 81 q_move ?_)
                        <;> (first | refine kL 82 ?_ | refine xL 82 q_move ?_)
                        <;> (first | refine kL 83 ?_ | refine xL 83 q_sub ?_)
                        <;> (first | refine kL 84 ?_ | refine xL 84 q_sub ?_)
                        <;> (first | refine kL 85 ?_ | refine xL 85 q_leq ?_)
                        <;> refine xL 86 q_pick ?_
                        <;> refine aL_end (nav ?_) <;> try dsimp only) <;> (
                       first | refine cCd (fun hb86 => ?_) (fun hb86 => ?_) | refine cC (fun hb86 => ?_) (fun hb86 => ?_)
                       · first
                         | exact Bool.noConfusion hb86
                         | (
                          have hkid : kidR a ((N : Int) - lev) x c = [(x.1 ++ [(c : Int)], nextL a c x.2)] := by unfold kidR; rw [if_pos (by first | omega | (simp at hb86; omega))]
                          rw [hkid] at hR
                          refine nav ?_
                          (refine aC_region ?_
                            <;> refine xL 87 q_move ?_
                            <;> refine s_lit0 88 tEl63_LdW fun h88 ho88 => ?_
                            <;> refine xL 89 (q_fldo 12 tFl151_0_LdW) ?_
                            <;> (refine yL 90 (q_ldo 12 tNa63_LdW) fun v90 hv90 => ?_; cases hv90)
                            <;> (refine s_apps 88 91 tEl63_LdW (fun h91 ho91 => ?_) f3 f4; refine aL_ent (recast (l := 91) (p' := .own 3 1 x.1.length (x.1.map pInt)) rfl (by show PV.own _ _ (0 + x.1.length) _ = _; rw [Nat.zero_add]; rfl)) fun _ => ?_)
                            <;> refine xL 92 q_move ?_
                            <;> refine s_lit1 (kk := 1) 93 tEl63_LdW fun h93 ho93 => ?_
                            <;> (refine s_app 91 93 94 tEl63_LdW fun h94 ho94 => ?_; refine aL_ent (recast (l := 94) rfl (own_snoc _ x.1 c)) fun _ => ?_; refine aL_ent (En.freeze (l := 94) (t := 94) rfl rfl) fun _ => ?_; rw [share_ints _ _ _ rfl])
                            <;> refine xL 95 q_move ?_
                            <;> refine xL 96 (q_build tSt151_LdW) ?_
                            <;> refine s_lit1a 97 tEl152_LdW fun h97 ho97 => ?_
                            <;> (refine s_app 202 97 98 tEl152_LdW fun h98 ho98 => ?_; refine aL_ent (relabel (l := 98) 202 rfl rfl) fun _ => ?_; refine aL_ent (recast (l := 202) rfl (snoc_pf _ X2 (x.1 ++ [(c : Int)], nextL a c x.2))) fun _ => ?_)
                            <;> refine xL 10 q_assign ?_
                            <;> refine aL_end (nav ?_) <;> try dsimp only)
                          (refine aC_region ?_
                            <;> refine xL 67 q_move ?_
                            <;> refine xL 68 q_add ?_
                            <;> refine xL 13 q_assign ?_
                            <;> refine aL_end (nav ?_) <;> try dsimp only)
                          first
                            | (exact aN_again (
                                ⟨(c + 1, h98, X2 ++ [(x.1 ++ [(c : Int)], nextL a c x.2)]), by dsimp only; omega, ho98, by dsimp only; rw [hX2E, hR, List.append_assoc]⟩
                                ) (by dsimp only; omega) ⟨rfl, rfl, rfl, rfl, rfl, rfl, rfl, rfl, rfl, rfl, trivial⟩ ⟨rfl, rfl, rfl, rfl, rfl, trivial⟩)
                            | (exact aN_again (
                                ⟨(c + 1, hX2, X2), by dsimp only; omega, hoX2, by dsimp only; rw [hX2E, hR]⟩
                                ) (by dsimp only; omega) ⟨rfl, rfl, rfl, rfl, rfl, rfl, rfl, rfl, rfl, rfl, trivial⟩ ⟨rfl, rfl, rfl, rfl, rfl, trivial⟩))
                       · first
                         | exact Bool.noConfusion hb86
                         | (
                          have hkid : kidR a ((N : Int) - lev) x c = [] := by unfold kidR; rw [if_neg (by first | omega | (simp at hb86; omega))]
                          rw [hkid, List.append_nil] at hR
                          refine nav ?_
                          (refine aC_region ?_
                            <;> refine xL 67 q_move ?_
                            <;> refine xL 68 q_add ?_
                            <;> refine xL 13 q_assign ?_
                            <;> refine aL_end (nav ?_) <;> try dsimp only)
                          first
                            | (exact aN_again (
                                ⟨(c + 1, h98, X2 ++ [(x.1 ++ [(c : Int)], nextL a c x.2)]), by dsimp only; omega, ho98, by dsimp only; rw [hX2E, hR, List.append_assoc]⟩
                                ) (by dsimp only; omega) ⟨rfl, rfl, rfl, rfl, rfl, rfl, rfl, rfl, rfl, rfl, trivial⟩ ⟨rfl, rfl, rfl, rfl, rfl, trivial⟩)
                            | (exact aN_again (
                                ⟨(c + 1, hX2, X2), by dsimp only; omega, hoX2, by dsimp only; rw [hX2E, hR]⟩
                                ) (by dsimp only; omega) ⟨rfl, rfl, rfl, rfl, rfl, rfl, rfl, rfl, rfl, rfl, trivial⟩ ⟨rfl, rfl, rfl, rfl, rfl, trivial⟩))))
                   · first
                     | exact Bool.noConfusion hb66
                     | (
                      have hXF : X2 = ((lvR a N lev).take (i + 1)).flatMap (kidsR a ((N : Int) - lev)) := by
                        rw [hX2E, hK3, hXE]
                        congr 1
                        rcases Nat.lt_or_ge c a.syms.toNat with h9 | h9
                        · have h8 : (N : Int) - lev ≤ 0 := by first | omega | (simp at hb66; omega)
                          rw [kidsR_last a h8, flatMap_nils fun c => kidR_last a h8 x c]
                        · rw [show c = a.syms.toNat by omega]; rfl
                      refine nav ?_
                      (refine aC_region ?_
                        <;> refine xL 99 q_move ?_
                        <;> refine xL 100 (q_leno 202 tSl152_LdW) ?_
                        <;> refine xL 101 q_gtr ?_
                        <;> refine xL 102 q_move ?_
                        <;> (refine bLd 102 (fun hb102 => ?_) (fun hb102 => ?_) <;> (first | refine kL 103 ?_ | refine xL 103 q_move ?_))
                        <;> (first | refine kL 104 ?_ | refine xL 104 (q_leno 200 tSl111_LdW) ?_)
                        <;> (first | refine kL 105 ?_ | refine xL 105 q_gtr ?_)
                        <;> refine xL 106 q_pick ?_
                        <;> refine aL_end (nav ?_) <;> try dsimp only) <;> (
                       first | refine cCd (fun hb106 => ?_) (fun hb106 => ?_) | refine cC (fun hb106 => ?_) (fun hb106 => ?_)
                       · first
                         | exact Bool.noConfusion hb106
                         | (
                          refine nav ?_
                          (refine aC_region ?_
                            <;> refine xL 4 q_assign ?_
                            <;> refine xL 5 q_assign ?_
                            <;> refine aL_end (nav ?_) <;> try dsimp only)
                          refine aR_ent (nilSlD (t := 4) rfl) fun _ => ?_
                          refine ret_ss (Tryz.results65) rfl rfl (.inr (.inr (.inl ⟨hok, by omega, by omega, ?_, rfl⟩)))
                          rw [Int.toNat_natCast]
                          refine big_R hA ?_
                          have hfl2 := flat_take_len (kidsR a ((N : Int) - lev)) (lvR a N lev) (i + 1)
                          have hsm5 := sumR_mono a N (show lev + 1 ≤ N + 1 by omega)
                          rw [sumR_snoc, List.length_append] at hsm5
                          have hop5 := outP_pre a (lvR a N lev) (i + 1)
                          have hOl := congrArg List.length hOF
                          have hXl := congrArg List.length hXF
                          simp only [List.length_append, List.length_cons, List.length_nil] at hOl
                          by_cases hbig : 2000 < X2.length
                          · exact .inl ⟨lev, by omega, by rw [lvR]; omega⟩
                          · refine .inr ?_
                            first
                              | omega
                              | (simp at hb106 hOl; omega))
                       · first
                         | exact Bool.noConfusion hb106
                         | (
                          refine nav ?_
                          (refine aC_region ?_
                            <;> refine xL 43 q_move ?_
                            <;> refine xL 44 q_add ?_
                            <;> refine xL 11 q_assign ?_
                            <;> refine aL_end (nav ?_) <;> try dsimp only)
                          first
                            | (exact aN_again (
                                ⟨(i + 1, _, _, O ++ [x.1], X2), lt_of_get hx, (by dsimp only; first | omega | (simp at hb106; omega)), (by dsimp only; first | omega | (simp at hb106; omega)), (by assumption), hoX2, hOF, hXF⟩
                                ) (by dsimp only; omega) ⟨rfl, rfl, rfl, rfl, rfl, rfl, rfl, rfl, trivial⟩ ⟨rfl, rfl, rfl, rfl, trivial⟩)
                            | (exact aN_again (
                                ⟨(i + 1, hO2, hX2, O, X2), lt_of_get hx, (by dsimp only; first | omega | (simp at hb106; omega)), (by dsimp only; first | omega | (simp at hb106; omega)), (by assumption), hoX2, hOF, hXF⟩
                                ) (by dsimp only; omega) ⟨rfl, rfl, rfl, rfl, rfl, rfl, rfl, rfl, trivial⟩ ⟨rfl, rfl, rfl, rfl, trivial⟩))))))
               · first
                 | exact Bool.noConfusion hb52
                 | (
                  rw [if_neg (show ¬ accB a x.2 = true by simpa using hb52), List.append_nil] at hO3
                  have hOF : O = sumR a N lev ++ outP a ((lvR a N lev).take (i + 1)) := by rw [hO3, hOE]
                  refine nav ?_
                  (refine aC_region ?_
                    <;> refine xL 13 q_assign ?_
                    <;> refine aL_end (nav ?_) <;> try dsimp only)
                  refine aC_loop (ι := { q : Nat × Value × List Pf // q.1 ≤ a.syms.toNat ∧ q.2.1.oneCell' = true ∧ q.2.2 = X ++ (List.range q.1).flatMap (kidR a ((N : Int) - lev) x) }) (fun k => ⟨[(1, _, _), (2, _, _), (6, _, _), (7, _, _), (8, _, _), (9, _, _), (11, _, _), (12, _, _), (10, k.1.2.1, .val k.1.2.1), (13, .int .i64 k.1.1, pInt k.1.1)], [(2, _, _), (12, _, _), (200, _, _), (201, _, _), (202, k.1.2.1, .own 151 2 k.1.2.2.length (k.1.2.2.flatMap cPf))]⟩) (fun k => a.syms.toNat - k.1.1) ⟨(0, hX, X), Nat.zero_le _, hoX, (List.append_nil _).symm⟩ (fun a w H => H.weaken ⟨rfl, rfl, rfl, rfl, rfl, rfl, rfl, rfl, rfl, rfl, trivial⟩ ⟨rfl, rfl, rfl, rfl, rfl, trivial⟩) ?_
                  rintro ⟨⟨c, hX2, X2⟩, hc, hoX2, hX2E⟩
                  dsimp only
                  dsimp only at hc hoX2 hX2E
                  have hkc := kidsR_part a ((N : Int) - lev) x c
                  have hkl2 : X2.length ≤ 2100 := by rw [hX2E, List.length_append]; omega
                  refine nav ?_
                  (refine aC_region ?_
                    <;> refine xL 58 q_move ?_
                    <;> refine xL 59 (q_fldo 2 tFl66_1_LdW) ?_
                    <;> (refine yL 60 (q_ldo 2 tNa3_LdW) fun v60 hv60 => ?_; cases hv60)
                    <;> refine xL 61 q_lss ?_
                    <;> refine xL 62 q_move ?_
                    <;> (refine bLd 62 (fun hb62 => ?_) (fun hb62 => ?_) <;> (first | refine kL 63 ?_ | refine xL 63 q_move ?_))
                    <;> (first | refine kL 64 ?_ | refine xL 64 q_move ?_)
                    <;> (first | refine kL 65 ?_ | refine xL 65 q_lss ?_)
                    <;> refine xL 66 q_pick ?_
                    <;> refine aL_end (nav ?_) <;> try dsimp only) <;> (
                   first | refine cCd (fun hb66 => ?_) (fun hb66 => ?_) | refine cC (fun hb66 => ?_) (fun hb66 => ?_)
                   · first
                     | exact Bool.noConfusion hb66
                     | (
                      have hni := next_in hA.mi (c : Int) x.2
                      have hcs : c < a.syms.toNat := by first | omega | (simp at hb66; omega)
                      have hR := range_snoc (kidR a ((N : Int) - lev) x) c
                      refine nav ?_
                      (refine aC_region ?_
                        <;> (refine yL 69 (q_ldao 2 tAgg66_LdW) fun v69 hv69 => ?_; cases hv69)
                        <;> refine xL 70 (q_fldo 12 tFl151_1_LdW) ?_
                        <;> (refine yL 71 (q_ldo 12 tNa63_LdW) fun v71 hv71 => ?_; cases hv71)
                        <;> refine xL 72 q_move ?_
                        <;> (refine cO 73 (cA Tryz.call110 (r07After_e a x.2 c hA hxi)) fun v73 ho73 => ?_; refine aL_ent (En.freeze (l := 73) (t := 73) rfl rfl) fun _ => ?_; rw [share_ints _ _ _ rfl])
                        <;> refine xL 14 q_assign ?_
                        <;> refine aL_end (nav ?_) <;> try dsimp only)
                      (refine aC_region ?_
                        <;> refine xL 74 q_move ?_
                        <;> refine xL 75 q_move ?_
                        <;> (refine cS 76 (cA Tryz.call111 (r07near_e (farL a) (nextL a c x.2) (fun s hs => by have := hni s hs; omega))) fun v76 hv76 => ?_; cases hv76)
                        <;> refine xL 15 q_assign ?_
                        <;> refine aL_end (nav ?_) <;> try dsimp only)
                      (refine aC_region ?_
                        <;> refine xL 77 q_move ?_
                        <;> refine xL 78 q_geq ?_
                        <;> refine xL 79 q_move ?_
                        <;> (refine bLd 79 (fun hb79 => ?_) (fun hb79 => ?_) <;> (first | refine kL 80 ?_ | refine xL 80 q_move ?_))
                        <;> (first | refine kL 81 ?_ | refine xL 81 q_move ?_)
                        <;> (first | refine kL 82 ?_ | refine xL 82 q_move ?_)
                        <;> (first | refine kL 83 ?_ | refine xL 83 q_sub ?_)
                        <;> (first | refine kL 84 ?_ | refine xL 84 q_sub ?_)
                        <;> (first | refine kL 85 ?_ | refine xL 85 q_leq ?_)
                        <;> refine xL 86 q_pick ?_
                        <;> refine aL_end (nav ?_) <;> try dsimp only) <;> (
                       first | refine cCd (fun hb86 => ?_) (fun hb86 => ?_) | refine cC (fun hb86 => ?_) (fun hb86 => ?_)
                       · first
                         | exact Bool.noConfusion hb86
                         | (
                          have hkid : kidR a ((N : Int) - lev) x c = [(x.1 ++ [(c : Int)], nextL a c x.2)] := by unfold kidR; rw [if_pos (by first | omega | (simp at hb86; omega))]
                          rw [hkid] at hR
                          refine nav ?_
                          (refine aC_region ?_
                            <;> refine xL 87 q_move ?_
                            <;> refine s_lit0 88 tEl63_LdW fun h88 ho88 => ?_
                            <;> refine xL 89 (q_fldo 12 tFl151_0_LdW) ?_
                            <;> (refine yL 90 (q_ldo 12 tNa63_LdW) fun v90 hv90 => ?_; cases hv90)
                            <;> (refine s_apps 88 91 tEl63_LdW (fun h91 ho91 => ?_) f3 f4; refine aL_ent (recast (l := 91) (p' := .own 3 1 x.1.length (x.1.map pInt)) rfl (by show PV.own _ _ (0 + x.1.length) _ = _; rw [Nat.zero_add]; rfl)) fun _ => ?_)
                            <;> refine xL 92 q_move ?_
                            <;> refine s_lit1 (kk := 1) 93 tEl63_LdW fun h93 ho93 => ?_
                            <;> (refine s_app 91 93 94 tEl63_LdW fun h94 ho94 => ?_; refine aL_ent (recast (l := 94) rfl (own_snoc _ x.1 c)) fun _ => ?_; refine aL_ent (En.freeze (l := 94) (t := 94) rfl rfl) fun _ => ?_; rw [share_ints _ _ _ rfl])
                            <;> refine xL 95 q_move ?_
                            <;> refine xL 96 (q_build tSt151_LdW) ?_
                            <;> refine s_lit1a 97 tEl152_LdW fun h97 ho97 => ?_
                            <;> (refine s_app 202 97 98 tEl152_LdW fun h98 ho98 => ?_; refine aL_ent (relabel (l := 98) 202 rfl rfl) fun _ => ?_; refine aL_ent (recast (l := 202) rfl (snoc_pf _ X2 (x.1 ++ [(c : Int)], nextL a c x.2))) fun _ => ?_)
                            <;> refine xL 10 q_assign ?_
                            <;> refine aL_end (nav ?_) <;> try dsimp only)
                          (refine aC_region ?_
                            <;> refine xL 67 q_move ?_
                            <;> refine xL 68 q_add ?_
                            <;> refine xL 13 q_assign ?_
                            <;> refine aL_end (nav ?_) <;> try dsimp only)
                          first
                            | (exact aN_again (
                                ⟨(c + 1, h98, X2 ++ [(x.1 ++ [(c : Int)], nextL a c x.2)]), by dsimp only; omega, ho98, by dsimp only; rw [hX2E, hR, List.append_assoc]⟩
                                ) (by dsimp only; omega) ⟨rfl, rfl, rfl, rfl, rfl, rfl, rfl, rfl, rfl, rfl, trivial⟩ ⟨rfl, rfl, rfl, rfl, rfl, trivial⟩)
                            | (exact aN_again (
                                ⟨(c + 1, hX2, X2), by dsimp only; omega, hoX2, by dsimp only; rw [hX2E, hR]⟩
                                ) (by dsimp only; omega) ⟨rfl, rfl, rfl, rfl, rfl, rfl, rfl, rfl, rfl, rfl, trivial⟩ ⟨rfl, rfl, rfl, rfl, rfl, trivial⟩))
                       · first
                         | exact Bool.noConfusion hb86
                         | (
                          have hkid : kidR a ((N : Int) - lev) x c = [] := by unfold kidR; rw [if_neg (by first | omega | (simp at hb86; omega))]
                          rw [hkid, List.append_nil] at hR
                          refine nav ?_
                          (refine aC_region ?_
                            <;> refine xL 67 q_move ?_
                            <;> refine xL 68 q_add ?_
                            <;> refine xL 13 q_assign ?_
                            <;> refine aL_end (nav ?_) <;> try dsimp only)
                          first
                            | (exact aN_again (
                                ⟨(c + 1, h98, X2 ++ [(x.1 ++ [(c : Int)], nextL a c x.2)]), by dsimp only; omega, ho98, by dsimp only; rw [hX2E, hR, List.append_assoc]⟩
                                ) (by dsimp only; omega) ⟨rfl, rfl, rfl, rfl, rfl, rfl, rfl, rfl, rfl, rfl, trivial⟩ ⟨rfl, rfl, rfl, rfl, rfl, trivial⟩)
                            | (exact aN_again (
                                ⟨(c + 1, hX2, X2), by dsimp only; omega, hoX2, by dsimp only; rw [hX2E, hR]⟩
                                ) (by dsimp only; omega) ⟨rfl, rfl, rfl, rfl, rfl, rfl, rfl, rfl, rfl, rfl, trivial⟩ ⟨rfl, rfl, rfl, rfl, rfl, trivial⟩))))
                   · first
                     | exact Bool.noConfusion hb66
                     | (
                      have hXF : X2 = ((lvR a N lev).take (i + 1)).flatMap (kidsR a ((N : Int) - lev)) := by
                        rw [hX2E, hK3, hXE]
                        congr 1
                        rcases Nat.lt_or_ge c a.syms.toNat with h9 | h9
                        · have h8 : (N : Int) - lev ≤ 0 := by first | omega | (simp at hb66; omega)
                          rw [kidsR_last a h8, flatMap_nils fun c => kidR_last a h8 x c]
                        · rw [show c = a.syms.toNat by omega]; rfl
                      refine nav ?_
                      (refine aC_region ?_
                        <;> refine xL 99 q_move ?_
                        <;> refine xL 100 (q_leno 202 tSl152_LdW) ?_
                        <;> refine xL 101 q_gtr ?_
                        <;> refine xL 102 q_move ?_
                        <;> (refine bLd 102 (fun hb102 => ?_) (fun hb102 => ?_) <;> (first | refine kL 103 ?_ | refine xL 103 q_move ?_))
                        <;> (first | refine kL 104 ?_ | refine xL 104 (q_leno 200 tSl111_LdW) ?_)
                        <;> (first | refine kL 105 ?_ | refine xL 105 q_gtr ?_)
                        <;> refine xL 106 q_pick ?_
                        <;> refine aL_end (nav ?_) <;> try dsimp only) <;> (
                       first | refine cCd (fun hb106 => ?_) (fun hb106 => ?_) | refine cC (fun hb106 => ?_) (fun hb106 => ?_)
                       · first
                         | exact Bool.noConfusion hb106
                         | (
                          refine nav ?_
                          (refine aC_region ?_
                            <;> refine xL 4 q_assign ?_
                            <;> refine xL 5 q_assign ?_
                            <;> refine aL_end (nav ?_) <;> try dsimp only)
                          refine aR_ent (nilSlD (t := 4) rfl) fun _ => ?_
                          refine ret_ss (Tryz.results65) rfl rfl (.inr (.inr (.inl ⟨hok, by omega, by omega, ?_, rfl⟩)))
                          rw [Int.toNat_natCast]
                          refine big_R hA ?_
                          have hfl2 := flat_take_len (kidsR a ((N : Int) - lev)) (lvR a N lev) (i + 1)
                          have hsm5 := sumR_mono a N (show lev + 1 ≤ N + 1 by omega)
                          rw [sumR_snoc, List.length_append] at hsm5
                          have hop5 := outP_pre a (lvR a N lev) (i + 1)
                          have hOl := congrArg List.length hOF
                          have hXl := congrArg List.length hXF
                          simp only [List.length_append, List.length_cons, List.length_nil] at hOl
                          by_cases hbig : 2000 < X2.length
                          · exact .inl ⟨lev, by omega, by rw [lvR]; omega⟩
                          · refine .inr ?_
                            first
                              | omega
                              | (simp at hb106 hOl; omega))
                       · first
                         | exact Bool.noConfusion hb106
                         | (
                          refine nav ?_
                          (refine aC_region ?_
                            <;> refine xL 43 q_move ?_
                            <;> refine xL 44 q_add ?_
                            <;> refine xL 11 q_assign ?_
                            <;> refine aL_end (nav ?_) <;> try dsimp only)
                          first
                            | (exact aN_again (
                                ⟨(i + 1, _, _, O ++ [x.1], X2), lt_of_get hx, (by dsimp only; first | omega | (simp at hb106; omega)), (by dsimp only; first | omega | (simp at hb106; omega)), (by assumption), hoX2, hOF, hXF⟩
                                ) (by dsimp only; omega) ⟨rfl, rfl, rfl, rfl, rfl, rfl, rfl, rfl, trivial⟩ ⟨rfl, rfl, rfl, rfl, trivial⟩)
                            | (exact aN_again (
                                ⟨(i + 1, hO2, hX2, O, X2), lt_of_get hx, (by dsimp only; first | omega | (simp at hb106; omega)), (by dsimp only; first | omega | (simp at hb106; omega)), (by assumption), hoX2, hOF, hXF⟩
                                ) (by dsimp only; omega) ⟨rfl, rfl, rfl, rfl, rfl, rfl, rfl, rfl, trivial⟩ ⟨rfl, rfl, rfl, rfl, trivial⟩)))))))
            · first
              | exact Bool.noConfusion hb42
              | (
               have hil : i = (lvR a N lev).length := by omega
               rw [hil, List.take_length] at hOE hXE
               have hOS : O = sumR a N (lev + 1) := by rw [sumR_snoc]; exact hOE
               have hXS : X = lvR a N (lev + 1) := hXE
               have hsm6 : (sumR a N (lev + 1)).length ≤ 2000 := by rw [← hOS]; exact hol
               have hkl6 : (lvR a N (lev + 1)).length ≤ 2000 := by rw [← hXS]; exact hkl
               clear hOE hXE hil
               subst hOS hXS
               refine nav ?_
               (refine aC_region ?_
                 <;> refine xL 107 q_move ?_
                 <;> refine xL 8 q_assign ?_
                 <;> refine aL_end (nav ?_) <;> try dsimp only)
               (refine aC_region ?_
                 <;> refine xL 37 q_move ?_
                 <;> refine xL 38 q_add ?_
                 <;> refine xL 9 q_assign ?_
                 <;> refine aL_end (nav ?_) <;> try dsimp only)
               refine aN_ent (relabel (l := 201) 203 rfl rfl) fun _ => ?_
               refine aN_ent (relabel (l := 202) 201 rfl rfl) fun _ => ?_
               refine aN_again (
                 ⟨(lev + 1, hO2, hX), by dsimp only; omega, fun j hj => by
                   dsimp only at hj
                   rcases Nat.lt_or_ge lev j with h9 | h9
                   · rw [show j = lev + 1 by omega]; exact hkl6
                   · exact hlv j h9, hsm6, hoO2, hoX⟩
                 ) (by dsimp only; omega) ⟨rfl, rfl, rfl, rfl, rfl, rfl, trivial⟩ ⟨rfl, rfl, rfl, trivial⟩))
         · first
           | exact Bool.noConfusion hb36
           | (
            have hkE : lev = N + 1 := by omega
            subst hkE
            refine nav ?_
            (refine aC_region ?_
              <;> refine xL 108 q_move ?_
              <;> refine xL 4 q_assign ?_
              <;> refine xL 5 q_assign ?_
              <;> refine aL_end (nav ?_) <;> try dsimp only)
            refine aR_ent (En.freeze (l := 200) (t := 4) rfl rfl) fun _ => ?_
            rw [share_intss _ _ _ rfl]
            refine ret_ss (Tryz.results65) rfl rfl (.inr (.inr (.inr ⟨hok, by omega, by omega, ?_, by rw [Int.toNat_natCast, sum_same hA.mi hA.st (Nat.le_refl _)]⟩)))
            rw [Int.toNat_natCast]
            rintro (⟨j, h1, h2⟩ | h1)
            · have := hlv (j + 1) (by omega)
              rw [lv_len hA.mi hA.st] at h2; omega
            · rw [sum_same hA.mi hA.st (Nat.le_refl _)] at h1; omega))))
end Go.Proofs.YtebcjijpdhbcdaaGreat
