/-
  Walks: automata: the words up to a length.
-/
import Derived.Test.YtebcjijpdhbcdaaGreatLk
import Derived.Test.YtebcjijpdhbcdaaGreatEngc
namespace Go.Proofs.YtebcjijpdhbcdaaGreat
open Go.RowKit Go.Cb Go.En
set_option linter.all false
set_option maxRecDepth 100000

theorem tAgg147_LdS : AggT Tryz.prog 147 2 = true := by kernel_rfl
theorem tAgg66_LdS : AggT Tryz.prog 66 5 = true := by kernel_rfl
theorem tEl111_LdS : ElT Tryz.prog 111 63 1 24 (.slice none 0 0) := ⟨Tryz.underlying111, by kernel_rfl, rfl, by decide⟩
theorem tEl148_LdS : ElT Tryz.prog 148 147 2 48 (.agg #[(.slice none 0 0), (.slice none 0 0)]) := ⟨Tryz.underlying148, by kernel_rfl, rfl, by decide⟩
theorem tEl63_LdS : ElT Tryz.prog 63 3 1 8 (.int .i64 0) := ⟨Tryz.underlying63, by kernel_rfl, rfl, by decide⟩
theorem tFl147_0_LdS : FldT Tryz.prog 147 0 0 = true := by kernel_rfl
theorem tFl147_1_LdS : FldT Tryz.prog 147 1 1 = true := by kernel_rfl
theorem tFl66_1_LdS : FldT Tryz.prog 66 1 1 = true := by kernel_rfl
theorem tFl66_2_LdS : FldT Tryz.prog 66 2 2 = true := by kernel_rfl
theorem tNa3_LdS : NoAgg Tryz.prog 3 = true := by kernel_rfl
theorem tNa63_LdS : NoAgg Tryz.prog 63 = true := by kernel_rfl
theorem tSl111_LdS : SlT Tryz.prog 111 63 1 = true := by kernel_rfl
theorem tSl148_LdS : SlT Tryz.prog 148 147 2 = true := by kernel_rfl
theorem tSl63_LdS : SlT Tryz.prog 63 3 1 = true := by kernel_rfl
theorem tSt147_LdS : stInfo Tryz.prog 147 = some ((.agg #[(.slice none 0 0), (.slice none 0 0)]), ([0, 1] : List Nat).map fun o => (o, 1)) := by kernel_rfl
theorem tZr147_LdS : ZeroT Tryz.prog 147 (.agg #[(.slice none 0 0), (.slice none 0 0)]) := by unfold ZeroT; kernel_rfl

def cPf (p : Pf) : List PV := [pInts p.1, pInts p.2]
theorem cPf_len (p : Pf) : (cPf p).length = 2 := rfl
theorem snoc_pf (e : Nat) (L : List Pf) (x : Pf) : PV.own e 2 (L.length + 1) (L.flatMap cPf ++ cPf x) = .own e 2 (L ++ [x]).length ((L ++ [x]).flatMap cPf) := by simp
theorem snoc_w (e : Nat) (L : List (List Int)) (x : List Int) : PV.own e 1 (L.length + 1) (L.map pInts ++ [pInts x]) = .own e 1 (L ++ [x]).length ((L ++ [x]).map pInts) := by simp
theorem share_intss (e n : Nat) (l : List (List Int)) (hn : n = l.length) : share (.own e 1 n (l.map pInts)) = pIntss l := by
  subst hn
  rw [share, shares_eq, List.map_map]
  unfold pIntss
  congr 1
def RWords (a : Aut) (n : Int) (p : PV) : Prop :=
  (autOk a = false ∧ p = .tup [.sl 0 [], pInt 1]) ∨ (autOk a = true ∧ (n < 0 ∨ 200 < n) ∧ p = .tup [.sl 0 [], pInt 2]) ∨ (autOk a = true ∧ 0 ≤ n ∧ n ≤ 200 ∧ bigP a n.toNat ∧ p = .tup [.sl 0 [], pInt 5]) ∨ (autOk a = true ∧ 0 ≤ n ∧ n ≤ 200 ∧ ¬ bigP a n.toNat ∧ p = .tup [pIntss (sumP a n.toNat (n.toNat + 1)), pInt 0])
theorem kidP_len (a : Aut) (n : Int) (p : Pf) (c : Nat) : (kidP a n p c).length ≤ 1 := by unfold kidP; split <;> simp
theorem kids_part (a : Aut) (n : Int) (p : Pf) : ∀ c, ((List.range c).flatMap (kidP a n p)).length ≤ c
  | 0 => by simp
  | c + 1 => by
    rw [range_snoc, List.length_append]
    have := kids_part a n p c
    have := kidP_len a n p c
    omega
theorem lvP_in {a : Aut} (h : AOk a) (n k : Nat) : ∀ p ∈ lvP a n k, InS a p.2 ∧ p.2.length ≤ 2000 := fun p hp => by
  rw [lv_same h.mi h.st] at hp
  obtain ⟨q, hq, rfl⟩ := List.mem_map.1 hp
  have h1 := lvR_in h.mi h.st n k q hq
  refine ⟨near_in h1 _ _, ?_⟩
  have h2 : Srt q.2 := by
    cases k with
    | zero =>
      simp only [lvR, List.mem_singleton] at hq
      subst hq
      exact closL_srt h.mi h.st
    | succ k =>
      rw [lvR] at hq
      obtain ⟨r, _, hr⟩ := List.mem_flatMap.1 hq
      obtain ⟨c, _, hc⟩ := List.mem_flatMap.1 hr
      unfold kidR at hc
      split at hc
      · simp only [List.mem_singleton] at hc
        subst hc
        exact closL_srt h.mi (leads_in h.mi c _)
      · simp at hc
  have h3 : Srt (nearL q.2 (farL a) ((n : Int) - k)) := near_srt (a := a) h2 _ _
  have h4 := nodup_len a.n.toNat _ (h3.imp fun h => by omega) fun s hs => by
    have := near_in h1 (farL a) ((n : Int) - k) s hs
    have := h.n0
    omega
  have := h.n1
  show (nearL q.2 (farL a) ((n : Int) - k)).length ≤ 2000
  omega
theorem lvP_word {a : Aut} {n : Nat} : ∀ k, ∀ p ∈ lvP a n k, p.1.length = k
  | 0, p, hp => by
    simp only [lvP, List.mem_singleton] at hp
    subst hp; rfl
  | k + 1, p, hp => by
    rw [lvP] at hp
    obtain ⟨r, hr, hr2⟩ := List.mem_flatMap.1 hp
    obtain ⟨c, _, hc⟩ := List.mem_flatMap.1 hr2
    unfold kidP at hc
    split at hc
    · simp at hc
    · simp only [List.mem_singleton] at hc
      subst hc
      rw [List.length_append, lvP_word k r hr]; rfl
set_option maxHeartbeats 4000000 in
theorem aWords_e (a : Aut) (n : Int) : AF Tryz.prog 64 [pAut a, pInt n] (RWords a n) := by
  refine AF.of_body 109 Tryz.func64 rfl Tryz.ntmps64 (Nat.le_of_ble_eq_true rfl) ?_
  intro w0 M0 vs hl hv
  obtain ⟨v0, v1, rfl⟩ := len2 hl
  obtain rfl := hv 1 _ _ rfl rfl
  clear hl hv
  refine nav ?_
  (refine aC_region ?_
    <;> refine s_boxa 2 5 fun h2 => ?_
    <;> refine xL 4 q_assign ?_
    <;> refine xL 5 q_assign ?_
    <;> refine aL_end (nav ?_) <;> try dsimp only)
  (refine aC_region ?_
    <;> (refine yL 16 (q_ldao 2 tAgg66_LdS) fun v16 hv16 => ?_; cases hv16)
    <;> (refine cS 17 (cA Tryz.call79 (aValid_e a)) fun v17 hv17 => ?_; cases hv17)
    <;> refine xL 18 q_not ?_
    <;> refine xL 15 q_assign ?_
    <;> refine aL_end (nav ?_) <;> try dsimp only)
  first | refine cCd (fun hb15 => ?_) (fun hb15 => ?_) | refine cC (fun hb15 => ?_) (fun hb15 => ?_)
  · first
    | exact Bool.noConfusion hb15
    | (
     refine nav ?_
     (refine aC_region ?_
       <;> refine xL 4 q_assign ?_
       <;> refine xL 5 q_assign ?_
       <;> refine aL_end (nav ?_) <;> try dsimp only)
     refine aR_ent (nilSlD (t := 4) rfl) fun _ => ?_
     exact ret_ss (Tryz.results64) rfl rfl (.inl ⟨by simpa using hb15, rfl⟩))
  · first
    | exact Bool.noConfusion hb15
    | (
     have hok : autOk a = true := by simpa using hb15
     have hA := aok_of hok
     have hn1 := hA.n1
     have hs1 := hA.s1
     have hs0 := hA.s0
     refine nav ?_
     (refine aC_region ?_
       <;> refine xL 20 q_move ?_
       <;> refine xL 21 q_lss ?_
       <;> refine xL 22 q_move ?_
       <;> (refine bLd 22 (fun hb22 => ?_) (fun hb22 => ?_) <;> (first | refine kL 23 ?_ | refine xL 23 q_move ?_))
       <;> (first | refine kL 24 ?_ | refine xL 24 q_gtr ?_)
       <;> refine xL 25 q_pick ?_
       <;> refine xL 19 q_assign ?_
       <;> refine aL_end (nav ?_) <;> try dsimp only) <;> (
      first | refine cCd (fun hb19 => ?_) (fun hb19 => ?_) | refine cC (fun hb19 => ?_) (fun hb19 => ?_)
      · first
        | exact Bool.noConfusion hb19
        | (
         refine nav ?_
         (refine aC_region ?_
           <;> refine xL 4 q_assign ?_
           <;> refine xL 5 q_assign ?_
           <;> refine aL_end (nav ?_) <;> try dsimp only)
         refine aR_ent (nilSlD (t := 4) rfl) fun _ => ?_
         exact ret_ss (Tryz.results64) rfl rfl (.inr (.inl ⟨hok, by first | omega | (simp at hb19; omega), rfl⟩)))
      · first
        | exact Bool.noConfusion hb19
        | (
         have hnb : 0 ≤ n ∧ n ≤ 200 := by simp at hb19; omega
         obtain ⟨N, rfl⟩ : ∃ N : Nat, n = (N : Int) := ⟨n.toNat, by omega⟩
         have hfl := (farL_ok a).len
         have hsb : closL a a.start = closL a a.start := rfl
         have hcl := closL_len hA.mi hA.st
         have hci := closL_in hA.mi hA.st
         refine nav ?_
         (refine aC_draw (fun i => ([] : List Nat).elem i) [2] (by kernel_rfl) ?_
           <;> (refine yD 0 26 rfl (q_ldao 2 tAgg66_LdS) fun v26 hv26 => ?_; cases hv26)
           <;> (refine yD 2 28 rfl (q_ldao 2 tAgg66_LdS) fun v28 hv28 => ?_; cases hv28)
           <;> (refine aD_one 1 (by kernel_rfl) ?_)
           <;> (refine aW_run rfl fun w9 M9 N9 DQ back => ?_)
           <;> (refine cS 27 (cA Tryz.call82 (aGraphOf_e a hA)) fun v27 hv27 => ?_; cases hv27)
           <;> refine aL_end (back _ (nrm ?_))
           <;> (refine aD_one 3 (by kernel_rfl) ?_)
           <;> (refine aW_run rfl fun w9 M9 N9 DQ back => ?_)
           <;> (refine cO 29 (cA Tryz.call103 (aDistances_e a hA)) fun v29 ho29 => ?_; refine aL_ent (En.freeze (l := 29) (t := 29) rfl rfl) fun _ => ?_; rw [share_ints _ _ _ hfl.symm])
           <;> refine aL_end (back _ (nrm ?_))
           <;> refine xE 4 6 rfl q_assign ?_
           <;> refine xE 5 7 rfl q_assign ?_
           <;> refine aD_end (by kernel_rfl) (nav ?_)
           <;> try dsimp only)
         (refine aC_region ?_
           <;> refine xL 8 q_assign ?_
           <;> refine aL_end (nav ?_) <;> try dsimp only)
         (refine aC_region ?_
           <;> refine xL 30 q_move ?_
           <;> refine xL 31 (q_fldo 2 tFl66_2_LdS) ?_
           <;> (refine yL 32 (q_ldo 2 tNa63_LdS) fun v32 hv32 => ?_; cases hv32)
           <;> (refine cO 33 (cA Tryz.call83 (aClosure_e a a.start hn1 hA.mi hA.st)) fun v33 ho33 => ?_; refine aL_ent (En.freeze (l := 33) (t := 33) rfl rfl) fun _ => ?_; rw [share_ints _ _ _ rfl])
           <;> refine xL 34 q_move ?_
           <;> refine xL 35 q_move ?_
           <;> (refine cO 36 (cA Tryz.call104 (aNear_e (closL a a.start) (farL a) N (by omega) (fun s hs => by have := hci s hs; omega))) fun v36 ho36 => ?_; refine aL_ent (En.freeze (l := 36) (t := 36) rfl rfl) fun _ => ?_; rw [share_ints _ _ _ rfl])
           <;> refine xL 37 (q_build tSt147_LdS) ?_
           <;> refine s_lit1a 38 tEl148_LdS fun h38 ho38 => ?_
           <;> refine xL 9 q_assign ?_
           <;> refine aL_end (nav ?_) <;> try dsimp only)
         refine aC_ent (nilCells (l := 38) [.own 3 1 0 [], pInts (nearL (closL a a.start) (farL a) N)] rfl rfl (fun i p p' h1 h2 => by
           match i with
           | 0 => cases h1; cases h2; exact .inr ⟨rfl, _, _, rfl⟩
           | 1 => cases h1; cases h2; exact .inl rfl
           | i + 2 => simp at h2)) fun _ => ?_
         refine aC_ent (focus (l := 38) (l' := 300) (j := 0) rfl rfl rfl) fun v300 => ?_
         refine aC_ent (freezeCell (l := 38) (l' := 300) (j := 0) rfl rfl rfl rfl) fun _ => ?_
         dsimp only [List.set]
         refine aC_ent (nilOwn 200 63 1 rfl) fun _ => ?_
         refine aC_ent (relabel (l := 38) 201 rfl rfl) fun _ => ?_
         have hL0 : [share (PV.own 3 1 0 []), pInts (nearL (closL a a.start) (farL a) N)] = (lvP a N 0).flatMap cPf := rfl
         rw [hL0]
         refine aC_loop (ι := { q : Nat × Value × Value // q.1 ≤ N + 1 ∧ (∀ j, j ≤ q.1 → (lvP a N j).length ≤ 2000) ∧ (sumP a N q.1).length ≤ q.1 * 2000 ∧ q.2.1.oneCell' = true ∧ q.2.2.oneCell' = true }) (fun k => ⟨[(2, _, _), (6, _, _), (7, _, _), (1, .int .i64 ((N : Int) - (k.1.1 : Nat)), pInt ((N : Int) - (k.1.1 : Nat))), (8, k.1.2.1, .val k.1.2.1), (9, k.1.2.2, .val k.1.2.2)], [(2, _, _), (200, k.1.2.1, .own 63 1 (sumP a N k.1.1).length ((sumP a N k.1.1).map pInts)), (201, k.1.2.2, .own 147 2 (lvP a N k.1.1).length ((lvP a N k.1.1).flatMap cPf))]⟩) (fun k => N + 1 - k.1.1) ⟨(0, .slice none 0 0, h38), Nat.zero_le _, fun j hj => by have h9 : j = 0 := (by dsimp only at hj; omega); subst h9; simp [lvP], by simp [sumP], rfl, ho38⟩ (fun a w H => H.weaken ⟨rfl, rfl, rfl, rfl, rfl, rfl, trivial⟩ ⟨rfl, rfl, rfl, trivial⟩) ?_
         rintro ⟨⟨lev, hO, hL⟩, hk, hlv, hsm, hoO, hoL⟩
         dsimp only
         dsimp only at hk hlv hsm hoO hoL
         refine nav ?_
         (refine aC_region ?_
           <;> refine xL 39 q_move ?_
           <;> refine xL 40 q_geq ?_
           <;> refine aL_end (nav ?_) <;> try dsimp only)
         first | refine cCd (fun hb40 => ?_) (fun hb40 => ?_) | refine cC (fun hb40 => ?_) (fun hb40 => ?_)
         · first
           | exact Bool.noConfusion hb40
           | (
            have hkN : lev ≤ N := by omega
            have hlk := hlv lev (Nat.le_refl _)
            have hsm2 : (sumP a N lev).length ≤ 402000 := by omega
            have hlin := lvP_in hA N lev
            have hlw := lvP_word (a := a) (n := N) lev
            refine nav ?_
            (refine aC_region ?_
              <;> refine xL 10 q_assign ?_
              <;> refine aL_end (nav ?_) <;> try dsimp only)
            (refine aC_region ?_
              <;> refine xL 43 q_move ?_
              <;> refine xL 44 (q_leno 201 tSl148_LdS) ?_
              <;> refine xL 45 q_move ?_
              <;> refine aL_end (nav ?_) <;> try dsimp only)
            refine aC_ent (nilOwn 202 147 2 rfl) fun _ => ?_
            refine aC_loop (ι := { q : Nat × Value × Value × List (List Int) × List Pf // q.1 ≤ (lvP a N lev).length ∧ q.2.2.2.2.length ≤ 2000 ∧ q.2.1.oneCell' = true ∧ q.2.2.1.oneCell' = true ∧ q.2.2.2.1 = sumP a N lev ++ outP a ((lvP a N lev).take q.1) ∧ q.2.2.2.2 = ((lvP a N lev).take q.1).flatMap (kidsP a ((N : Int) - lev)) }) (fun k => ⟨[(1, _, _), (2, _, _), (6, _, _), (7, _, _), (9, _, _), (43, _, _), (44, _, _), (8, k.1.2.1, .val k.1.2.1), (10, k.1.2.2.1, .val k.1.2.2.1), (45, .int .i64 k.1.1, pInt k.1.1)], [(2, _, _), (201, _, _), (200, k.1.2.1, .own 63 1 k.1.2.2.2.1.length (k.1.2.2.2.1.map pInts)), (202, k.1.2.2.1, .own 147 2 k.1.2.2.2.2.length (k.1.2.2.2.2.flatMap cPf))]⟩) (fun k => (lvP a N lev).length - k.1.1) ⟨(0, hO, .slice none 0 0, sumP a N lev, []), Nat.zero_le _, Nat.zero_le _, hoO, rfl, (List.append_nil _).symm, rfl⟩ (fun a w H => H.weaken ⟨rfl, rfl, rfl, rfl, rfl, rfl, rfl, rfl, rfl, rfl, trivial⟩ ⟨rfl, rfl, rfl, rfl, trivial⟩) ?_
            rintro ⟨⟨i, hO2, hX, O, X⟩, hi, hkl, hoO2, hoX, hOE, hXE⟩
            dsimp only
            dsimp only at hi hkl hoO2 hoX hOE hXE
            have hol := outP_len a ((lvP a N lev).take i)
            rw [List.length_take] at hol
            have hoL2 : O.length ≤ 404000 := by rw [hOE, List.length_append]; omega
            refine nav ?_
            (refine aC_region ?_
              <;> refine xL 46 q_lss ?_
              <;> refine aL_end (nav ?_) <;> try dsimp only)
            first | refine cCd (fun hb46 => ?_) (fun hb46 => ?_) | refine cC (fun hb46 => ?_) (fun hb46 => ?_)
            · first
              | exact Bool.noConfusion hb46
              | (
               obtain ⟨x, hx⟩ := get_some (show i < (lvP a N lev).length by omega)
               have e1 := flat_drop cPf_len (lvP a N lev) i x hx
               have e2 := flat_fit cPf_len hx
               have hxi := hlin x (List.mem_of_getElem? hx)
               have hxw := hlw x (List.mem_of_getElem? hx)
               have hO3 := outP_take (a := a) hx
               have hK3 := flat_take_snoc (kidsP a ((N : Int) - lev)) hx
               refine nav ?_
               (refine aC_region ?_
                 <;> refine xL 47 (q_idxoN 201 tSl148_LdS) ?_
                 <;> (refine yL 48 (q_ldao 201 tAgg147_LdS) fun v48 hv48 => ?_; cases hv48)
                 <;> refine s_alloc [(.slice none 0 0), (.slice none 0 0)] 2 12 tZr147_LdS fun h12 => ?_
                 <;> refine s_sta 12 tAgg147_LdS ?_
                 <;> refine aL_end (nav ?_) <;> try dsimp only)
               (refine aC_region ?_
                 <;> refine xL 49 q_move ?_
                 <;> refine xL 50 (q_fldo 12 tFl147_1_LdS) ?_
                 <;> (refine yL 51 (q_ldo 12 tNa63_LdS) fun v51 hv51 => ?_; cases hv51)
                 <;> (refine cS 52 (cA Tryz.call85 (aAccepts_e a x.2 hxi.1)) fun v52 hv52 => ?_; cases hv52)
                 <;> refine aL_end (nav ?_) <;> try dsimp only)
               first | refine cCd (fun hb52 => ?_) (fun hb52 => ?_) | refine cC (fun hb52 => ?_) (fun hb52 => ?_)
               · first
                 | exact Bool.noConfusion hb52
                 | (
                  rw [if_pos (show accB a x.2 = true from hb52)] at hO3
                  have hOF : O ++ [x.1] = sumP a N lev ++ outP a ((lvP a N lev).take (i + 1)) := by rw [hO3, hOE, List.append_assoc]
                  have hOl2 : (O ++ [x.1]).length = O.length + 1 := by rw [List.length_append]; rfl
                  refine nav ?_
                  (refine aC_region ?_
                    <;> refine xL 53 q_move ?_
                    <;> refine xL 54 (q_fldo 12 tFl147_0_LdS) ?_
                    <;> (refine yL 55 (q_ldo 12 tNa63_LdS) fun v55 hv55 => ?_; cases hv55)
                    <;> refine s_lit1 (kk := 1) 56 tEl111_LdS fun h56 ho56 => ?_
                    <;> (refine s_app 200 56 57 tEl111_LdS fun h57 ho57 => ?_; refine aL_ent (relabel (l := 57) 200 rfl rfl) fun _ => ?_; rw [snoc_w])
                    <;> refine xL 8 q_assign ?_
                    <;> refine aL_end (nav ?_) <;> try dsimp only)
                  (refine aC_region ?_
                    <;> refine xL 58 (q_fldo 2 tFl66_1_LdS) ?_
                    <;> (refine yL 59 (q_ldo 2 tNa3_LdS) fun v59 hv59 => ?_; cases hv59)
                    <;> refine xL 60 q_move ?_
                    <;> refine aL_end (nav ?_) <;> try dsimp only)
                  refine aC_loop (ι := { q : Nat × Value × List Pf // q.1 ≤ a.syms.toNat ∧ q.2.1.oneCell' = true ∧ q.2.2 = X ++ (List.range q.1).flatMap (kidP a ((N : Int) - lev) x) }) (fun k => ⟨[(1, _, _), (2, _, _), (6, _, _), (7, _, _), (8, _, _), (9, _, _), (12, _, _), (43, _, _), (44, _, _), (45, _, _), (59, _, _), (10, k.1.2.1, .val k.1.2.1), (60, .int .i64 k.1.1, pInt k.1.1)], [(2, _, _), (12, _, _), (200, _, _), (201, _, _), (202, k.1.2.1, .own 147 2 k.1.2.2.length (k.1.2.2.flatMap cPf))]⟩) (fun k => a.syms.toNat - k.1.1) ⟨(0, hX, X), Nat.zero_le _, hoX, (List.append_nil _).symm⟩ (fun a w H => H.weaken ⟨rfl, rfl, rfl, rfl, rfl, rfl, rfl, rfl, rfl, rfl, rfl, rfl, rfl, trivial⟩ ⟨rfl, rfl, rfl, rfl, rfl, trivial⟩) ?_
                  rintro ⟨⟨c, hX2, X2⟩, hc, hoX2, hX2E⟩
                  dsimp only
                  dsimp only at hc hoX2 hX2E
                  have hkc := kids_part a ((N : Int) - lev) x c
                  have hkl2 : X2.length ≤ 2100 := by rw [hX2E, List.length_append]; omega
                  refine nav ?_
                  (refine aC_region ?_
                    <;> refine xL 61 q_lss ?_
                    <;> refine aL_end (nav ?_) <;> try dsimp only)
                  first | refine cCd (fun hb61 => ?_) (fun hb61 => ?_) | refine cC (fun hb61 => ?_) (fun hb61 => ?_)
                  · first
                    | exact Bool.noConfusion hb61
                    | (
                     have hni := next_in hA.mi (c : Int) x.2
                     have hnl : (nextL a c x.2).length ≤ 2000 := by have := closL_len hA.mi (leads_in hA.mi (c : Int) x.2); unfold nextL; omega
                     have hR := range_snoc (kidP a ((N : Int) - lev) x) c
                     refine nav ?_
                     (refine aC_region ?_
                       <;> refine xL 62 q_move ?_
                       <;> refine xL 13 q_assign ?_
                       <;> refine aL_end (nav ?_) <;> try dsimp only)
                     (refine aC_region ?_
                       <;> refine xL 63 q_move ?_
                       <;> refine xL 64 (q_fldo 12 tFl147_1_LdS) ?_
                       <;> (refine yL 65 (q_ldo 12 tNa63_LdS) fun v65 hv65 => ?_; cases hv65)
                       <;> refine xL 66 q_move ?_
                       <;> (refine cO 67 (cA Tryz.call84 (aNext_e a x.2 c hn1 hA.ml hA.mi hxi.1 hxi.2)) fun v67 ho67 => ?_; refine aL_ent (En.freeze (l := 67) (t := 67) rfl rfl) fun _ => ?_; rw [share_ints _ _ _ rfl])
                       <;> refine xL 68 q_move ?_
                       <;> refine xL 69 q_move ?_
                       <;> refine xL 70 q_sub ?_
                       <;> (refine cO 71 (cA Tryz.call104 (aNear_e (nextL a c x.2) (farL a) ((N : Int) - lev - 1) (by omega) (fun s hs => by have := hni s hs; omega))) fun v71 ho71 => ?_; refine aL_ent (En.freeze (l := 71) (t := 71) rfl rfl) fun _ => ?_; rw [share_ints _ _ _ rfl])
                       <;> refine xL 14 q_assign ?_
                       <;> refine aL_end (nav ?_) <;> try dsimp only)
                     (refine aC_region ?_
                       <;> refine xL 72 q_move ?_
                       <;> refine xL 73 (q_len tSl63_LdS) ?_
                       <;> refine xL 74 q_gtr ?_
                       <;> refine aL_end (nav ?_) <;> try dsimp only)
                     first | refine cCd (fun hb74 => ?_) (fun hb74 => ?_) | refine cC (fun hb74 => ?_) (fun hb74 => ?_)
                     · first
                       | exact Bool.noConfusion hb74
                       | (
                        have hkid : kidP a ((N : Int) - lev) x c = [(x.1 ++ [(c : Int)], nearL (nextL a c x.2) (farL a) ((N : Int) - lev - 1))] := by unfold kidP; rw [if_neg (by omega)]
                        rw [hkid] at hR
                        refine nav ?_
                        (refine aC_region ?_
                          <;> refine xL 75 q_move ?_
                          <;> refine xL 76 (q_fldo 12 tFl147_0_LdS) ?_
                          <;> (refine yL 77 (q_ldo 12 tNa63_LdS) fun v77 hv77 => ?_; cases hv77)
                          <;> refine cO 78 (cA Tryz.call105 (cloneIntW_e x.1 (by omega))) fun v78 ho78 => ?_
                          <;> refine xL 79 q_move ?_
                          <;> refine s_lit1 (kk := 1) 80 tEl63_LdS fun h80 ho80 => ?_
                          <;> (refine s_app 78 80 81 tEl63_LdS fun h81 ho81 => ?_; refine aL_ent (En.freeze (l := 81) (t := 81) rfl rfl) fun _ => ?_; rw [show PV.own 3 1 (x.1.length + 1) (x.1.map pInt ++ [pInt c]) = .own 3 1 (x.1 ++ [(c : Int)]).length ((x.1 ++ [(c : Int)]).map pInt) from own_snoc _ _ _, share_ints _ _ _ rfl])
                          <;> refine xL 82 q_move ?_
                          <;> refine xL 83 (q_build tSt147_LdS) ?_
                          <;> refine s_lit1a 84 tEl148_LdS fun h84 ho84 => ?_
                          <;> (refine s_app 202 84 85 tEl148_LdS fun h85 ho85 => ?_; refine aL_ent (relabel (l := 85) 202 rfl rfl) fun _ => ?_; refine aL_ent (recast (l := 202) rfl (snoc_pf _ X2 (x.1 ++ [(c : Int)], nearL (nextL a c x.2) (farL a) ((N : Int) - lev - 1)))) fun _ => ?_)
                          <;> refine xL 10 q_assign ?_
                          <;> refine aL_end (nav ?_) <;> try dsimp only)
                        (refine aC_region ?_
                          <;> refine xL 86 q_add ?_
                          <;> refine xL 60 q_move ?_
                          <;> refine aL_end (nav ?_) <;> try dsimp only)
                        first
                          | (exact aN_again (
                              ⟨(c + 1, h85, X2 ++ [(x.1 ++ [(c : Int)], nearL (nextL a c x.2) (farL a) ((N : Int) - lev - 1))]), by dsimp only; omega, ho85, by dsimp only; rw [hX2E, hR, List.append_assoc]⟩
                              ) (by dsimp only; omega) ⟨rfl, rfl, rfl, rfl, rfl, rfl, rfl, rfl, rfl, rfl, rfl, rfl, rfl, trivial⟩ ⟨rfl, rfl, rfl, rfl, rfl, trivial⟩)
                          | (exact aN_again (
                              ⟨(c + 1, hX2, X2), by dsimp only; omega, hoX2, by dsimp only; rw [hX2E, hR]⟩
                              ) (by dsimp only; omega) ⟨rfl, rfl, rfl, rfl, rfl, rfl, rfl, rfl, rfl, rfl, rfl, rfl, rfl, trivial⟩ ⟨rfl, rfl, rfl, rfl, rfl, trivial⟩))
                     · first
                       | exact Bool.noConfusion hb74
                       | (
                        have hkid : kidP a ((N : Int) - lev) x c = [] := by unfold kidP; rw [if_pos (by omega)]
                        rw [hkid, List.append_nil] at hR
                        refine nav ?_
                        (refine aC_region ?_
                          <;> refine xL 86 q_add ?_
                          <;> refine xL 60 q_move ?_
                          <;> refine aL_end (nav ?_) <;> try dsimp only)
                        first
                          | (exact aN_again (
                              ⟨(c + 1, h85, X2 ++ [(x.1 ++ [(c : Int)], nearL (nextL a c x.2) (farL a) ((N : Int) - lev - 1))]), by dsimp only; omega, ho85, by dsimp only; rw [hX2E, hR, List.append_assoc]⟩
                              ) (by dsimp only; omega) ⟨rfl, rfl, rfl, rfl, rfl, rfl, rfl, rfl, rfl, rfl, rfl, rfl, rfl, trivial⟩ ⟨rfl, rfl, rfl, rfl, rfl, trivial⟩)
                          | (exact aN_again (
                              ⟨(c + 1, hX2, X2), by dsimp only; omega, hoX2, by dsimp only; rw [hX2E, hR]⟩
                              ) (by dsimp only; omega) ⟨rfl, rfl, rfl, rfl, rfl, rfl, rfl, rfl, rfl, rfl, rfl, rfl, rfl, trivial⟩ ⟨rfl, rfl, rfl, rfl, rfl, trivial⟩)))
                  · first
                    | exact Bool.noConfusion hb61
                    | (
                     have hcs : c = a.syms.toNat := by omega
                     subst hcs
                     have hXF : X2 = ((lvP a N lev).take (i + 1)).flatMap (kidsP a ((N : Int) - lev)) := by rw [hX2E, hK3, hXE]; rfl
                     refine nav ?_
                     (refine aC_region ?_
                       <;> refine xL 87 q_move ?_
                       <;> refine xL 88 (q_leno 200 tSl111_LdS) ?_
                       <;> refine xL 89 q_move ?_
                       <;> refine xL 90 (q_leno 202 tSl148_LdS) ?_
                       <;> refine xL 91 q_add ?_
                       <;> refine xL 92 q_gtr ?_
                       <;> refine xL 93 q_move ?_
                       <;> (refine bLd 93 (fun hb93 => ?_) (fun hb93 => ?_) <;> (first | refine kL 94 ?_ | refine xL 94 q_move ?_))
                       <;> (first | refine kL 95 ?_ | refine xL 95 (q_leno 200 tSl111_LdS) ?_)
                       <;> (first | refine kL 96 ?_ | refine xL 96 q_gtr ?_)
                       <;> refine xL 97 q_pick ?_
                       <;> refine xL 98 q_move ?_
                       <;> (first | refine xL 99 q_move ?_ | (refine bLd 98 (fun hb98 => ?_) (fun hb98 => ?_) <;> (first | refine kL 99 ?_ | refine xL 99 q_move ?_)))
                       <;> (first | refine kL 100 ?_ | refine xL 100 (q_leno 202 tSl148_LdS) ?_)
                       <;> (first | refine kL 101 ?_ | refine xL 101 q_gtr ?_)
                       <;> refine xL 102 q_pick ?_
                       <;> refine aL_end (nav ?_) <;> try dsimp only) <;> (
                      first | refine cCd (fun hb102 => ?_) (fun hb102 => ?_) | refine cC (fun hb102 => ?_) (fun hb102 => ?_)
                      · first
                        | exact Bool.noConfusion hb102
                        | (
                         refine nav ?_
                         (refine aC_region ?_
                           <;> refine xL 4 q_assign ?_
                           <;> refine xL 5 q_assign ?_
                           <;> refine aL_end (nav ?_) <;> try dsimp only)
                         refine aR_ent (nilSlD (t := 4) rfl) fun _ => ?_
                         refine ret_ss (Tryz.results64) rfl rfl (.inr (.inr (.inl ⟨hok, by omega, by omega, ?_, rfl⟩)))
                         rw [Int.toNat_natCast]
                         have hfl2 := flat_take_len (kidsP a ((N : Int) - lev)) (lvP a N lev) (i + 1)
                         have hsm5 := sumP_mono a N (show lev + 1 ≤ N + 1 by omega)
                         rw [sumP_snoc, List.length_append] at hsm5
                         have hop5 := outP_pre a (lvP a N lev) (i + 1)
                         have hOl := congrArg List.length hOF
                         have hXl := congrArg List.length hXF
                         simp only [List.length_append, List.length_cons, List.length_nil] at hOl
                         by_cases hbig : 2000 < X2.length
                         · exact .inl ⟨lev, by omega, by rw [lvP]; omega⟩
                         · refine .inr ?_
                           first
                             | omega
                             | (simp at hb102 hOl; omega))
                      · first
                        | exact Bool.noConfusion hb102
                        | (
                         refine nav ?_
                         (refine aC_region ?_
                           <;> refine xL 103 q_add ?_
                           <;> refine xL 45 q_move ?_
                           <;> refine aL_end (nav ?_) <;> try dsimp only)
                         first
                           | (exact aN_again (
                               ⟨(i + 1, _, _, O ++ [x.1], X2), lt_of_get hx, (by dsimp only; first | omega | (simp at hb102; omega)), (by assumption), hoX2, hOF, hXF⟩
                               ) (by dsimp only; omega) ⟨rfl, rfl, rfl, rfl, rfl, rfl, rfl, rfl, rfl, rfl, trivial⟩ ⟨rfl, rfl, rfl, rfl, trivial⟩)
                           | (exact aN_again (
                               ⟨(i + 1, hO2, hX2, O, X2), lt_of_get hx, (by dsimp only; first | omega | (simp at hb102; omega)), (by assumption), hoX2, hOF, hXF⟩
                               ) (by dsimp only; omega) ⟨rfl, rfl, rfl, rfl, rfl, rfl, rfl, rfl, rfl, rfl, trivial⟩ ⟨rfl, rfl, rfl, rfl, trivial⟩)))))
               · first
                 | exact Bool.noConfusion hb52
                 | (
                  rw [if_neg (show ¬ accB a x.2 = true by simpa [accB] using hb52), List.append_nil] at hO3
                  have hOF : O = sumP a N lev ++ outP a ((lvP a N lev).take (i + 1)) := by rw [hO3, hOE]
                  refine nav ?_
                  (refine aC_region ?_
                    <;> refine xL 58 (q_fldo 2 tFl66_1_LdS) ?_
                    <;> (refine yL 59 (q_ldo 2 tNa3_LdS) fun v59 hv59 => ?_; cases hv59)
                    <;> refine xL 60 q_move ?_
                    <;> refine aL_end (nav ?_) <;> try dsimp only)
                  refine aC_loop (ι := { q : Nat × Value × List Pf // q.1 ≤ a.syms.toNat ∧ q.2.1.oneCell' = true ∧ q.2.2 = X ++ (List.range q.1).flatMap (kidP a ((N : Int) - lev) x) }) (fun k => ⟨[(1, _, _), (2, _, _), (6, _, _), (7, _, _), (8, _, _), (9, _, _), (12, _, _), (43, _, _), (44, _, _), (45, _, _), (59, _, _), (10, k.1.2.1, .val k.1.2.1), (60, .int .i64 k.1.1, pInt k.1.1)], [(2, _, _), (12, _, _), (200, _, _), (201, _, _), (202, k.1.2.1, .own 147 2 k.1.2.2.length (k.1.2.2.flatMap cPf))]⟩) (fun k => a.syms.toNat - k.1.1) ⟨(0, hX, X), Nat.zero_le _, hoX, (List.append_nil _).symm⟩ (fun a w H => H.weaken ⟨rfl, rfl, rfl, rfl, rfl, rfl, rfl, rfl, rfl, rfl, rfl, rfl, rfl, trivial⟩ ⟨rfl, rfl, rfl, rfl, rfl, trivial⟩) ?_
                  rintro ⟨⟨c, hX2, X2⟩, hc, hoX2, hX2E⟩
                  dsimp only
                  dsimp only at hc hoX2 hX2E
                  have hkc := kids_part a ((N : Int) - lev) x c
                  have hkl2 : X2.length ≤ 2100 := by rw [hX2E, List.length_append]; omega
                  refine nav ?_
                  (refine aC_region ?_
                    <;> refine xL 61 q_lss ?_
                    <;> refine aL_end (nav ?_) <;> try dsimp only)
                  first | refine cCd (fun hb61 => ?_) (fun hb61 => ?_) | refine cC (fun hb61 => ?_) (fun hb61 => ?_)
                  · first
                    | exact Bool.noConfusion hb61
                    | (
                     have hni := next_in hA.mi (c : Int) x.2
                     have hnl : (nextL a c x.2).length ≤ 2000 := by have := closL_len hA.mi (leads_in hA.mi (c : Int) x.2); unfold nextL; omega
                     have hR := range_snoc (kidP a ((N : Int) - lev) x) c
                     refine nav ?_
                     (refine aC_region ?_
                       <;> refine xL 62 q_move ?_
                       <;> refine xL 13 q_assign ?_
                       <;> refine aL_end (nav ?_) <;> try dsimp only)
                     (refine aC_region ?_
                       <;> refine xL 63 q_move ?_
                       <;> refine xL 64 (q_fldo 12 tFl147_1_LdS) ?_
                       <;> (refine yL 65 (q_ldo 12 tNa63_LdS) fun v65 hv65 => ?_; cases hv65)
                       <;> refine xL 66 q_move ?_
                       <;> (refine cO 67 (cA Tryz.call84 (aNext_e a x.2 c hn1 hA.ml hA.mi hxi.1 hxi.2)) fun v67 ho67 => ?_; refine aL_ent (En.freeze (l := 67) (t := 67) rfl rfl) fun _ => ?_; rw [share_ints _ _ _ rfl])
                       <;> refine xL 68 q_move ?_
                       <;> refine xL 69 q_move ?_
                       <;> refine xL 70 q_sub ?_
                       <;> (refine cO 71 (cA Tryz.call104 (aNear_e (nextL a c x.2) (farL a) ((N : Int) - lev - 1) (by omega) (fun s hs => by have := hni s hs; omega))) fun v71 ho71 => ?_; refine aL_ent (En.freeze (l := 71) (t := 71) rfl rfl) fun _ => ?_; rw [share_ints _ _ _ rfl])
                       <;> refine xL 14 q_assign ?_
                       <;> refine aL_end (nav ?_) <;> try dsimp only)
                     (refine aC_region ?_
                       <;> refine xL 72 q_move ?_
                       <;> refine xL 73 (q_len tSl63_LdS) ?_
                       <;> refine xL 74 q_gtr ?_
                       <;> refine aL_end (nav ?_) <;> try dsimp only)
                     first | refine cCd (fun hb74 => ?_) (fun hb74 => ?_) | refine cC (fun hb74 => ?_) (fun hb74 => ?_)
                     · first
                       | exact Bool.noConfusion hb74
                       | (
                        have hkid : kidP a ((N : Int) - lev) x c = [(x.1 ++ [(c : Int)], nearL (nextL a c x.2) (farL a) ((N : Int) - lev - 1))] := by unfold kidP; rw [if_neg (by omega)]
                        rw [hkid] at hR
                        refine nav ?_
                        (refine aC_region ?_
                          <;> refine xL 75 q_move ?_
                          <;> refine xL 76 (q_fldo 12 tFl147_0_LdS) ?_
                          <;> (refine yL 77 (q_ldo 12 tNa63_LdS) fun v77 hv77 => ?_; cases hv77)
                          <;> refine cO 78 (cA Tryz.call105 (cloneIntW_e x.1 (by omega))) fun v78 ho78 => ?_
                          <;> refine xL 79 q_move ?_
                          <;> refine s_lit1 (kk := 1) 80 tEl63_LdS fun h80 ho80 => ?_
                          <;> (refine s_app 78 80 81 tEl63_LdS fun h81 ho81 => ?_; refine aL_ent (En.freeze (l := 81) (t := 81) rfl rfl) fun _ => ?_; rw [show PV.own 3 1 (x.1.length + 1) (x.1.map pInt ++ [pInt c]) = .own 3 1 (x.1 ++ [(c : Int)]).length ((x.1 ++ [(c : Int)]).map pInt) from own_snoc _ _ _, share_ints _ _ _ rfl])
                          <;> refine xL 82 q_move ?_
                          <;> refine xL 83 (q_build tSt147_LdS) ?_
                          <;> refine s_lit1a 84 tEl148_LdS fun h84 ho84 => ?_
                          <;> (refine s_app 202 84 85 tEl148_LdS fun h85 ho85 => ?_; refine aL_ent (relabel (l := 85) 202 rfl rfl) fun _ => ?_; refine aL_ent (recast (l := 202) rfl (snoc_pf _ X2 (x.1 ++ [(c : Int)], nearL (nextL a c x.2) (farL a) ((N : Int) - lev - 1)))) fun _ => ?_)
                          <;> refine xL 10 q_assign ?_
                          <;> refine aL_end (nav ?_) <;> try dsimp only)
                        (refine aC_region ?_
                          <;> refine xL 86 q_add ?_
                          <;> refine xL 60 q_move ?_
                          <;> refine aL_end (nav ?_) <;> try dsimp only)
                        first
                          | (exact aN_again (
                              ⟨(c + 1, h85, X2 ++ [(x.1 ++ [(c : Int)], nearL (nextL a c x.2) (farL a) ((N : Int) - lev - 1))]), by dsimp only; omega, ho85, by dsimp only; rw [hX2E, hR, List.append_assoc]⟩
                              ) (by dsimp only; omega) ⟨rfl, rfl, rfl, rfl, rfl, rfl, rfl, rfl, rfl, rfl, rfl, rfl, rfl, trivial⟩ ⟨rfl, rfl, rfl, rfl, rfl, trivial⟩)
                          | (exact aN_again (
                              ⟨(c + 1, hX2, X2), by dsimp only; omega, hoX2, by dsimp only; rw [hX2E, hR]⟩
                              ) (by dsimp only; omega) ⟨rfl, rfl, rfl, rfl, rfl, rfl, rfl, rfl, rfl, rfl, rfl, rfl, rfl, trivial⟩ ⟨rfl, rfl, rfl, rfl, rfl, trivial⟩))
                     · first
                       | exact Bool.noConfusion hb74
                       | (
                        have hkid : kidP a ((N : Int) - lev) x c = [] := by unfold kidP; rw [if_pos (by omega)]
                        rw [hkid, List.append_nil] at hR
                        refine nav ?_
                        (refine aC_region ?_
                          <;> refine xL 86 q_add ?_
                          <;> refine xL 60 q_move ?_
                          <;> refine aL_end (nav ?_) <;> try dsimp only)
                        first
                          | (exact aN_again (
                              ⟨(c + 1, h85, X2 ++ [(x.1 ++ [(c : Int)], nearL (nextL a c x.2) (farL a) ((N : Int) - lev - 1))]), by dsimp only; omega, ho85, by dsimp only; rw [hX2E, hR, List.append_assoc]⟩
                              ) (by dsimp only; omega) ⟨rfl, rfl, rfl, rfl, rfl, rfl, rfl, rfl, rfl, rfl, rfl, rfl, rfl, trivial⟩ ⟨rfl, rfl, rfl, rfl, rfl, trivial⟩)
                          | (exact aN_again (
                              ⟨(c + 1, hX2, X2), by dsimp only; omega, hoX2, by dsimp only; rw [hX2E, hR]⟩
                              ) (by dsimp only; omega) ⟨rfl, rfl, rfl, rfl, rfl, rfl, rfl, rfl, rfl, rfl, rfl, rfl, rfl, trivial⟩ ⟨rfl, rfl, rfl, rfl, rfl, trivial⟩)))
                  · first
                    | exact Bool.noConfusion hb61
                    | (
                     have hcs : c = a.syms.toNat := by omega
                     subst hcs
                     have hXF : X2 = ((lvP a N lev).take (i + 1)).flatMap (kidsP a ((N : Int) - lev)) := by rw [hX2E, hK3, hXE]; rfl
                     refine nav ?_
                     (refine aC_region ?_
                       <;> refine xL 87 q_move ?_
                       <;> refine xL 88 (q_leno 200 tSl111_LdS) ?_
                       <;> refine xL 89 q_move ?_
                       <;> refine xL 90 (q_leno 202 tSl148_LdS) ?_
                       <;> refine xL 91 q_add ?_
                       <;> refine xL 92 q_gtr ?_
                       <;> refine xL 93 q_move ?_
                       <;> (refine bLd 93 (fun hb93 => ?_) (fun hb93 => ?_) <;> (first | refine kL 94 ?_ | refine xL 94 q_move ?_))
                       <;> (first | refine kL 95 ?_ | refine xL 95 (q_leno 200 tSl111_LdS) ?_)
                       <;> (first | refine kL 96 ?_ | refine xL 96 q_gtr ?_)
                       <;> refine xL 97 q_pick ?_
                       <;> refine xL 98 q_move ?_
                       <;> (first | refine xL 99 q_move ?_ | (refine bLd 98 (fun hb98 => ?_) (fun hb98 => ?_) <;> (first | refine kL 99 ?_ | refine xL 99 q_move ?_)))
                       <;> (first | refine kL 100 ?_ | refine xL 100 (q_leno 202 tSl148_LdS) ?_)
                       <;> (first | refine kL 101 ?_ | refine xL 101 q_gtr ?_)
                       <;> refine xL 102 q_pick ?_
                       <;> refine aL_end (nav ?_) <;> try dsimp only) <;> (
                      first | refine cCd (fun hb102 => ?_) (fun hb102 => ?_) | refine cC (fun hb102 => ?_) (fun hb102 => ?_)
                      · first
                        | exact Bool.noConfusion hb102
                        | (
                         refine nav ?_
                         (refine aC_region ?_
                           <;> refine xL 4 q_assign ?_
                           <;> refine xL 5 q_assign ?_
                           <;> refine aL_end (nav ?_) <;> try dsimp only)
                         refine aR_ent (nilSlD (t := 4) rfl) fun _ => ?_
                         refine ret_ss (Tryz.results64) rfl rfl (.inr (.inr (.inl ⟨hok, by omega, by omega, ?_, rfl⟩)))
                         rw [Int.toNat_natCast]
                         have hfl2 := flat_take_len (kidsP a ((N : Int) - lev)) (lvP a N lev) (i + 1)
                         have hsm5 := sumP_mono a N (show lev + 1 ≤ N + 1 by omega)
                         rw [sumP_snoc, List.length_append] at hsm5
                         have hop5 := outP_pre a (lvP a N lev) (i + 1)
                         have hOl := congrArg List.length hOF
                         have hXl := congrArg List.length hXF
                         simp only [List.length_append, List.length_cons, List.length_nil] at hOl
                         by_cases hbig : 2000 < X2.length
                         · exact .inl ⟨lev, by omega, by rw [lvP]; omega⟩
                         · refine .inr ?_
                           first
                             | omega
                             | (simp at hb102 hOl; omega))
                      · first
                        | exact Bool.noConfusion hb102
                        | (
                         refine nav ?_
                         (refine aC_region ?_
                           <;> refine xL 103 q_add ?_
                           <;> refine xL 45 q_move ?_
                           <;> refine aL_end (nav ?_) <;> try dsimp only)
                         first
                           | (exact aN_again (
                               ⟨(i + 1, _, _, O ++ [x.1], X2), lt_of_get hx, (by dsimp only; first | omega | (simp at hb102; omega)), (by assumption), hoX2, hOF, hXF⟩
                               ) (by dsimp only; omega) ⟨rfl, rfl, rfl, rfl, rfl, rfl, rfl, rfl, rfl, rfl, trivial⟩ ⟨rfl, rfl, rfl, rfl, trivial⟩)
                           | (exact aN_again (
                               ⟨(i + 1, hO2, hX2, O, X2), lt_of_get hx, (by dsimp only; first | omega | (simp at hb102; omega)), (by assumption), hoX2, hOF, hXF⟩
                               ) (by dsimp only; omega) ⟨rfl, rfl, rfl, rfl, rfl, rfl, rfl, rfl, rfl, rfl, trivial⟩ ⟨rfl, rfl, rfl, rfl, trivial⟩))))))
            · first
              | exact Bool.noConfusion hb46
              | (
               have hil : i = (lvP a N lev).length := by omega
               rw [hil, List.take_length] at hOE hXE
               have hOS : O = sumP a N (lev + 1) := by rw [sumP_snoc]; exact hOE
               have hXS : X = lvP a N (lev + 1) := hXE
               have hsm6 : (sumP a N (lev + 1)).length ≤ (lev + 1) * 2000 := by rw [sumP_snoc, List.length_append]; have := outP_len a (lvP a N lev); omega
               have hkl6 : (lvP a N (lev + 1)).length ≤ 2000 := by rw [← hXS]; exact hkl
               clear hOE hXE hil
               subst hOS hXS
               refine nav ?_
               (refine aC_region ?_
                 <;> refine xL 104 q_move ?_
                 <;> refine xL 9 q_assign ?_
                 <;> refine aL_end (nav ?_) <;> try dsimp only)
               (refine aC_region ?_
                 <;> refine xL 41 q_move ?_
                 <;> refine xL 42 q_sub ?_
                 <;> refine xL 1 q_assign ?_
                 <;> refine aL_end (nav ?_) <;> try dsimp only)
               refine aN_ent (relabel (l := 201) 203 rfl rfl) fun _ => ?_
               refine aN_ent (relabel (l := 202) 201 rfl rfl) fun _ => ?_
               rw [show ((N : Int) - (lev : Nat) - 1) = (N : Int) - ((lev + 1 : Nat) : Int) by omega]
               refine aN_again (
                 ⟨(lev + 1, hO2, hX), by dsimp only; omega, fun j hj => by
                   dsimp only at hj
                   rcases Nat.lt_or_ge lev j with h9 | h9
                   · rw [show j = lev + 1 by omega]; exact hkl6
                   · exact hlv j h9, hsm6, hoO2, hoX⟩
                 ) (by dsimp only; omega) ⟨rfl, rfl, rfl, rfl, rfl, rfl, trivial⟩ ⟨rfl, rfl, rfl, trivial⟩))
         · first
           | exact Bool.noConfusion hb40
           | (
            have hkE : lev = N + 1 := by omega
            subst hkE
            refine nav ?_
            (refine aC_region ?_
              <;> refine xL 105 q_move ?_
              <;> refine xL 106 (q_leno 200 tSl111_LdS) ?_
              <;> refine xL 107 q_gtr ?_
              <;> refine aL_end (nav ?_) <;> try dsimp only)
            first | refine cCd (fun hb107 => ?_) (fun hb107 => ?_) | refine cC (fun hb107 => ?_) (fun hb107 => ?_)
            · first
              | exact Bool.noConfusion hb107
              | (
               refine nav ?_
               (refine aC_region ?_
                 <;> refine xL 4 q_assign ?_
                 <;> refine xL 5 q_assign ?_
                 <;> refine aL_end (nav ?_) <;> try dsimp only)
               refine aR_ent (nilSlD (t := 4) rfl) fun _ => ?_
               exact ret_ss (Tryz.results64) rfl rfl (.inr (.inr (.inl ⟨hok, by omega, by omega, .inr (by rw [Int.toNat_natCast]; omega), rfl⟩))))
            · first
              | exact Bool.noConfusion hb107
              | (
               refine nav ?_
               (refine aC_region ?_
                 <;> refine xL 108 q_move ?_
                 <;> refine xL 4 q_assign ?_
                 <;> refine xL 5 q_assign ?_
                 <;> refine aL_end (nav ?_) <;> try dsimp only)
               refine aR_ent (En.freeze (l := 200) (t := 4) rfl rfl) fun _ => ?_
               rw [share_intss _ _ _ rfl]
               refine ret_ss (Tryz.results64) rfl rfl (.inr (.inr (.inr ⟨hok, by omega, by omega, ?_, by rw [Int.toNat_natCast]⟩)))
               rw [Int.toNat_natCast]
               rintro (⟨j, h1, h2⟩ | h1)
               · have := hlv (j + 1) (by omega); omega
               · omega)))))
end Go.Proofs.YtebcjijpdhbcdaaGreat
