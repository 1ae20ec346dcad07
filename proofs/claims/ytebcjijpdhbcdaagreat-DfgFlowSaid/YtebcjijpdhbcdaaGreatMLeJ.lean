/-
  'casebooklaw17.DfgFlow' returns true for every list of variants, and changes nothing that was handed to it.
-/
import Derived.Test.YtebcjijpdhbcdaaGreatRows
import Derived.Test.YtebcjijpdhbcdaaGreatLn
import Derived.Test.YtebcjijpdhbcdaaGreatMEoF
namespace Go.Proofs.YtebcjijpdhbcdaaGreat
open Go.RowKit Go.Cb Go.En Go.ChangeShapes Go.WideShapes Go.ChangeAt
set_option linter.all false
set_option maxRecDepth 100000

theorem tAgg28_LeJ : AggT Tryz.prog 28 4 = true := by kernel_rfl
theorem tAgg44_LeJ : AggT Tryz.prog 44 2 = true := by kernel_rfl
theorem tAgg47_LeJ : AggT Tryz.prog 47 3 = true := by kernel_rfl
theorem tFl28_0_LeJ : FldT Tryz.prog 28 0 0 = true := by kernel_rfl
theorem tFl28_1_LeJ : FldT Tryz.prog 28 1 1 = true := by kernel_rfl
theorem tFl28_2_LeJ : FldT Tryz.prog 28 2 2 = true := by kernel_rfl
theorem tFl28_3_LeJ : FldT Tryz.prog 28 3 3 = true := by kernel_rfl
theorem tFl44_0_LeJ : FldT Tryz.prog 44 0 0 = true := by kernel_rfl
theorem tFl44_1_LeJ : FldT Tryz.prog 44 1 1 = true := by kernel_rfl
theorem tFl47_0_LeJ : FldT Tryz.prog 47 0 0 = true := by kernel_rfl
theorem tFl47_1_LeJ : FldT Tryz.prog 47 1 1 = true := by kernel_rfl
theorem tFl47_2_LeJ : FldT Tryz.prog 47 2 2 = true := by kernel_rfl
theorem tNa25_LeJ : NoAgg Tryz.prog 25 = true := by kernel_rfl
theorem tNa26_LeJ : NoAgg Tryz.prog 26 = true := by kernel_rfl
theorem tNa3_LeJ : NoAgg Tryz.prog 3 = true := by kernel_rfl
theorem tNa9_LeJ : NoAgg Tryz.prog 9 = true := by kernel_rfl
theorem tSl25_LeJ : SlT Tryz.prog 25 44 2 = true := by kernel_rfl
theorem tSl26_LeJ : SlT Tryz.prog 26 47 3 = true := by kernel_rfl
theorem tSt28_LeJ : stInfo Tryz.prog 28 = some ((.agg #[(.slice none 0 0), (.slice none 0 0), (.slice none 0 0), (.slice none 0 0)]), ([0, 1, 2, 3] : List Nat).map fun o => (o, 1)) := by kernel_rfl
theorem tZr28_LeJ : ZeroT Tryz.prog 28 (.agg #[(.slice none 0 0), (.slice none 0 0), (.slice none 0 0), (.slice none 0 0)]) := by unfold ZeroT; kernel_rfl
theorem tZr44_LeJ : ZeroT Tryz.prog 44 (.agg #[(.string ByteArray.empty), (.int .i64 0)]) := by unfold ZeroT; kernel_rfl
theorem tZr47_LeJ : ZeroT Tryz.prog 47 (.agg #[(.string ByteArray.empty), (.string ByteArray.empty), (.int .i64 0)]) := by unfold ZeroT; kernel_rfl

theorem str_ne {a b : ByteArray} (h : (a.toList == b.toList) = false) : a ≠ b := fun e => by subst e; simp at h
section
variable {κ : Type} [DecidableEq κ]
theorem sum_perm {l m : List Int} (h : l.Perm m) : l.sum = m.sum := by
  induction h with
  | nil => rfl
  | cons x _ ih => rw [List.sum_cons, List.sum_cons, ih]
  | swap x y l => simp only [List.sum_cons]; omega
  | trans _ _ h1 h2 => exact h1.trans h2
theorem sumIf_perm {m m' : List (κ × Int)} (p : κ → Bool) (h : m.Perm m') : sumIf p m = sumIf p m' := by unfold sumIf; exact sum_perm (h.map _)
theorem iget_perm {m m' : List (κ × Int)} (h : m.Perm m') (hn : (m.map (·.1)).Nodup) (k : κ) : iget m k = iget m' k := by
  have hn' : (m'.map (·.1)).Nodup := ((h.map (fun x : κ × Int => x.1)).pairwise_iff (R := (· ≠ ·)) fun h => Ne.symm h).1 hn
  by_cases hk : k ∈ m.map (·.1)
  · obtain ⟨x, hx, rfl⟩ := List.mem_map.1 hk
    rw [iget_mem hn hx, iget_mem hn' (h.mem_iff.1 hx)]
  · rw [iget_none fun x hx e => hk (List.mem_map.2 ⟨x, hx, e⟩), iget_none fun x hx e => hk (List.mem_map.2 ⟨x, h.mem_iff.2 hx, e⟩)]
theorem sumIf_snoc (p : κ → Bool) (m : List (κ × Int)) (x : κ × Int) : sumIf p (m ++ [x]) = sumIf p m + if p x.1 then x.2 else 0 := by
  unfold sumIf; rw [List.map_append, List.sum_append]; simp
theorem sumIf_nonneg {p : κ → Bool} : ∀ {m : List (κ × Int)}, (∀ x ∈ m, 0 ≤ x.2) → 0 ≤ sumIf p m
  | [], _ => by unfold sumIf; simp
  | x :: m, h => by
    rw [sumIf_cons]
    have h1 := sumIf_nonneg (p := p) (m := m) fun y hy => h y (List.mem_cons_of_mem _ hy)
    have h2 := h x (List.mem_cons_self ..)
    split <;> omega
theorem sumIf_app (p : κ → Bool) (m m' : List (κ × Int)) : sumIf p (m ++ m') = sumIf p m + sumIf p m' := by
  unfold sumIf; rw [List.map_append, List.sum_append]
theorem sumIf_take {p : κ → Bool} {m : List (κ × Int)} (h : ∀ x ∈ m, 0 ≤ x.2) (k : Nat) : 0 ≤ sumIf p (m.take k) ∧ sumIf p (m.take k) ≤ sumIf p m := by
  have h1 := sumIf_nonneg (p := p) (m := m.take k) fun x hx => h x (List.mem_of_mem_take hx)
  have h2 := sumIf_nonneg (p := p) (m := m.drop k) fun x hx => h x (List.mem_of_mem_drop hx)
  have h3 := sumIf_app p (m.take k) (m.drop k)
  rw [List.take_append_drop] at h3
  omega
end
def numL (l : List Cnt) (s : ByteArray) : Int := iget (l.map unC) s
def inS (l : List Flw) (s : ByteArray) : Int := sumIf (fun p : Pr => decide (s = p.2)) (l.map unF)
def outS (l : List Flw) (s : ByteArray) : Int := sumIf (fun p : Pr => decide (s = p.1)) (l.map unF)
theorem numL_at : ∀ {l : List Cnt} {k : Nat} {x : Cnt} {s : ByteArray}, (∀ j y, j < k → l[j]? = some y → y.name ≠ s) → l[k]? = some x → x.name = s → numL l s = x.n
  | [], k, x, s, _, hx, _ => by simp at hx
  | y :: l, 0, x, s, _, hx, he => by
    cases hx
    show (if s = y.name then y.n else _) = _
    rw [if_pos he.symm]
  | y :: l, k + 1, x, s, h, hx, he => by
    show (if s = y.name then y.n else numL l s) = _
    rw [if_neg (fun e => h 0 y (by omega) rfl e.symm)]
    exact numL_at (fun j z hj hz => h (j + 1) z (by omega) hz) hx he
theorem numL_none {l : List Cnt} {s : ByteArray} (h : ∀ y ∈ l, y.name ≠ s) : numL l s = 0 := iget_none fun x hx => by
  obtain ⟨y, hy, rfl⟩ := List.mem_map.1 hx
  exact h y hy
theorem sameC_perm {L : List Cnt} {m : List (ByteArray × Int)} (h : SameC L m) : (L.map unC).Perm m := by
  have := h.1.map unC
  rw [List.map_map, show (unC ∘ mkC : ByteArray × Int → ByteArray × Int) = id from rfl, List.map_id] at this
  exact this
theorem sameF_perm {L : List Flw} {m : List (Pr × Int)} (h : SameF L m) : (L.map unF).Perm m := by
  have := h.1.map unF
  rw [List.map_map, show (unF ∘ mkF : Pr × Int → Pr × Int) = id from rfl, List.map_id] at this
  exact this
theorem nodup_perm {κ : Type} {m m' : List (κ × Int)} (h : m.Perm m') (hn : (m'.map (·.1)).Nodup) : (m.map (·.1)).Nodup := ((h.map (fun x : κ × Int => x.1)).pairwise_iff (R := (· ≠ ·)) fun h => Ne.symm h).2 hn
theorem numL_same {L : List Cnt} {m : List (ByteArray × Int)} (h : SameC L m) (hn : (m.map (·.1)).Nodup) (s : ByteArray) : numL L s = iget m s := iget_perm (sameC_perm h) (nodup_perm (sameC_perm h) hn) s
theorem flow_law {l : List Var} {g : Dfg} (hv : validVars l = true) (hg : SameG g (makeM l)) {c : Cnt} (hc : c ∈ g.acts) : numL g.starts c.name + inS g.follows c.name = c.n ∧ numL g.ends c.name + outS g.follows c.name = c.n ∧ 0 ≤ numL g.starts c.name ∧ 0 ≤ numL g.ends c.name ∧ c.n ≤ 70000000000 ∧ ∀ f ∈ g.follows, 0 ≤ f.n := by
  have hK := kokVars hv
  have hI := MInv.all (okVars hv)
  obtain ⟨hA, hS, hF, hQ⟩ := hg
  have h1 := sameC_mem hA hc
  have h2 := iget_mem hK.a.nd h1
  have h3 := (hK.a.bd _ h1).2
  dsimp only at h2 h3
  unfold inS outS
  rw [numL_same hS hK.s.nd, numL_same hF hK.f.nd, sumIf_perm _ (sameF_perm hQ), sumIf_perm _ (sameF_perm hQ), hI.fin, hI.fout]
  refine ⟨h2, h2, hI.ps.get _, hI.pf.get _, by omega, fun f hf => ?_⟩
  have := hI.pq _ (sameF_mem hQ hf)
  dsimp only at this
  omega
theorem unF_nonneg {l : List Flw} (h : ∀ f ∈ l, 0 ≤ f.n) : ∀ x ∈ l.map unF, 0 ≤ x.2 := fun x hx => by
  obtain ⟨f, hf, rfl⟩ := List.mem_map.1 hx
  exact h f hf
theorem inS_take {l : List Flw} (h : ∀ f ∈ l, 0 ≤ f.n) (s : ByteArray) (k : Nat) : 0 ≤ inS (l.take k) s ∧ inS (l.take k) s ≤ inS l s := by
  unfold inS; rw [List.map_take]; exact sumIf_take (unF_nonneg h) k
theorem outS_take {l : List Flw} (h : ∀ f ∈ l, 0 ≤ f.n) (s : ByteArray) (k : Nat) : 0 ≤ outS (l.take k) s ∧ outS (l.take k) s ≤ outS l s := by
  unfold outS; rw [List.map_take]; exact sumIf_take (unF_nonneg h) k
theorem inS_step {l : List Flw} {k : Nat} {x : Flw} (h : l[k]? = some x) (s : ByteArray) : inS (l.take (k + 1)) s = inS (l.take k) s + if s = x.dst then x.n else 0 := by
  unfold inS; rw [take_snoc h, List.map_append]
  rw [show List.map unF [x] = [unF x] from rfl, sumIf_snoc]
  congr 1
  by_cases e : s = x.dst
  · rw [if_pos e, if_pos (show decide (s = (unF x).1.2) = true from decide_eq_true e)]; rfl
  · rw [if_neg e, if_neg (show ¬ decide (s = (unF x).1.2) = true from fun h => e (of_decide_eq_true h))]
theorem outS_step {l : List Flw} {k : Nat} {x : Flw} (h : l[k]? = some x) (s : ByteArray) : outS (l.take (k + 1)) s = outS (l.take k) s + if s = x.src then x.n else 0 := by
  unfold outS; rw [take_snoc h, List.map_append]
  rw [show List.map unF [x] = [unF x] from rfl, sumIf_snoc]
  congr 1
  by_cases e : s = x.src
  · rw [if_pos e, if_pos (show decide (s = (unF x).1.1) = true from decide_eq_true e)]; rfl
  · rw [if_neg e, if_neg (show ¬ decide (s = (unF x).1.1) = true from fun h => e (of_decide_eq_true h))]
theorem number17_e (l : List Cnt) (s : ByteArray) : AF Tryz.prog 21 [pCnts l, pStr s] (· = pInt (numL l s)) := by
  refine AF.of_body 20 Tryz.func21 rfl Tryz.ntmps21 (Nat.le_of_ble_eq_true rfl) ?_
  intro w0 M0 vs hl hv
  obtain ⟨v0, v1, rfl⟩ := len2 hl
  obtain rfl := hv 1 _ _ rfl rfl
  clear hl hv
  refine aC_slen 0 rfl fun hlen => ?_
  refine nav ?_
  (refine aC_region ?_
    <;> refine xL 4 q_assign ?_
    <;> refine aL_end (nav ?_) <;> try dsimp only)
  (refine aC_region ?_
    <;> refine xL 7 q_move ?_
    <;> refine xL 8 (q_len tSl25_LeJ) ?_
    <;> refine xL 9 q_move ?_
    <;> refine aL_end (nav ?_) <;> try dsimp only)
  refine aC_loop (ι := { k : Nat // k ≤ l.length ∧ ∀ j y, j < k → l[j]? = some y → y.name ≠ s }) (fun k => ⟨[(1, _, _), (7, _, _), (8, _, _), (9, .int .i64 k.1, pInt k.1)], []⟩) (fun k => l.length - k.1) ⟨0, by omega, by omega⟩ (fun a w H => H.weaken ⟨rfl, rfl, rfl, rfl, trivial⟩ trivial) ?_
  rintro ⟨k, hk, hp⟩
  dsimp only
  refine nav ?_
  (refine aC_region ?_
    <;> refine xL 10 q_lss ?_
    <;> refine aL_end (nav ?_) <;> try dsimp only)
  first | refine cCd (fun hb10 => ?_) (fun hb10 => ?_) | refine cC (fun hb10 => ?_) (fun hb10 => ?_)
  · first
    | exact Bool.noConfusion hb10
    | (
     obtain ⟨x, hx⟩ := get_some (show k < l.length by omega)
     have e1 := flat_drop cCnt_len l k x hx
     have e2 := flat_fit cCnt_len hx
     refine nav ?_
     (refine aC_region ?_
       <;> refine xL 11 (q_idxN tSl25_LeJ) ?_
       <;> (refine yL 12 (q_lda tAgg44_LeJ) fun v12 hv12 => ?_; cases hv12)
       <;> refine s_alloc [(.string ByteArray.empty), (.int .i64 0)] 2 6 tZr44_LeJ fun h6 => ?_
       <;> refine s_sta 6 tAgg44_LeJ ?_
       <;> refine aL_end (nav ?_) <;> try dsimp only)
     (refine aC_region ?_
       <;> refine xL 13 (q_fldo 6 tFl44_0_LeJ) ?_
       <;> (refine yL 14 (q_ldo 6 tNa9_LeJ) fun v14 hv14 => ?_; cases hv14)
       <;> refine xL 15 q_move ?_
       <;> refine xL 16 q_seql ?_
       <;> refine aL_end (nav ?_) <;> try dsimp only)
     first | refine cCd (fun hb16 => ?_) (fun hb16 => ?_) | refine cC (fun hb16 => ?_) (fun hb16 => ?_)
     · first
       | exact Bool.noConfusion hb16
       | (
        refine nav ?_
        (refine aC_region ?_
          <;> refine xL 17 (q_fldo 6 tFl44_1_LeJ) ?_
          <;> (refine yL 18 (q_ldo 6 tNa3_LeJ) fun v18 hv18 => ?_; cases hv18)
          <;> refine xL 4 q_assign ?_
          <;> refine aL_end (nav ?_) <;> try dsimp only)
        refine ret_shr (Tryz.results21) rfl ?_
        rw [numL_at hp hx (strEq_iff.1 hb16)])
     · first
       | exact Bool.noConfusion hb16
       | (
        refine nav ?_
        (refine aC_region ?_
          <;> refine xL 19 q_add ?_
          <;> refine xL 9 q_move ?_
          <;> refine aL_end (nav ?_) <;> try dsimp only)
        refine aN_again (
          ⟨k + 1, lt_of_get hx, fun j y hj hy => by
            by_cases e : j = k
            · subst e; rw [hx] at hy; cases hy
              exact str_ne hb16
            · exact hp j y (by omega) hy⟩
          ) (by dsimp only; omega) ⟨rfl, rfl, rfl, rfl, trivial⟩ trivial))
  · first
    | exact Bool.noConfusion hb10
    | (
     refine nav ?_
     (refine aC_region ?_
       <;> refine xL 4 q_assign ?_
       <;> refine aL_end (nav ?_) <;> try dsimp only)
     refine ret_shr (Tryz.results21) rfl ?_
     rw [numL_none fun y hy => ?_]
     obtain ⟨j, hj⟩ := List.getElem?_of_mem hy
     exact hp j y (by have := lt_of_get hj; omega) hj)
set_option maxHeartbeats 4000000 in
theorem dfgFlow_e (l : List Var) (hf : fitV l) : AF Tryz.prog 5 [pVars l] (· = pBool true) := by
  obtain ⟨g, e, hm⟩ := made_ex l
  have hA := made_af (dMake_e l hf) hm
  have hl := made_len hm
  refine AF.of_body 79 Tryz.func5 rfl Tryz.ntmps5 (Nat.le_of_ble_eq_true rfl) ?_
  intro w0 M0 vs hl hv
  obtain ⟨v0, rfl⟩ := len1 hl
  clear hl hv
  refine nav ?_
  (refine aC_region ?_
    <;> refine xL 2 q_assign ?_
    <;> refine aL_end (nav ?_) <;> try dsimp only)
  (refine aC_region ?_
    <;> (refine cS 11 (cA Tryz.call11 (awake17_e)) fun v11 hv11 => ?_; cases hv11)
    <;> refine xL 12 q_not ?_
    <;> refine aL_end (nav ?_) <;> try dsimp only)
  refine cCf ?_
  refine nav ?_
  (refine aC_region ?_
    <;> refine xL 13 q_move ?_
    <;> (refine cS 14 (cA Tryz.call12 (many17_e l)) fun v14 hv14 => ?_; cases hv14)
    <;> refine aL_end (nav ?_) <;> try dsimp only)
  first | refine cCd (fun hb14 => ?_) (fun hb14 => ?_) | refine cC (fun hb14 => ?_) (fun hb14 => ?_)
  · first
    | exact Bool.noConfusion hb14
    | (
     refine nav ?_
     (refine aC_region ?_
       <;> refine xL 2 q_assign ?_
       <;> refine aL_end (nav ?_) <;> try dsimp only)
     exact ret_shr Tryz.results5 rfl rfl)
  · first
    | exact Bool.noConfusion hb14
    | (
     refine nav ?_
     (refine aC_region ?_
       <;> refine xL 16 q_move ?_
       <;> (refine cP 17 (cA Tryz.call13 (hA)) fun va17 vb17 hva17 hvb17 => ?_; cases hvb17)
       <;> refine xL 15 q_move ?_
       <;> refine xL 18 q_extract ?_
       <;> refine xL 19 q_extract ?_
       <;> refine s_alloc [(.slice none 0 0), (.slice none 0 0), (.slice none 0 0), (.slice none 0 0)] 4 3 tZr28_LeJ fun h3 => ?_
       <;> refine s_sta 3 tAgg28_LeJ ?_
       <;> refine xL 4 q_assign ?_
       <;> refine aL_end (nav ?_) <;> try dsimp only)
     (refine aC_region ?_
       <;> refine xL 20 q_move ?_
       <;> refine xL 21 q_neq ?_
       <;> refine aL_end (nav ?_) <;> try dsimp only)
     first | refine cCd (fun hb21 => ?_) (fun hb21 => ?_) | refine cC (fun hb21 => ?_) (fun hb21 => ?_)
     · first
       | exact Bool.noConfusion hb21
       | (
        have hg0 : g = g0 := by
          rcases hm with ⟨_, h, _⟩ | ⟨_, _, h, _⟩ | ⟨_, _, _, h⟩
          · exact h
          · exact h
          · exact absurd h (by simpa using hb21)
        refine nav ?_
        (refine aC_region ?_
          <;> (refine yL 22 (q_ldao 3 tAgg28_LeJ) fun v22 hv22 => ?_; cases hv22)
          <;> refine xL 23 (q_build tSt28_LeJ) ?_
          <;> (refine aL_ent (rslot (t := 23) (p' := pDfg g0) rfl rr_zeroD) fun _ => ?_; refine cS 24 (cA Tryz.call15 ((r17Same_e g g0 (by omega) (by decide)).mono (R' := (· = pBool true)) fun p hp => by rw [hp, hg0, dfgEq_self])) fun v24 hv24 => ?_; cases hv24)
          <;> refine xL 2 q_assign ?_
          <;> refine aL_end (nav ?_) <;> try dsimp only)
        exact ret_shr Tryz.results5 rfl rfl)
     · first
       | exact Bool.noConfusion hb21
       | (
        obtain rfl : e = 0 := by simpa using hb21
        obtain ⟨hok, hvv, hsg⟩ := made_gok hm
        have h40 := (gok_of hok).n40
        refine nav ?_
        (refine aC_region ?_
          <;> refine xL 25 (q_fldo 3 tFl28_0_LeJ) ?_
          <;> (refine yL 26 (q_ldo 3 tNa25_LeJ) fun v26 hv26 => ?_; cases hv26)
          <;> refine xL 27 (q_len tSl25_LeJ) ?_
          <;> refine xL 28 q_move ?_
          <;> refine aL_end (nav ?_) <;> try dsimp only)
        refine aC_loop (ι := { k : Nat // k ≤ g.acts.length }) (fun k => ⟨[(3, _, _), (26, _, _), (27, _, _), (28, .int .i64 k.1, pInt k.1)], [(3, _, _)]⟩) (fun k => g.acts.length - k.1) ⟨0, Nat.zero_le _⟩ (fun a w H => H.weaken ⟨rfl, rfl, rfl, rfl, trivial⟩ ⟨rfl, trivial⟩) ?_
        rintro ⟨k, hk⟩
        dsimp only
        refine nav ?_
        (refine aC_region ?_
          <;> refine xL 29 q_lss ?_
          <;> refine aL_end (nav ?_) <;> try dsimp only)
        first | refine cCd (fun hb29 => ?_) (fun hb29 => ?_) | refine cC (fun hb29 => ?_) (fun hb29 => ?_)
        · first
          | exact Bool.noConfusion hb29
          | (
           obtain ⟨c, hc⟩ := get_some (show k < g.acts.length by omega)
           have e1 := flat_drop cCnt_len g.acts k c hc
           have e2 := flat_fit cCnt_len hc
           obtain ⟨f1, f2, f3, f4, f5, f6⟩ := flow_law hvv hsg (List.mem_of_getElem? hc)
           obtain ⟨nS, hnS⟩ : ∃ nS, nS = numL g.starts c.name := ⟨_, rfl⟩
           obtain ⟨nE, hnE⟩ : ∃ nE, nE = numL g.ends c.name := ⟨_, rfl⟩
           rw [← hnS] at f1 f3
           rw [← hnE] at f2 f4
           have hz : inS (g.follows.take 0) c.name = 0 := rfl
           have hz2 : outS (g.follows.take 0) c.name = 0 := rfl
           refine nav ?_
           (refine aC_region ?_
             <;> refine xL 30 (q_idxN tSl25_LeJ) ?_
             <;> (refine yL 31 (q_lda tAgg44_LeJ) fun v31 hv31 => ?_; cases hv31)
             <;> refine s_alloc [(.string ByteArray.empty), (.int .i64 0)] 2 6 tZr44_LeJ fun h6 => ?_
             <;> refine s_sta 6 tAgg44_LeJ ?_
             <;> refine aL_end (nav ?_) <;> try dsimp only)
           (refine aC_draw (fun i => ([] : List Nat).elem i) [3, 6] (by kernel_rfl) ?_
             <;> refine xD 0 32 rfl (q_fldo 3 tFl28_1_LeJ) ?_
             <;> (refine yD 1 33 rfl (q_ldo 3 tNa25_LeJ) fun v33 hv33 => ?_; cases hv33)
             <;> refine xD 2 34 rfl (q_fldo 6 tFl44_0_LeJ) ?_
             <;> (refine yD 3 35 rfl (q_ldo 6 tNa9_LeJ) fun v35 hv35 => ?_; cases hv35)
             <;> refine xD 5 37 rfl (q_fldo 3 tFl28_2_LeJ) ?_
             <;> (refine yD 6 38 rfl (q_ldo 3 tNa25_LeJ) fun v38 hv38 => ?_; cases hv38)
             <;> refine xD 7 39 rfl (q_fldo 6 tFl44_0_LeJ) ?_
             <;> (refine yD 8 40 rfl (q_ldo 6 tNa9_LeJ) fun v40 hv40 => ?_; cases hv40)
             <;> (refine aD_one 4 (by kernel_rfl) ?_)
             <;> (refine aW_call (d := 36) rfl (cA Tryz.call21 ((number17_e g.starts c.name).mono (R' := (· = pInt nS)) fun p hp => by rw [hp, hnS])) fun v36 hv36 => ?_; cases hv36)
             <;> (refine aD_one 9 (by kernel_rfl) ?_)
             <;> (refine aW_call (d := 41) rfl (cA Tryz.call21 ((number17_e g.ends c.name).mono (R' := (· = pInt nE)) fun p hp => by rw [hp, hnE])) fun v41 hv41 => ?_; cases hv41)
             <;> refine xE 10 7 rfl q_assign ?_
             <;> refine xE 11 8 rfl q_assign ?_
             <;> refine aD_end (by kernel_rfl) (nav ?_)
             <;> try dsimp only)
           (refine aC_region ?_
             <;> refine xL 42 (q_fldo 3 tFl28_3_LeJ) ?_
             <;> (refine yL 43 (q_ldo 3 tNa26_LeJ) fun v43 hv43 => ?_; cases hv43)
             <;> refine xL 44 (q_len tSl26_LeJ) ?_
             <;> refine xL 45 q_move ?_
             <;> refine aL_end (nav ?_) <;> try dsimp only)
           refine aC_loop (ι := { q : Nat × Int × Int // q.1 ≤ g.follows.length ∧ q.2.1 = nS + inS (g.follows.take q.1) c.name ∧ q.2.2 = nE + outS (g.follows.take q.1) c.name }) (fun k => ⟨[(3, _, _), (6, _, _), (26, _, _), (27, _, _), (28, _, _), (43, _, _), (44, _, _), (7, .int .i64 k.1.2.1, pInt k.1.2.1), (8, .int .i64 k.1.2.2, pInt k.1.2.2), (45, .int .i64 k.1.1, pInt k.1.1)], [(3, _, _), (6, _, _)]⟩) (fun k => g.follows.length - k.1.1) ⟨(0, nS, nE), Nat.zero_le _, by dsimp only; omega, by dsimp only; omega⟩ (fun a w H => H.weaken ⟨rfl, rfl, rfl, rfl, rfl, rfl, rfl, rfl, rfl, rfl, trivial⟩ ⟨rfl, rfl, trivial⟩) ?_
           rintro ⟨⟨j, nI, nO⟩, hj, hI, hO⟩
           dsimp only
           dsimp only at hj hI hO
           have b1 := inS_take f6 c.name j
           have b2 := outS_take f6 c.name j
           refine nav ?_
           (refine aC_region ?_
             <;> refine xL 46 q_lss ?_
             <;> refine aL_end (nav ?_) <;> try dsimp only)
           first | refine cCd (fun hb46 => ?_) (fun hb46 => ?_) | refine cC (fun hb46 => ?_) (fun hb46 => ?_)
           · first
             | exact Bool.noConfusion hb46
             | (
              obtain ⟨x, hx⟩ := get_some (show j < g.follows.length by omega)
              have e3 := flat_drop cFlw_len g.follows j x hx
              have e4 := flat_fit cFlw_len hx
              have s1 := inS_step hx c.name
              have s2 := outS_step hx c.name
              have b3 := inS_take f6 c.name (j + 1)
              have b4 := outS_take f6 c.name (j + 1)
              have hxn := f6 x (List.mem_of_getElem? hx)
              refine nav ?_
              (refine aC_region ?_
                <;> refine xL 47 (q_idxN tSl26_LeJ) ?_
                <;> (refine yL 48 (q_lda tAgg47_LeJ) fun v48 hv48 => ?_; cases hv48)
                <;> refine s_alloc [(.string ByteArray.empty), (.string ByteArray.empty), (.int .i64 0)] 3 10 tZr47_LeJ fun h10 => ?_
                <;> refine s_sta 10 tAgg47_LeJ ?_
                <;> refine aL_end (nav ?_) <;> try dsimp only)
              (refine aC_region ?_
                <;> refine xL 49 (q_fldo 10 tFl47_1_LeJ) ?_
                <;> (refine yL 50 (q_ldo 10 tNa9_LeJ) fun v50 hv50 => ?_; cases hv50)
                <;> refine xL 51 (q_fldo 6 tFl44_0_LeJ) ?_
                <;> (refine yL 52 (q_ldo 6 tNa9_LeJ) fun v52 hv52 => ?_; cases hv52)
                <;> refine xL 53 q_seql ?_
                <;> refine aL_end (nav ?_) <;> try dsimp only)
              first | refine cCd (fun hb53 => ?_) (fun hb53 => ?_) | refine cC (fun hb53 => ?_) (fun hb53 => ?_)
              · first
                | exact Bool.noConfusion hb53
                | (
                 rw [if_pos (strEq_iff.1 hb53).symm] at s1
                 refine nav ?_
                 (refine aC_region ?_
                   <;> refine xL 54 q_move ?_
                   <;> refine xL 55 (q_fldo 10 tFl47_2_LeJ) ?_
                   <;> (refine yL 56 (q_ldo 10 tNa3_LeJ) fun v56 hv56 => ?_; cases hv56)
                   <;> refine xL 57 q_add ?_
                   <;> refine xL 7 q_assign ?_
                   <;> refine aL_end (nav ?_) <;> try dsimp only)
                 (refine aC_region ?_
                   <;> refine xL 58 (q_fldo 10 tFl47_0_LeJ) ?_
                   <;> (refine yL 59 (q_ldo 10 tNa9_LeJ) fun v59 hv59 => ?_; cases hv59)
                   <;> refine xL 60 (q_fldo 6 tFl44_0_LeJ) ?_
                   <;> (refine yL 61 (q_ldo 6 tNa9_LeJ) fun v61 hv61 => ?_; cases hv61)
                   <;> refine xL 62 q_seql ?_
                   <;> refine aL_end (nav ?_) <;> try dsimp only)
                 first | refine cCd (fun hb62 => ?_) (fun hb62 => ?_) | refine cC (fun hb62 => ?_) (fun hb62 => ?_)
                 · first
                   | exact Bool.noConfusion hb62
                   | (
                    rw [if_pos (strEq_iff.1 hb62).symm] at s2
                    refine nav ?_
                    (refine aC_region ?_
                      <;> refine xL 63 q_move ?_
                      <;> refine xL 64 (q_fldo 10 tFl47_2_LeJ) ?_
                      <;> (refine yL 65 (q_ldo 10 tNa3_LeJ) fun v65 hv65 => ?_; cases hv65)
                      <;> refine xL 66 q_add ?_
                      <;> refine xL 8 q_assign ?_
                      <;> refine aL_end (nav ?_) <;> try dsimp only)
                    (refine aC_region ?_
                      <;> refine xL 67 q_add ?_
                      <;> refine xL 45 q_move ?_
                      <;> refine aL_end (nav ?_) <;> try dsimp only)
                    first
                      | (exact aN_again (
                          ⟨(j + 1, nI + x.n, nO + x.n), lt_of_get hx, by dsimp only; omega, by dsimp only; omega⟩
                          ) (by dsimp only; omega) ⟨rfl, rfl, rfl, rfl, rfl, rfl, rfl, rfl, rfl, rfl, trivial⟩ ⟨rfl, rfl, trivial⟩)
                      | (exact aN_again (
                          ⟨(j + 1, nI + x.n, nO), lt_of_get hx, by dsimp only; omega, by dsimp only; omega⟩
                          ) (by dsimp only; omega) ⟨rfl, rfl, rfl, rfl, rfl, rfl, rfl, rfl, rfl, rfl, trivial⟩ ⟨rfl, rfl, trivial⟩)
                      | (exact aN_again (
                          ⟨(j + 1, nI, nO + x.n), lt_of_get hx, by dsimp only; omega, by dsimp only; omega⟩
                          ) (by dsimp only; omega) ⟨rfl, rfl, rfl, rfl, rfl, rfl, rfl, rfl, rfl, rfl, trivial⟩ ⟨rfl, rfl, trivial⟩)
                      | (exact aN_again (
                          ⟨(j + 1, nI, nO), lt_of_get hx, by dsimp only; omega, by dsimp only; omega⟩
                          ) (by dsimp only; omega) ⟨rfl, rfl, rfl, rfl, rfl, rfl, rfl, rfl, rfl, rfl, trivial⟩ ⟨rfl, rfl, trivial⟩))
                 · first
                   | exact Bool.noConfusion hb62
                   | (
                    rw [if_neg (fun h9 => str_ne hb62 h9.symm)] at s2
                    refine nav ?_
                    (refine aC_region ?_
                      <;> refine xL 67 q_add ?_
                      <;> refine xL 45 q_move ?_
                      <;> refine aL_end (nav ?_) <;> try dsimp only)
                    first
                      | (exact aN_again (
                          ⟨(j + 1, nI + x.n, nO + x.n), lt_of_get hx, by dsimp only; omega, by dsimp only; omega⟩
                          ) (by dsimp only; omega) ⟨rfl, rfl, rfl, rfl, rfl, rfl, rfl, rfl, rfl, rfl, trivial⟩ ⟨rfl, rfl, trivial⟩)
                      | (exact aN_again (
                          ⟨(j + 1, nI + x.n, nO), lt_of_get hx, by dsimp only; omega, by dsimp only; omega⟩
                          ) (by dsimp only; omega) ⟨rfl, rfl, rfl, rfl, rfl, rfl, rfl, rfl, rfl, rfl, trivial⟩ ⟨rfl, rfl, trivial⟩)
                      | (exact aN_again (
                          ⟨(j + 1, nI, nO + x.n), lt_of_get hx, by dsimp only; omega, by dsimp only; omega⟩
                          ) (by dsimp only; omega) ⟨rfl, rfl, rfl, rfl, rfl, rfl, rfl, rfl, rfl, rfl, trivial⟩ ⟨rfl, rfl, trivial⟩)
                      | (exact aN_again (
                          ⟨(j + 1, nI, nO), lt_of_get hx, by dsimp only; omega, by dsimp only; omega⟩
                          ) (by dsimp only; omega) ⟨rfl, rfl, rfl, rfl, rfl, rfl, rfl, rfl, rfl, rfl, trivial⟩ ⟨rfl, rfl, trivial⟩)))
              · first
                | exact Bool.noConfusion hb53
                | (
                 rw [if_neg (fun h9 => str_ne hb53 h9.symm)] at s1
                 refine nav ?_
                 (refine aC_region ?_
                   <;> refine xL 58 (q_fldo 10 tFl47_0_LeJ) ?_
                   <;> (refine yL 59 (q_ldo 10 tNa9_LeJ) fun v59 hv59 => ?_; cases hv59)
                   <;> refine xL 60 (q_fldo 6 tFl44_0_LeJ) ?_
                   <;> (refine yL 61 (q_ldo 6 tNa9_LeJ) fun v61 hv61 => ?_; cases hv61)
                   <;> refine xL 62 q_seql ?_
                   <;> refine aL_end (nav ?_) <;> try dsimp only)
                 first | refine cCd (fun hb62 => ?_) (fun hb62 => ?_) | refine cC (fun hb62 => ?_) (fun hb62 => ?_)
                 · first
                   | exact Bool.noConfusion hb62
                   | (
                    rw [if_pos (strEq_iff.1 hb62).symm] at s2
                    refine nav ?_
                    (refine aC_region ?_
                      <;> refine xL 63 q_move ?_
                      <;> refine xL 64 (q_fldo 10 tFl47_2_LeJ) ?_
                      <;> (refine yL 65 (q_ldo 10 tNa3_LeJ) fun v65 hv65 => ?_; cases hv65)
                      <;> refine xL 66 q_add ?_
                      <;> refine xL 8 q_assign ?_
                      <;> refine aL_end (nav ?_) <;> try dsimp only)
                    (refine aC_region ?_
                      <;> refine xL 67 q_add ?_
                      <;> refine xL 45 q_move ?_
                      <;> refine aL_end (nav ?_) <;> try dsimp only)
                    first
                      | (exact aN_again (
                          ⟨(j + 1, nI + x.n, nO + x.n), lt_of_get hx, by dsimp only; omega, by dsimp only; omega⟩
                          ) (by dsimp only; omega) ⟨rfl, rfl, rfl, rfl, rfl, rfl, rfl, rfl, rfl, rfl, trivial⟩ ⟨rfl, rfl, trivial⟩)
                      | (exact aN_again (
                          ⟨(j + 1, nI + x.n, nO), lt_of_get hx, by dsimp only; omega, by dsimp only; omega⟩
                          ) (by dsimp only; omega) ⟨rfl, rfl, rfl, rfl, rfl, rfl, rfl, rfl, rfl, rfl, trivial⟩ ⟨rfl, rfl, trivial⟩)
                      | (exact aN_again (
                          ⟨(j + 1, nI, nO + x.n), lt_of_get hx, by dsimp only; omega, by dsimp only; omega⟩
                          ) (by dsimp only; omega) ⟨rfl, rfl, rfl, rfl, rfl, rfl, rfl, rfl, rfl, rfl, trivial⟩ ⟨rfl, rfl, trivial⟩)
                      | (exact aN_again (
                          ⟨(j + 1, nI, nO), lt_of_get hx, by dsimp only; omega, by dsimp only; omega⟩
                          ) (by dsimp only; omega) ⟨rfl, rfl, rfl, rfl, rfl, rfl, rfl, rfl, rfl, rfl, trivial⟩ ⟨rfl, rfl, trivial⟩))
                 · first
                   | exact Bool.noConfusion hb62
                   | (
                    rw [if_neg (fun h9 => str_ne hb62 h9.symm)] at s2
                    refine nav ?_
                    (refine aC_region ?_
                      <;> refine xL 67 q_add ?_
                      <;> refine xL 45 q_move ?_
                      <;> refine aL_end (nav ?_) <;> try dsimp only)
                    first
                      | (exact aN_again (
                          ⟨(j + 1, nI + x.n, nO + x.n), lt_of_get hx, by dsimp only; omega, by dsimp only; omega⟩
                          ) (by dsimp only; omega) ⟨rfl, rfl, rfl, rfl, rfl, rfl, rfl, rfl, rfl, rfl, trivial⟩ ⟨rfl, rfl, trivial⟩)
                      | (exact aN_again (
                          ⟨(j + 1, nI + x.n, nO), lt_of_get hx, by dsimp only; omega, by dsimp only; omega⟩
                          ) (by dsimp only; omega) ⟨rfl, rfl, rfl, rfl, rfl, rfl, rfl, rfl, rfl, rfl, trivial⟩ ⟨rfl, rfl, trivial⟩)
                      | (exact aN_again (
                          ⟨(j + 1, nI, nO + x.n), lt_of_get hx, by dsimp only; omega, by dsimp only; omega⟩
                          ) (by dsimp only; omega) ⟨rfl, rfl, rfl, rfl, rfl, rfl, rfl, rfl, rfl, rfl, trivial⟩ ⟨rfl, rfl, trivial⟩)
                      | (exact aN_again (
                          ⟨(j + 1, nI, nO), lt_of_get hx, by dsimp only; omega, by dsimp only; omega⟩
                          ) (by dsimp only; omega) ⟨rfl, rfl, rfl, rfl, rfl, rfl, rfl, rfl, rfl, rfl, trivial⟩ ⟨rfl, rfl, trivial⟩))))
           · first
             | exact Bool.noConfusion hb46
             | (
              have hjE : j = g.follows.length := by omega
              rw [hjE, List.take_length] at hI hO
              have hq1 : nI = c.n := by omega
              have hq2 : nO = c.n := by omega
              refine nav ?_
              (refine aC_region ?_
                <;> refine xL 68 q_move ?_
                <;> refine xL 69 (q_fldo 6 tFl44_1_LeJ) ?_
                <;> (refine yL 70 (q_ldo 6 tNa3_LeJ) fun v70 hv70 => ?_; cases hv70)
                <;> refine xL 71 q_neq ?_
                <;> refine xL 72 q_move ?_
                <;> (refine bLd 72 (fun hb72 => ?_) (fun hb72 => ?_) <;> (first | refine kL 73 ?_ | refine xL 73 q_move ?_))
                <;> (first | refine kL 74 ?_ | refine xL 74 (q_fldo 6 tFl44_1_LeJ) ?_)
                <;> (first | refine kL 75 ?_ | (refine yL 75 (q_ldo 6 tNa3_LeJ) fun v75 hv75 => ?_; cases hv75))
                <;> (first | refine kL 76 ?_ | refine xL 76 q_neq ?_)
                <;> refine xL 77 q_pick ?_
                <;> refine aL_end (nav ?_) <;> try dsimp only) <;> (
               first | refine cCd (fun hb77 => ?_) (fun hb77 => ?_) | refine cC (fun hb77 => ?_) (fun hb77 => ?_)
               · first
                 | exact Bool.noConfusion hb77
                 | (
                  refine nav ?_
                  (refine aC_region ?_
                    <;> refine xL 2 q_assign ?_
                    <;> refine aL_end (nav ?_) <;> try dsimp only)
                  exfalso
                  first
                    | omega
                    | (simp at hb77; omega))
               · first
                 | exact Bool.noConfusion hb77
                 | (
                  refine nav ?_
                  (refine aC_region ?_
                    <;> refine xL 78 q_add ?_
                    <;> refine xL 28 q_move ?_
                    <;> refine aL_end (nav ?_) <;> try dsimp only)
                  refine aN_again (
                    ⟨k + 1, lt_of_get hc⟩
                    ) (by dsimp only; omega) ⟨rfl, rfl, rfl, rfl, trivial⟩ ⟨rfl, trivial⟩))))
        · first
          | exact Bool.noConfusion hb29
          | (
           refine nav ?_
           (refine aC_region ?_
             <;> refine xL 2 q_assign ?_
             <;> refine aL_end (nav ?_) <;> try dsimp only)
           exact ret_shr Tryz.results5 rfl rfl)))
theorem own : ownKnob Tryz.prog.godebug = none := by kernel_rfl
theorem laidOut : laidOutB Tryz.prog = true := by kernel_rfl
theorem lifted (os : Os) (started : os.Started) (H : Type) (enc : TypeId × Value → H) :
    ReturnsInHanded {} Tryz.checked os 5 .any (Rows.dfgFlowSpec.pre6 enc Tryz.prog Tryz.f5 Rows.dfgFlowRow.domain false) (Rows.dfgFlowSpec.post enc Tryz.prog Tryz.f5 false true false false) := by
  refine returnsInHanded_of_change_sized (C := Tryz.checked) own started (by kernel_rfl) Tryz.func5
    (ChangeSpec.witness6 (enc := enc) (C := Tryz.checked) false ⟨#[], #[(.slice none 0 0)], []⟩ 8 (by kernel_rfl) (by kernel_rfl) (by kernel_rfl) (by kernel_rfl)) ?_
  intro W base args ds gs before hval0 hW hcnd hsz _
  have hval : ∀ (j : Nat) t v, Tryz.f5.params[j]? = some t → args[j]? = some v → Value.okWide Tryz.prog W .any base t v := hval0
  have hW' := hW
  obtain ⟨p, q, hA0, hV, rfl, hfz, hnd⟩ := hW
  have hA : DataW.TrodAll enc Tryz.prog W 0 (fun _ => true) true Tryz.f5.params.toList args.toList ds p := hA0
  have hsz' : ∀ n ∈ DataW.weightsEach Tryz.prog (Tryz.f5.params.toList ++ Rows.dfgFlowSpec.plain.varTypes Tryz.prog) (ds ++ gs), n ≤ reachBytes := fun n hn => by
    have := List.all_eq_true.1 hsz n hn
    exact of_decide_eq_true this
  have hK := hA
  rw [Tryz.params5] at hA hval hsz'
  obtain ⟨v0, vs0, d0, ds0, p0, q0, hargs, rfl, rfl, h0, r0⟩ := trodAll_cons hA
  obtain ⟨rfl, rfl, rfl⟩ := trodAll_nil r0
  obtain rfl : args = #[v0] := by cases args; simp_all
  obtain ⟨rfl, rfl⟩ := trodVars_none hV
  obtain ⟨xl, hxl, s0⟩ := arg1 dVars (by kernel_rfl) (hval 0 _ v0 rfl rfl) h0 (fun n hn => hsz' n (weightsEach_mem _ 0 rfl rfl hn))
  refine ((dfgFlow_e xl hxl).law (vs := [v0]) rfl (fun i v p hv hp => ?_)).mono fun e W' ⟨he, bel⟩ => ?_
  · match i with
    | 0 => simp at hv hp; subst hv hp; exact s0
    | i + 1 => simp at hv
  subst he
  exact ⟨_, rfl, _, _, _, [], _, [], hW', trodAll_mk1 (shut_bool Tryz.underlying4 _), trodAll_back laidOut bel (by kernel_rfl) hK, rfl, bel.frame _, fun h => by cases h⟩

theorem over : Rows.dfgFlowRow.holds Tryz.pinned (OpenSpec.ofChange Rows.dfgFlowSpec) :=
  OpenClaim.holds_of_wide 5 Tryz.f5 rfl rfl rfl rfl rfl rfl rfl ⟨rfl, rfl, rfl, rfl, rfl⟩ rfl rfl rfl rfl rfl (by kernel_rfl) Tryz.func5 (by kernel_rfl)
    (of_decide_eq_true (by kernel_rfl)) (by unfold Func.isWrapper; first | (rw [if_pos (by decide +kernel)]; kernel_rfl) | (rw [if_neg (by decide +kernel)]; exact ⟨rfl, rfl⟩))
    (fun os started H enc _ => lifted os started H enc)

theorem dfgFlow_holds : Rows.DfgFlowSaid := over
end Go.Proofs.YtebcjijpdhbcdaaGreat
