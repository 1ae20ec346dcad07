/-
  Plain laws: what the counters of variants hold: names, positive numbers, and what goes in comes out. No program in sight.
  What Make and its reference hand back; graphs are equal to themselves.
  How the arguments of the laws read (layer 17).
-/
import Derived.Test.YtebcjijpdhbcdaaGreatLi
import Derived.Test.YtebcjijpdhbcdaaGreatLe
import Derived.Test.YtebcjijpdhbcdaaGreatLm
import Derived.Test.YtebcjijpdhbcdaaGreatLj
import Derived.Test.YtebcjijpdhbcdaaGreatEngc
import Derived.Test.YtebcjijpdhbcdaaGreatEngb
namespace Go.Proofs.YtebcjijpdhbcdaaGreat
open Go.RowKit Go.Cb Go.En
set_option linter.all false

theorem exC : ∀ {m : List (ByteArray × Int)}, (m.map (·.1)).Nodup → ∃ L, SameC L m
  | [], _ => ⟨[], .refl _, .nil⟩
  | x :: m, h => by
    have h' := List.nodup_cons.1 h
    obtain ⟨L, hL⟩ := exC h'.2
    have h2 := sameC_add hL h'.2 x.1 x.2
    have h3 : iadd m x.1 x.2 = m ++ [x] := by
      have hn : ∀ y ∈ m, y.1 ≠ x.1 := fun y hy e => h'.1 (List.mem_map.2 ⟨y, hy, e⟩)
      unfold iadd
      rw [iget_none hn, iput_none hn, Int.zero_add]
    rw [h3] at h2
    exact ⟨_, h2.1.trans ((List.perm_append_singleton x m).map mkC), h2.2⟩
theorem exF : ∀ {m : List (Pr × Int)}, (m.map (·.1)).Nodup → ∃ L, SameF L m
  | [], _ => ⟨[], .refl _, .nil⟩
  | x :: m, h => by
    have h' := List.nodup_cons.1 h
    obtain ⟨L, hL⟩ := exF h'.2
    have h2 := sameF_add hL h'.2 x.1 x.2
    have h3 : iadd m x.1 x.2 = m ++ [x] := by
      have hn : ∀ y ∈ m, y.1 ≠ x.1 := fun y hy e => h'.1 (List.mem_map.2 ⟨y, hy, e⟩)
      unfold iadd
      rw [iget_none hn, iput_none hn, Int.zero_add]
    rw [h3] at h2
    exact ⟨_, h2.1.trans ((List.perm_append_singleton x m).map mkF), h2.2⟩
theorem exG {st : M4} {b : Nat} (h : KOk st b) : ∃ g, SameG g st := by
  obtain ⟨A, hA⟩ := exC h.a.nd
  obtain ⟨S, hS⟩ := exC h.s.nd
  obtain ⟨F, hF⟩ := exC h.f.nd
  obtain ⟨Q, hQ⟩ := exF h.q.nd
  exact ⟨⟨A, S, F, Q⟩, hA, hS, hF, hQ⟩
section
variable {κ : Type} [DecidableEq κ]
theorem iget_iadd (m : List (κ × Int)) (k j : κ) (n : Int) : iget (iadd m k n) j = iget m j + if j = k then n else 0 := by
  induction m with
  | nil =>
    show iget [(k, 0 + n)] j = 0 + _
    unfold iget iget
    split <;> simp_all
  | cons x m ih =>
    rw [iadd_cons]
    by_cases h : k = x.1
    · rw [if_pos h]
      subst h
      rw [iget, iget]
      by_cases hj : j = x.1
      · rw [if_pos hj, if_pos hj, if_pos hj]
      · rw [if_neg hj, if_neg hj, if_neg hj]; omega
    · rw [if_neg h, iget, iget]
      by_cases hj : j = x.1
      · rw [if_pos hj, if_pos hj, if_neg (fun e => h (e.symm.trans hj))]; omega
      · rw [if_neg hj, if_neg hj]; exact ih
def sumIf (p : κ → Bool) (m : List (κ × Int)) : Int := (m.map fun x => if p x.1 then x.2 else 0).sum
theorem sumIf_cons (p : κ → Bool) (x : κ × Int) (m : List (κ × Int)) : sumIf p (x :: m) = (if p x.1 then x.2 else 0) + sumIf p m := by unfold sumIf; rw [List.map_cons, List.sum_cons]
theorem sumIf_iadd (p : κ → Bool) (m : List (κ × Int)) (k : κ) (n : Int) : sumIf p (iadd m k n) = sumIf p m + if p k then n else 0 := by
  induction m with
  | nil =>
    show sumIf p [(k, 0 + n)] = 0 + _
    rw [sumIf_cons]
    unfold sumIf
    simp
  | cons x m ih =>
    rw [iadd_cons]
    by_cases h : k = x.1
    · rw [if_pos h, sumIf_cons, sumIf_cons]
      subst h
      dsimp only
      split <;> omega
    · rw [if_neg h, sumIf_cons, sumIf_cons, ih]; omega
def cntI (p : κ → Bool) (l : List κ) : Int := (l.countP p : Nat)
theorem iget_addAll (j : κ) (n : Int) : ∀ (ks : List κ) (m : List (κ × Int)), iget (addAll m ks n) j = iget m j + n * cntI (fun k => decide (j = k)) ks
  | [], m => by unfold addAll cntI; simp
  | k :: ks, m => by
    show iget (addAll (iadd m k n) ks n) j = _
    rw [iget_addAll j n ks, iget_iadd]
    unfold cntI
    rw [List.countP_cons]
    by_cases h : j = k
    · rw [if_pos h, decide_eq_true h, if_pos rfl]
      rw [show ((List.countP (fun k => decide (j = k)) ks + 1 : Nat) : Int) = (List.countP (fun k => decide (j = k)) ks : Nat) + 1 by omega, Int.mul_add]; omega
    · rw [if_neg h, decide_eq_false h]; simp
theorem sumIf_addAll (p : κ → Bool) (n : Int) : ∀ (ks : List κ) (m : List (κ × Int)), sumIf p (addAll m ks n) = sumIf p m + n * cntI p ks
  | [], m => by unfold addAll cntI; simp
  | k :: ks, m => by
    show sumIf p (addAll (iadd m k n) ks n) = _
    rw [sumIf_addAll p n ks, sumIf_iadd]
    unfold cntI
    rw [List.countP_cons]
    by_cases h : p k = true
    · rw [if_pos h]
      simp only [h, if_true]
      rw [show ((List.countP p ks + 1 : Nat) : Int) = (List.countP p ks : Nat) + 1 by omega, Int.mul_add]; omega
    · rw [if_neg h]; simp [h]
theorem iadd_key {m : List (κ × Int)} {k : κ} {n : Int} {x : κ} : x ∈ (iadd m k n).map (·.1) ↔ x = k ∨ x ∈ m.map (·.1) := iput_keys x
theorem addAll_key {n : Int} : ∀ {ks : List κ} {m : List (κ × Int)} {x : κ}, x ∈ (addAll m ks n).map (·.1) ↔ x ∈ ks ∨ x ∈ m.map (·.1)
  | [], m, x => by unfold addAll; simp
  | k :: ks, m, x => by
    show x ∈ (addAll (iadd m k n) ks n).map (·.1) ↔ _
    rw [addAll_key, iadd_key, List.mem_cons]
    exact ⟨by rintro (h | h | h) <;> simp [h], by rintro ((h | h) | h) <;> simp [h]⟩
def PosI (m : List (κ × Int)) : Prop := ∀ x ∈ m, 1 ≤ x.2
theorem PosI.get {m : List (κ × Int)} (h : PosI m) (k : κ) : 0 ≤ iget m k := by
  induction m with
  | nil => exact Int.le_refl _
  | cons x m ih =>
    rw [iget]
    split
    · have := h x (by simp); omega
    · exact ih fun y hy => h y (by simp [hy])
theorem PosI.add {m : List (κ × Int)} (h : PosI m) {k : κ} {n : Int} (hn : 1 ≤ n) : PosI (iadd m k n) := fun x hx => by
  rcases iput_mem hx with rfl | hx
  · have := h.get k
    dsimp only; omega
  · exact h x hx
theorem PosI.addAll {n : Int} (hn : 1 ≤ n) : ∀ {ks : List κ} {m : List (κ × Int)}, PosI m → PosI (addAll m ks n)
  | [], _, h => h
  | k :: ks, _, h => PosI.addAll hn (ks := ks) (h.add (k := k) hn)
theorem iget_mem {m : List (κ × Int)} (hn : (m.map (·.1)).Nodup) {x : κ × Int} (hx : x ∈ m) : iget m x.1 = x.2 := by
  induction m with
  | nil => simp at hx
  | cons y m ih =>
    have hn' := List.nodup_cons.1 hn
    rw [iget]
    rcases List.mem_cons.1 hx with rfl | hx
    · rw [if_pos rfl]
    · rw [if_neg (fun e => hn'.1 (List.mem_map.2 ⟨x, hx, e⟩))]
      exact ih hn'.2 hx
end
theorem pairs_in (k : ByteArray) : ∀ (a : ByteArray) (l : List ByteArray), cntI (fun x => decide (k = x)) (a :: l) = (if k = a then 1 else 0) + cntI (fun p : Pr => decide (k = p.2)) (pairsOf (a :: l))
  | a, [] => by
    unfold cntI pairsOf
    by_cases h : k = a <;> simp [h]
  | a, b :: l => by
    have ih := pairs_in k b l
    rw [pairsOf]
    unfold cntI at ih ⊢
    rw [List.countP_cons, List.countP_cons (p := fun p : Pr => decide (k = p.2))]
    by_cases h1 : k = a
    · by_cases h2 : k = b
      · simp only [h1, h2, decide_true, if_true] at ih ⊢; subst h1; subst h2; simp at ih ⊢; omega
      · subst h1; simp [h2] at ih ⊢; omega
    · by_cases h2 : k = b
      · subst h2; simp [h1] at ih ⊢; omega
      · simp [h1, h2] at ih ⊢; omega
theorem pairs_out (k : ByteArray) : ∀ (a : ByteArray) (l : List ByteArray) (z : ByteArray), (a :: l).getLast? = some z → cntI (fun x => decide (k = x)) (a :: l) = (if k = z then 1 else 0) + cntI (fun p : Pr => decide (k = p.1)) (pairsOf (a :: l))
  | a, [], z, hz => by
    simp at hz
    subst hz
    unfold cntI pairsOf
    by_cases h : k = a <;> simp [h]
  | a, b :: l, z, hz => by
    have ih := pairs_out k b l z (by rw [List.getLast?_cons_cons] at hz; exact hz)
    rw [pairsOf]
    unfold cntI at ih ⊢
    rw [List.countP_cons, List.countP_cons (p := fun p : Pr => decide (k = p.1))]
    by_cases h1 : k = a
    · subst h1; simp at ih ⊢; omega
    · simp [h1] at ih ⊢; omega
structure MInv (st : M4) : Prop where
  na : ∀ x ∈ st.a.map (·.1), isName x = true
  pa : PosI st.a
  ps : PosI st.s
  pf : PosI st.f
  pq : PosI st.q
  ks : ∀ x ∈ st.s.map (·.1), x ∈ st.a.map (·.1)
  kf : ∀ x ∈ st.f.map (·.1), x ∈ st.a.map (·.1)
  kq : ∀ x ∈ st.q.map (·.1), x.1 ∈ st.a.map (·.1) ∧ x.2 ∈ st.a.map (·.1)
  fin : ∀ k, iget st.s k + sumIf (fun p : Pr => decide (k = p.2)) st.q = iget st.a k
  fout : ∀ k, iget st.f k + sumIf (fun p : Pr => decide (k = p.1)) st.q = iget st.a k
theorem MInv.nil : MInv ⟨[], [], [], []⟩ := ⟨by simp, by simp [PosI], by simp [PosI], by simp [PosI], by simp [PosI], by simp, by simp, by simp, fun k => rfl, fun k => rfl⟩
theorem MInv.step {st : M4} {x : Var} (h : MInv st) (hx : okVar x = true) : MInv (mk1 st x) := by
  unfold okVar at hx
  simp only [Bool.and_eq_true, decide_eq_true_eq, List.all_eq_true] at hx
  obtain ⟨⟨⟨h1, h2⟩, h3⟩, h4⟩ := hx
  cases hw : x.acts with
  | nil =>
    have : mk1 st x = st := by unfold mk1; rw [hw]; rfl
    rw [this]; exact h
  | cons a l =>
    obtain ⟨z, hz⟩ : ∃ z, (a :: l).getLast? = some z := by
      cases hz : (a :: l).getLast? with
      | none => simp at hz
      | some z => exact ⟨z, rfl⟩
    have hzm : z ∈ a :: l := List.mem_of_getLast? hz
    have e : mk1 st x = ⟨addAll st.a (a :: l) x.count, iadd st.s a x.count, iadd st.f z x.count, addAll st.q (pairsOf (a :: l)) x.count⟩ := by unfold mk1; rw [hw, hz]
    rw [hw] at h2
    rw [e]
    refine ⟨fun k hk => ?_, h.pa.addAll h3, h.ps.add h3, h.pf.add h3, h.pq.addAll h3, fun k hk => ?_, fun k hk => ?_, fun k hk => ?_, fun k => ?_, fun k => ?_⟩
    · rcases addAll_key.1 hk with h5 | h5
      · exact h2 k h5
      · exact h.na k h5
    · rcases iadd_key.1 hk with rfl | h5
      · exact addAll_key.2 (.inl (by simp))
      · exact addAll_key.2 (.inr (h.ks k h5))
    · rcases iadd_key.1 hk with rfl | h5
      · exact addAll_key.2 (.inl hzm)
      · exact addAll_key.2 (.inr (h.kf k h5))
    · rcases addAll_key.1 hk with h5 | h5
      · have := pairs_mem h5
        exact ⟨addAll_key.2 (.inl this.1), addAll_key.2 (.inl this.2)⟩
      · have := h.kq k h5
        exact ⟨addAll_key.2 (.inr this.1), addAll_key.2 (.inr this.2)⟩
    · show iget (iadd st.s a x.count) k + sumIf _ (addAll st.q (pairsOf (a :: l)) x.count) = iget (addAll st.a (a :: l) x.count) k
      rw [iget_iadd, sumIf_addAll, iget_addAll, pairs_in, ← h.fin k, Int.mul_add]
      split <;> omega
    · show iget (iadd st.f z x.count) k + sumIf _ (addAll st.q (pairsOf (a :: l)) x.count) = iget (addAll st.a (a :: l) x.count) k
      rw [iget_iadd, sumIf_addAll, iget_addAll, pairs_out k a l z hz, ← h.fout k, Int.mul_add]
      split <;> omega
theorem MInv.all {l : List Var} (hl : ∀ x ∈ l, okVar x = true) : MInv (makeM l) := by
  have key : ∀ (l : List Var) (st : M4), (∀ x ∈ l, okVar x = true) → MInv st → MInv (l.foldl mk1 st) := fun l => by
    induction l with
    | nil => intro st _ h; exact h
    | cons x l ih => intro st hl h; exact ih _ (fun y hy => hl y (List.mem_cons_of_mem _ hy)) (h.step (hl x (List.mem_cons_self ..)))
  exact key l _ hl MInv.nil
theorem okVars {l : List Var} (h : validVars l = true) : ∀ x ∈ l, okVar x = true := fun x hx => by
  obtain ⟨i, hi⟩ := List.getElem?_of_mem hx
  exact validVars_at h hi
theorem kokVars {l : List Var} (h : validVars l = true) : KOk (makeM l) 60000 := by
  have hl : l.length ≤ 300 := by have h2 := h; simp only [validVars, Bool.and_eq_true, decide_eq_true_eq] at h2; exact h2.1
  have := KOk.all (okVars h) l.length (Nat.le_refl _)
  rw [List.take_length] at this
  exact ⟨this.a.mono (by omega), this.s.mono (by omega), this.f.mono (by omega), this.q.mono (by omega), this.k⟩
theorem sameC_mem {L : List Cnt} {m : List (ByteArray × Int)} (h : SameC L m) {c : Cnt} (hc : c ∈ L) : (c.name, c.n) ∈ m := by
  obtain ⟨x, hx, rfl⟩ := List.mem_map.1 (h.1.mem_iff.1 hc)
  exact hx
theorem sameF_mem {L : List Flw} {m : List (Pr × Int)} (h : SameF L m) {c : Flw} (hc : c ∈ L) : ((c.src, c.dst), c.n) ∈ m := by
  obtain ⟨x, hx, rfl⟩ := List.mem_map.1 (h.1.mem_iff.1 hc)
  exact hx
theorem sameC_name {L : List Cnt} {m : List (ByteArray × Int)} (h : SameC L m) {s : ByteArray} : s ∈ cnames L ↔ s ∈ m.map (·.1) := by
  unfold cnames
  rw [(h.1.map (·.name)).mem_iff, List.map_map]; rfl
theorem chain_of_pw {α : Type} {r : α → α → Bool} {l : List α} (h : l.Pairwise fun a b => r a b = true) : chainB r l = true := by
  refine (chainB_iff r l).2 fun i x y hx hy => ?_
  have h1 := lt_of_get hy
  have h2 := List.pairwise_iff_getElem.1 h i (i + 1) (by omega) h1 (by omega)
  rw [List.getElem?_eq_getElem (by omega)] at hx
  rw [List.getElem?_eq_getElem h1] at hy
  injection hx with hx
  injection hy with hy
  rw [← hx, ← hy]; exact h2
theorem sameC_chain {L : List Cnt} {m : List (ByteArray × Int)} (h : SameC L m) : chainB strLt (cnames L) = true := by
  refine chain_of_pw ?_
  unfold cnames
  exact List.pairwise_map.2 h.2
theorem counted_of {n : Int} (h1 : 1 ≤ n) (h2 : n ≤ 4503599627370496) : countedB n = true := by unfold countedB; rw [decide_eq_true h1, decide_eq_true h2]; rfl
theorem has_mem {l : List ByteArray} {s : ByteArray} (h : s ∈ l) : hasStr l s = true := hasStr_self h
theorem made_ok {st : M4} {b : Nat} {g : Dfg} (hK : KOk st b) (hb : b * 1048576 ≤ 4503599627370496) (hI : MInv st) (h40 : st.a.length ≤ 40) (h : SameG g st) : dfgOk g = true := by
  obtain ⟨hA, hS, hF, hQ⟩ := h
  have hal : (cnames g.acts).length ≤ 40 := by
    have := hA.1.length_eq
    rw [List.length_map] at this
    unfold cnames
    rw [List.length_map]; omega
  have cnt : ∀ {m : List (ByteArray × Int)} {L : List Cnt}, MOk m b → PosI m → SameC L m → L.all (fun c => countedB c.n) = true := fun hm hp hL => all_of fun c hc => by
    have h1 := sameC_mem hL hc
    have h2 := hp _ h1
    have h3 := (hm.bd _ h1).2
    dsimp only at h2 h3
    exact counted_of h2 (by omega)
  have asc : ∀ {m : List (ByteArray × Int)} {L : List Cnt}, (∀ x ∈ m.map (·.1), x ∈ st.a.map (·.1)) → SameC L m → ascB (cnames L) (cnames g.acts) = true := fun hk hL => by
    unfold ascB
    rw [sameC_chain hL, Bool.true_and]
    exact all_of fun s hs => has_mem ((sameC_name hA).2 (hk s ((sameC_name hL).1 hs)))
  unfold dfgOk
  rw [show alphaB (cnames g.acts) = true by
    unfold alphaB
    rw [decide_eq_true hal, sameC_chain hA, all_of fun s hs => hI.na s ((sameC_name hA).1 hs)]; rfl]
  rw [asc hI.ks hS, asc hI.kf hF, cnt hK.a hI.pa hA, cnt hK.s hI.ps hS, cnt hK.f hI.pf hF]
  rw [show g.follows.all (flwOk (cnames g.acts)) = true from all_of fun f hf => by
    have h1 := sameF_mem hQ hf
    have h2 := hI.pq _ h1
    have h3 := (hK.q.bd _ h1).2
    dsimp only at h2 h3
    have h4 := hI.kq (f.src, f.dst) (List.mem_map.2 ⟨_, h1, rfl⟩)
    unfold flwOk
    rw [counted_of h2 (by omega), has_mem ((sameC_name hA).2 h4.1), has_mem ((sameC_name hA).2 h4.2)]; rfl]
  rw [show chainB flwLt g.follows = true from chain_of_pw (hQ.2.imp fun h => decide_eq_true h)]; rfl
end Go.Proofs.YtebcjijpdhbcdaaGreat

namespace Go.Proofs.YtebcjijpdhbcdaaGreat
open Go.RowKit Go.Cb Go.En
set_option linter.all false
set_option maxRecDepth 100000



def g0 : Dfg := ⟨[], [], [], []⟩
theorem rr_zeroD : Rr zeroD (pDfg g0) := Rr.agg rfl fun i a b ha hb => by
  match i with
  | 0 => cases ha; cases hb; exact Rr.nil
  | 1 => cases ha; cases hb; exact Rr.nil
  | 2 => cases ha; cases hb; exact Rr.nil
  | 3 => cases ha; cases hb; exact Rr.nil
  | i + 4 => simp [zeroD] at ha
theorem rr_zeroDE (e : Int) : Rr (.tup [zeroD, pInt e]) (.tup [pDfg g0, pInt e]) := Rr.tup2 rr_zeroD
def MadeR (l : List Var) (g : Dfg) (e : Int) : Prop := (validVars l = false ∧ g = g0 ∧ e = 1) ∨ (validVars l = true ∧ 40 < (makeM l).a.length ∧ g = g0 ∧ e = 5) ∨ (validVars l = true ∧ (makeM l).a.length ≤ 40 ∧ SameG g (makeM l) ∧ e = 0)
theorem made_ex (l : List Var) : ∃ g e, MadeR l g e := by
  cases hv : validVars l with
  | false => exact ⟨g0, 1, .inl ⟨hv, rfl, rfl⟩⟩
  | true =>
    by_cases h : 40 < (makeM l).a.length
    · exact ⟨g0, 5, .inr (.inl ⟨hv, h, rfl, rfl⟩)⟩
    · obtain ⟨g, hg⟩ := exG (kokVars hv)
      exact ⟨g, 0, .inr (.inr ⟨hv, by omega, hg, rfl⟩)⟩
theorem made_af {f : Nat} {l : List Var} {g : Dfg} {e : Int} (h : AF Tryz.prog f [pVars l] (RMake l)) (hm : MadeR l g e) : AF Tryz.prog f [pVars l] (· = .tup [pDfg g, pInt e]) := by
  rcases hm with ⟨h1, rfl, rfl⟩ | ⟨h1, h2, rfl, rfl⟩ | ⟨h1, h2, h3, rfl⟩
  · refine AF.reread (p := .tup [zeroD, pInt 1]) (h.mono fun p hp => ?_) rfl (rr_zeroDE 1)
    rcases hp with ⟨_, hp⟩ | ⟨h4, _⟩ | ⟨h4, _⟩
    · exact hp
    · rw [h1] at h4; cases h4
    · rw [h1] at h4; cases h4
  · refine AF.reread (p := .tup [zeroD, pInt 5]) (h.mono fun p hp => ?_) rfl (rr_zeroDE 5)
    rcases hp with ⟨h4, _⟩ | ⟨_, _, hp⟩ | ⟨_, h4, _⟩
    · rw [h1] at h4; cases h4
    · exact hp
    · omega
  · refine h.mono fun p hp => ?_
    rcases hp with ⟨h4, _⟩ | ⟨_, h4, _⟩ | ⟨_, _, g', h4, hp⟩
    · rw [h1] at h4; cases h4
    · omega
    · rw [hp, sameG_unique h4 h3]
theorem made_gok {l : List Var} {g : Dfg} (h : MadeR l g 0) : dfgOk g = true ∧ validVars l = true ∧ SameG g (makeM l) := by
  rcases h with ⟨_, _, h⟩ | ⟨_, _, _, h⟩ | ⟨h1, h2, h3, _⟩
  · cases h
  · cases h
  · exact ⟨made_ok (kokVars h1) (by decide) (MInv.all (okVars h1)) h2 h3, h1, h3⟩
theorem hasStr_mem' {l : List ByteArray} {s : ByteArray} (h : hasStr l s = true) : s ∈ l := by
  unfold hasStr at h
  obtain ⟨x, hx, hs⟩ := List.any_eq_true.1 h
  rw [← strEq_iff.1 hs]; exact hx
theorem dfg_fit {g : Dfg} (h : dfgOk g = true) : fitD g ∧ g.acts.length ≤ 1000000 ∧ g.starts.length ≤ 1000000 ∧ g.ends.length ≤ 1000000 ∧ g.follows.length ≤ 1000000 := by
  have hG := gok_of h
  have h40 := hG.n40
  have h1 := cnt_few hG hG.st hG.stA
  have h2 := cnt_few hG hG.en hG.enA
  have h3 := hG.flen
  unfold dfgOk alphaB at h
  simp only [Bool.and_eq_true, List.all_eq_true] at h
  obtain ⟨⟨⟨⟨⟨⟨⟨⟨⟨g1, g2⟩, g3⟩, g4⟩, g5⟩, g6⟩, g7⟩, g8⟩, g9⟩, g10⟩ := h
  have nm : ∀ s, hasStr (cnames g.acts) s = true → s.size ≤ 140737488355328 := fun s hs => by
    have := name_sz (g2 s (hasStr_mem' hs))
    omega
  have ct : ∀ n, countedB n = true → -9223372036854775808 ≤ n ∧ n ≤ 9223372036854775807 := fun n hn => by
    unfold countedB at hn
    simp only [Bool.and_eq_true, decide_eq_true_eq] at hn
    omega
  refine ⟨⟨⟨by omega, fun c hc => ⟨nm _ (has_mem (List.mem_map.2 ⟨c, hc, rfl⟩)), ct _ (g6 c hc)⟩⟩, ⟨by omega, fun c hc => ⟨nm _ (hG.st c hc), ct _ (g7 c hc)⟩⟩, ⟨by omega, fun c hc => ⟨nm _ (hG.en c hc), ct _ (g8 c hc)⟩⟩, ⟨by omega, fun c hc => ?_⟩⟩, by omega, by omega, by omega, by omega⟩
  have h5 := g9 c hc
  unfold flwOk at h5
  simp only [Bool.and_eq_true] at h5
  exact ⟨nm _ (hG.fl c hc).1, nm _ (hG.fl c hc).2, ct _ h5.1.1⟩
theorem cntEq_self (c : Cnt) : cntEq c c = true := by unfold cntEq; simp
theorem flwEq_self (c : Flw) : flwEq c c = true := by unfold flwEq; simp
theorem allEq_self {α : Type} {e : α → α → Bool} (h : ∀ x, e x x = true) (l : List α) : allEq e l l = true := allEq_end fun j x y hx hy => by rw [hx] at hy; cases hy; exact h x
theorem dfgEq_self (g : Dfg) : dfgEq g g = true := by
  unfold dfgEq cntsEq flwsEq
  rw [allEq_self cntEq_self, allEq_self cntEq_self, allEq_self cntEq_self, allEq_self flwEq_self]
  simp
theorem made_len {l : List Var} {g : Dfg} {e : Int} (h : MadeR l g e) : g.follows.length ≤ 1000000 := by
  rcases h with ⟨_, rfl, _⟩ | ⟨_, _, rfl, _⟩ | ⟨h1, h2, h3, _⟩
  · exact Nat.zero_le _
  · exact Nat.zero_le _
  · have := (kokVars h1).q.len
    have h4 := h3.2.2.2.1.length_eq
    rw [List.length_map] at h4
    omega
end Go.Proofs.YtebcjijpdhbcdaaGreat

namespace Go.Proofs.YtebcjijpdhbcdaaGreat
open Go.RowKit Go.Cb Go.En Go.ChangeShapes Go.WideShapes Go.ChangeAt
set_option linter.all false
set_option maxRecDepth 100000



theorem dStr : Dec Tryz.prog 9 1 (fun s : ByteArray => [pStr s]) (fun s => s.size ≤ 140737488355328) := dec_str Tryz.underlying9 (by kernel_rfl)
theorem dStrs : Dec Tryz.prog 51 1 (fun l => [pStrs l]) fitS :=
  dec_map id (dec_slice Tryz.underlying51 (by kernel_rfl) (by decide) (Nat.le_of_ble_eq_true (by kernel_rfl)) dStr) (fun _ => rfl) (fun l => by show [PV.sl l.length (l.map pStr)] = _; rw [flat_one]) (fun _ h => h)
theorem dInt : Dec Tryz.prog 3 1 (fun n : Int => [pInt n]) (fun n => -9223372036854775808 ≤ n ∧ n ≤ 9223372036854775807) := dec_int Tryz.underlying3 (by kernel_rfl)
theorem dVar : Dec Tryz.prog 60 2 cVar (fun x => fitS x.acts ∧ -9223372036854775808 ≤ x.count ∧ x.count ≤ 9223372036854775807) :=
  dec_map (fun x => ⟨x.1, x.2⟩) (dec_struct2 Tryz.underlying60 (by kernel_rfl) dStrs dInt rfl rfl) (fun _ => rfl) (fun _ => rfl) (fun _ h => h)
theorem dVars : Dec Tryz.prog 22 1 (fun l => [pVars l]) fitV :=
  dec_map id (dec_slice Tryz.underlying22 (by kernel_rfl) (by decide) (Nat.le_of_ble_eq_true (by kernel_rfl)) dVar) (fun _ => rfl) (fun _ => rfl) (fun _ h => h)
end Go.Proofs.YtebcjijpdhbcdaaGreat
