/-
  Plain laws: what the counters of variants hold: names, positive numbers, and what goes in comes out. No program in sight.
  What Make and its reference hand back; graphs are equal to themselves.
  How the arguments of the laws read (layer 17).
-/
import Derived.Test.YtebcjijpdhbcdaaGreatLi
import Derived.Test.YtebcjijpdhbcdaaGreatLe
import Derived.Test.YtebcjijpdhbcdaaGreatLm
import Derived.Test.YtebcjijpdhbcdaaGreatLj
import Derived.Test.YtebcjijpdhbcdaaGreatEngc
import Derived.Test.YtebcjijpdhbcdaaGreatEngb
namespace Go.Proofs.YtebcjijpdhbcdaaGreat
open Go.RowKit Go.Cb Go.En
set_option linter.all false

section
variable {κ : Type} [DecidableEq κ]
theorem iget_iadd (m : List (κ × Int)) (k j : κ) (n : Int) : iget (iadd m k n) j = iget m j + if j = k then n else 0 := by
  induction m with
  | nil =>
    show iget [(k, 0 + n)] j = 0 + _
    unfold iget iget
    split <;> simp_all
  | cons x m ih =>
    rw [iadd_cons]
    by_cases h : k = x.1
    · rw [if_pos h]
      subst h
      rw [iget, iget]
      by_cases hj : j = x.1
      · rw [if_pos hj, if_pos hj, if_pos hj]
      · rw [if_neg hj, if_neg hj, if_neg hj]; omega
    · rw [if_neg h, iget, iget]
      by_cases hj : j = x.1
      · rw [if_pos hj, if_pos hj, if_neg (fun e => h (e.symm.trans hj))]; omega
      · rw [if_neg hj, if_neg hj]; exact ih
def sumIf (p : κ → Bool) (m : List (κ × Int)) : Int := (m.map fun x => if p x.1 then x.2 else 0).sum
theorem sumIf_cons (p : κ → Bool) (x : κ × Int) (m : List (κ × Int)) : sumIf p (x :: m) = (if p x.1 then x.2 else 0) + sumIf p m := by unfold sumIf; rw [List.map_cons, List.sum_cons]
theorem sumIf_iadd (p : κ → Bool) (m : List (κ × Int)) (k : κ) (n : Int) : sumIf p (iadd m k n) = sumIf p m + if p k then n else 0 := by
  induction m with
  | nil =>
    show sumIf p [(k, 0 + n)] = 0 + _
    rw [sumIf_cons]
    unfold sumIf
    simp
  | cons x m ih =>
    rw [iadd_cons]
    by_cases h : k = x.1
    · rw [if_pos h, sumIf_cons, sumIf_cons]
      subst h
      dsimp only
      split <;> omega
    · rw [if_neg h, sumIf_cons, sumIf_cons, ih]; omega
def cntI (p : κ → Bool) (l : List κ) : Int := (l.countP p : Nat)
theorem iget_addAll (j : κ) (n : Int) : ∀ (ks : List κ) (m : List (κ × Int)), iget (addAll m ks n) j = iget m j + n * cntI (fun k => decide (j = k)) ks
  | [], m => by unfold addAll cntI; simp
  | k :: ks, m => by
    show iget (addAll (iadd m k n) ks n) j = _
    rw [iget_addAll j n ks, iget_iadd]
    unfold cntI
    rw [List.countP_cons]
    by_cases h : j = k
    · rw [if_pos h, decide_eq_true h, if_pos rfl]
      rw [show ((List.countP (fun k => decide (j = k)) ks + 1 : Nat) : Int) = (List.countP (fun k => decide (j = k)) ks : Nat) + 1 by omega, Int.mul_add]; omega
    · rw [if_neg h, decide_eq_false h]; simp
theorem sumIf_addAll (p : κ → Bool) (n : Int) : ∀ (ks : List κ) (m : List (κ × Int)), sumIf p (addAll m ks n) = sumIf p m + n * cntI p ks
  | [], m => by unfold addAll cntI; simp
  | k :: ks, m => by
    show sumIf p (addAll (iadd m k n) ks n) = _
    rw [sumIf_addAll p n ks, sumIf_iadd]
    unfold cntI
    rw [List.countP_cons]
    by_cases h : p k = true
    · rw [if_pos h]
      simp only [h, if_true]
      rw [show ((List.countP p ks + 1 : Nat) : Int) = (List.countP p ks : Nat) + 1 by omega, Int.mul_add]; omega
    · rw [if_neg h]; simp [h]
theorem iadd_key {m : List (κ × Int)} {k : κ} {n : Int} {x : κ} : x ∈ (iadd m k n).map (·.1) ↔ x = k ∨ x ∈ m.map (·.1) := iput_keys x
theorem addAll_key {n : Int} : ∀ {ks : List κ} {m : List (κ × Int)} {x : κ}, x ∈ (addAll m ks n).map (·.1) ↔ x ∈ ks ∨ x ∈ m.map (·.1)
  | [], m, x => by unfold addAll; simp
  | k :: ks, m, x => by
    show x ∈ (addAll (iadd m k n) ks n).map (·.1) ↔ _
    rw [addAll_key, iadd_key, List.mem_cons]
    exact ⟨by rintro (h | h | h) <;> simp [h], by rintro ((h | h) | h) <;> simp [h]⟩
def PosI (m : List (κ × Int)) : Prop := ∀ x ∈ m, 1 ≤ x.2
theorem PosI.get {m : List (κ × Int)} (h : PosI m) (k : κ) : 0 ≤ iget m k := by
  induction m with
  | nil => exact Int.le_refl _
  | cons x m ih =>
    rw [iget]
    split
    · have := h x (by simp); omega
    · exact ih fun y hy => h y (by simp [hy])
theorem PosI.add {m : List (κ × Int)} (h : PosI m) {k : κ} {n : Int} (hn : 1 ≤ n) : PosI (iadd m k n) := fun x hx => by
  rcases iput_mem hx with rfl | hx
  · have := h.get k
    dsimp only; omega
  · exact h x hx
theorem PosI.addAll {n : Int} (hn : 1 ≤ n) : ∀ {ks : List κ} {m : List (κ × Int)}, PosI m → PosI (addAll m ks n)
  | [], _, h => h
  | k :: ks, _, h => PosI.addAll hn (ks := ks) (h.add (k := k) hn)
theorem iget_mem {m : List (κ × Int)} (hn : (m.map (·.1)).Nodup) {x : κ × Int} (hx : x ∈ m) : iget m x.1 = x.2 := by
  induction m with
  | nil => simp at hx
  | cons y m ih =>
    have hn' := List.nodup_cons.1 hn
    rw [iget]
    rcases List.mem_cons.1 hx with rfl | hx
    · rw [if_pos rfl]
    · rw [if_neg (fun e => hn'.1 (List.mem_map.2 ⟨x, hx, e⟩))]
      exact ih hn'.2 hx
end
theorem pairs_in (k : ByteArray) : ∀ (a : ByteArray) (l : List ByteArray), cntI (fun x => decide (k = x)) (a :: l) = (if k = a then 1 else 0) + cntI (fun p : Pr => decide (k = p.2)) (pairsOf (a :: l))
  | a, [] => by
    unfold cntI pairsOf
    by_cases h : k = a <;> simp [h]
  | a, b :: l => by
    have ih := pairs_in k b l
    rw [pairsOf]
    unfold cntI at ih ⊢
    rw [List.countP_cons, List.countP_cons (p := fun p : Pr => decide (k = p.2))]
    by_cases h1 : k = a
    · by_cases h2 : k = b
      · simp only [h1, h2, decide_true, if_true] at ih ⊢; subst h1; subst h2; simp at ih ⊢; omega
      · subst h1; simp [h2] at ih ⊢; omega
    · by_cases h2 : k = b
      · subst h2; simp [h1] at ih ⊢; omega
      · simp [h1, h2] at ih ⊢; omega
theorem pairs_out (k : ByteArray) : ∀ (a : ByteArray) (l : List ByteArray) (z : ByteArray), (a :: l).getLast? = some z → cntI (fun x => decide (k = x)) (a :: l) = (if k = z then 1 else 0) + cntI (fun p : Pr => decide (k = p.1)) (pairsOf (a :: l))
  | a, [], z, hz => by
    simp at hz
    subst hz
    unfold cntI pairsOf
    by_cases h : k = a <;> simp [h]
  | a, b :: l, z, hz => by
    have ih := pairs_out k b l z (by rw [List.getLast?_cons_cons] at hz; exact hz)
    rw [pairsOf]
    unfold cntI at ih ⊢
    rw [List.countP_cons, List.countP_cons (p := fun p : Pr => decide (k = p.1))]
    by_cases h1 : k = a
    · subst h1; simp at ih ⊢; omega
    · simp [h1] at ih ⊢; omega
structure MInv (st : M4) : Prop where
  na : ∀ x ∈ st.a.map (·.1), isName x = true
  pa : PosI st.a
  ps : PosI st.s
  pf : PosI st.f
  pq : PosI st.q
  ks : ∀ x ∈ st.s.map (·.1), x ∈ st.a.map (·.1)
  kf : ∀ x ∈ st.f.map (·.1), x ∈ st.a.map (·.1)
  kq : ∀ x ∈ st.q.map (·.1), x.1 ∈ st.a.map (·.1) ∧ x.2 ∈ st.a.map (·.1)
  fin : ∀ k, iget st.s k + sumIf (fun p : Pr => decide (k = p.2)) st.q = iget st.a k
  fout : ∀ k, iget st.f k + sumIf (fun p : Pr => decide (k = p.1)) st.q = iget st.a k
theorem MInv.nil : MInv ⟨[], [], [], []⟩ := ⟨by simp, by simp [PosI], by simp [PosI], by simp [PosI], by simp [PosI], by simp, by simp, by simp, fun k => rfl, fun k => rfl⟩
theorem MInv.step {st : M4} {x : Var} (h : MInv st) (hx : okVar x = true) : MInv (mk1 st x) := by
  unfold okVar at hx
  simp only [Bool.and_eq_true, decide_eq_true_eq, List.all_eq_true] at hx
  obtain ⟨⟨⟨h1, h2⟩, h3⟩, h4⟩ := hx
  cases hw : x.acts with
  | nil =>
    have : mk1 st x = st := by unfold mk1; rw [hw]; rfl
    rw [this]; exact h
  | cons a l =>
    obtain ⟨z, hz⟩ : ∃ z, (a :: l).getLast? = some z := by
      cases hz : (a :: l).getLast? with
      | none => simp at hz
      | some z => exact ⟨z, rfl⟩
    have hzm : z ∈ a :: l := List.mem_of_getLast? hz
    have e : mk1 st x = ⟨addAll st.a (a :: l) x.count, iadd st.s a x.count, iadd st.f z x.count, addAll st.q (pairsOf (a :: l)) x.count⟩ := by unfold mk1; rw [hw, hz]
    rw [hw] at h2
    rw [e]
    refine ⟨fun k hk => ?_, h.pa.addAll h3, h.ps.add h3, h.pf.add h3, h.pq.addAll h3, fun k hk => ?_, fun k hk => ?_, fun k hk => ?_, fun k => ?_, fun k => ?_⟩
    · rcases addAll_key.1 hk with h5 | h5
      · exact h2 k h5
      · exact h.na k h5
    · rcases iadd_key.1 hk with rfl | h5
      · exact addAll_key.2 (.inl (by simp))
      · exact addAll_key.2 (.inr (h.ks k h5))
    · rcases iadd_key.1 hk with rfl | h5
      · exact addAll_key.2 (.inl hzm)
      · exact addAll_key.2 (.inr (h.kf k h5))
    · rcases addAll_key.1 hk with h5 | h5
      · have := pairs_mem h5
        exact ⟨addAll_key.2 (.inl this.1), addAll_key.2 (.inl this.2)⟩
      · have := h.kq k h5
        exact ⟨addAll_key.2 (.inr this.1), addAll_key.2 (.inr this.2)⟩
    · show iget (iadd st.s a x.count) k + sumIf _ (addAll st.q (pairsOf (a :: l)) x.count) = iget (addAll st.a (a :: l) x.count) k
      rw [iget_iadd, sumIf_addAll, iget_addAll, pairs_in, ← h.fin k, Int.mul_add]
      split <;> omega
    · show iget (iadd st.f z x.count) k + sumIf _ (addAll st.q (pairsOf (a :: l)) x.count) = iget (addAll st.a (a :: l) x.count) k
      rw [iget_iadd, sumIf_addAll, iget_addAll, pairs_out k a l z hz, ← h.fout k, Int.mul_add]
      split <;> omega
theorem MInv.all {l : List Var} (hl : ∀ x ∈ l, okVar x = true) : MInv (makeM l) := by
  have key : ∀ (l : List Var) (st : M4), (∀ x ∈ l, okVar x = true) → MInv st → MInv (l.foldl mk1 st) := fun l => by
    induction l with
    | nil => intro st _ h; exact h
    | cons x l ih => intro st hl h; exact ih _ (fun y hy => hl y (List.mem_cons_of_mem _ hy)) (h.step (hl x (List.mem_cons_self ..)))
  exact key l _ hl MInv.nil
theorem has_mem {l : List ByteArray} {s : ByteArray} (h : s ∈ l) : hasStr l s = true := hasStr_self h
end Go.Proofs.YtebcjijpdhbcdaaGreat

namespace Go.Proofs.YtebcjijpdhbcdaaGreat
open Go.RowKit Go.Cb Go.En
set_option linter.all false
set_option maxRecDepth 100000



def g0 : Dfg := ⟨[], [], [], []⟩
theorem hasStr_mem' {l : List ByteArray} {s : ByteArray} (h : hasStr l s = true) : s ∈ l := by
  unfold hasStr at h
  obtain ⟨x, hx, hs⟩ := List.any_eq_true.1 h
  rw [← strEq_iff.1 hs]; exact hx
theorem dfg_fit {g : Dfg} (h : dfgOk g = true) : fitD g ∧ g.acts.length ≤ 1000000 ∧ g.starts.length ≤ 1000000 ∧ g.ends.length ≤ 1000000 ∧ g.follows.length ≤ 1000000 := by
  have hG := gok_of h
  have h40 := hG.n40
  have h1 := cnt_few hG hG.st hG.stA
  have h2 := cnt_few hG hG.en hG.enA
  have h3 := hG.flen
  unfold dfgOk alphaB at h
  simp only [Bool.and_eq_true, List.all_eq_true] at h
  obtain ⟨⟨⟨⟨⟨⟨⟨⟨⟨g1, g2⟩, g3⟩, g4⟩, g5⟩, g6⟩, g7⟩, g8⟩, g9⟩, g10⟩ := h
  have nm : ∀ s, hasStr (cnames g.acts) s = true → s.size ≤ 140737488355328 := fun s hs => by
    have := name_sz (g2 s (hasStr_mem' hs))
    omega
  have ct : ∀ n, countedB n = true → -9223372036854775808 ≤ n ∧ n ≤ 9223372036854775807 := fun n hn => by
    unfold countedB at hn
    simp only [Bool.and_eq_true, decide_eq_true_eq] at hn
    omega
  refine ⟨⟨⟨by omega, fun c hc => ⟨nm _ (has_mem (List.mem_map.2 ⟨c, hc, rfl⟩)), ct _ (g6 c hc)⟩⟩, ⟨by omega, fun c hc => ⟨nm _ (hG.st c hc), ct _ (g7 c hc)⟩⟩, ⟨by omega, fun c hc => ⟨nm _ (hG.en c hc), ct _ (g8 c hc)⟩⟩, ⟨by omega, fun c hc => ?_⟩⟩, by omega, by omega, by omega, by omega⟩
  have h5 := g9 c hc
  unfold flwOk at h5
  simp only [Bool.and_eq_true] at h5
  exact ⟨nm _ (hG.fl c hc).1, nm _ (hG.fl c hc).2, ct _ h5.1.1⟩
end Go.Proofs.YtebcjijpdhbcdaaGreat

namespace Go.Proofs.YtebcjijpdhbcdaaGreat
open Go.RowKit Go.Cb Go.En Go.ChangeShapes Go.WideShapes Go.ChangeAt
set_option linter.all false
set_option maxRecDepth 100000



theorem dStr : Dec Tryz.prog 9 1 (fun s : ByteArray => [pStr s]) (fun s => s.size ≤ 140737488355328) := dec_str Tryz.underlying9 (by kernel_rfl)
theorem dInt : Dec Tryz.prog 3 1 (fun n : Int => [pInt n]) (fun n => -9223372036854775808 ≤ n ∧ n ≤ 9223372036854775807) := dec_int Tryz.underlying3 (by kernel_rfl)
theorem dCnt : Dec Tryz.prog 44 2 cCnt (fun x => x.name.size ≤ 140737488355328 ∧ -9223372036854775808 ≤ x.n ∧ x.n ≤ 9223372036854775807) :=
  dec_map (fun x => ⟨x.1, x.2⟩) (dec_struct2 Tryz.underlying44 (by kernel_rfl) dStr dInt rfl rfl) (fun _ => rfl) (fun _ => rfl) (fun _ h => h)
theorem dCnts : Dec Tryz.prog 25 1 (fun l => [pCnts l]) fitCnt :=
  dec_map id (dec_slice Tryz.underlying25 (by kernel_rfl) (by decide) (Nat.le_of_ble_eq_true (by kernel_rfl)) dCnt) (fun _ => rfl) (fun _ => rfl) (fun _ h => h)
theorem dFlw : Dec Tryz.prog 47 3 cFlw (fun x => x.src.size ≤ 140737488355328 ∧ x.dst.size ≤ 140737488355328 ∧ -9223372036854775808 ≤ x.n ∧ x.n ≤ 9223372036854775807) :=
  dec_map (fun x => ⟨x.1, x.2.1, x.2.2⟩) (dec_struct3 Tryz.underlying47 (by kernel_rfl) dStr dStr dInt rfl rfl rfl) (fun _ => rfl) (fun _ => rfl) (fun _ h => h)
theorem dFlws : Dec Tryz.prog 26 1 (fun l => [pFlws l]) fitFlw :=
  dec_map id (dec_slice Tryz.underlying26 (by kernel_rfl) (by decide) (Nat.le_of_ble_eq_true (by kernel_rfl)) dFlw) (fun _ => rfl) (fun _ => rfl) (fun _ h => h)
theorem dDfg : Dec Tryz.prog 28 4 (fun g : Dfg => [pCnts g.acts, pCnts g.starts, pCnts g.ends, pFlws g.follows]) fitD :=
  dec_map (fun x : List Cnt × List Cnt × List Cnt × List Flw => (⟨x.1, x.2.1, x.2.2.1, x.2.2.2⟩ : Dfg)) (dec_struct4 Tryz.underlying28 (by kernel_rfl) dCnts dCnts dCnts dFlws rfl rfl rfl rfl) (fun _ => rfl) (fun _ => rfl) (fun _ h => h)
end Go.Proofs.YtebcjijpdhbcdaaGreat
