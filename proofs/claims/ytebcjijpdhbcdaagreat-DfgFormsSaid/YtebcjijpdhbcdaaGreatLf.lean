/-
  Walks: slices.Clone and slices.DeleteFunc over counts and follows.
  Walks: slices.Clone over counts and follows; dfg.Threshold.
  Walks: dfg.Threshold.
-/
import Derived.Test.YtebcjijpdhbcdaaGreatLe
import Derived.Test.YtebcjijpdhbcdaaGreatEngc
namespace Go.Proofs.YtebcjijpdhbcdaaGreat
open Go.RowKit Go.Cb Go.En
set_option linter.all false
set_option maxRecDepth 100000

theorem tAgg44_LdF : AggT Tryz.prog 44 2 = true := by kernel_rfl
theorem tAgg47_LdF : AggT Tryz.prog 47 3 = true := by kernel_rfl
theorem tEl25_LdF : ElT Tryz.prog 25 44 2 24 (.agg #[(.string ByteArray.empty), (.int .i64 0)]) := ⟨Tryz.underlying25, by kernel_rfl, rfl, by decide⟩
theorem tEl26_LdF : ElT Tryz.prog 26 47 3 40 (.agg #[(.string ByteArray.empty), (.string ByteArray.empty), (.int .i64 0)]) := ⟨Tryz.underlying26, by kernel_rfl, rfl, by decide⟩
theorem tSl25_LdF : SlT Tryz.prog 25 44 2 = true := by kernel_rfl
theorem tSl26_LdF : SlT Tryz.prog 26 47 3 = true := by kernel_rfl
theorem tZr44_LdF : ZeroT Tryz.prog 44 (.agg #[(.string ByteArray.empty), (.int .i64 0)]) := by unfold ZeroT; kernel_rfl
theorem tZr47_LdF : ZeroT Tryz.prog 47 (.agg #[(.string ByteArray.empty), (.string ByteArray.empty), (.int .i64 0)]) := by unfold ZeroT; kernel_rfl

theorem setL_at {α : Type} : ∀ (ps : List PV) (a b c : List PV) (j : Nat), a.length = j → b.length = ps.length → setL (a ++ b ++ c) j ps = a ++ ps ++ c
  | [], a, b, c, j, ha, hb => by
    have : b = [] := List.eq_nil_of_length_eq_zero hb
    subst this; rfl
  | p :: ps, a, x :: b, c, j, ha, hb => by
    rw [setL]
    have h1 : (a ++ (x :: b) ++ c).set j p = (a ++ [p]) ++ b ++ c := by
      subst ha
      rw [List.append_assoc, List.set_append_right _ _ (Nat.le_refl _), Nat.sub_self]
      simp
    rw [h1, setL_at (α := α) ps (a ++ [p]) b c (j + 1) (by simp [ha]) (by simpa using hb)]
    simp
def keptF {α : Type} (p : α → Bool) (l : List α) (k : Nat) : List α := (l.take k).filter fun s => !p s
theorem keptF_yes {α : Type} {p : α → Bool} {l : List α} {k : Nat} {x : α} (hx : l[k]? = some x) (h : p x = true) : keptF p l (k + 1) = keptF p l k := by
  unfold keptF; rw [take_snoc hx, List.filter_append]; simp [h]
theorem keptF_no {α : Type} {p : α → Bool} {l : List α} {k : Nat} {x : α} (hx : l[k]? = some x) (h : p x = false) : keptF p l (k + 1) = keptF p l k ++ [x] := by
  unfold keptF; rw [take_snoc hx, List.filter_append]; simp [h]
theorem keptF_le {α : Type} (p : α → Bool) (l : List α) (k : Nat) : (keptF p l k).length ≤ k := by
  unfold keptF
  have h1 := List.length_filter_le (fun s => !p s) (l.take k)
  rw [List.length_take] at h1
  omega
def rowF {α : Type} (p : α → Bool) (l : List α) (k : Nat) : List α := keptF p l k ++ l.drop (keptF p l k).length
theorem rowF_at {α : Type} {p : α → Bool} {l : List α} {k : Nat} {x : α} (hx : l[k]? = some x) : (rowF p l k)[k]? = some x := by
  have h := keptF_le p l k
  unfold rowF
  rw [List.getElem?_append_right h, List.getElem?_drop, show (keptF p l k).length + (k - (keptF p l k).length) = k by omega]
  exact hx
theorem rowF_len {α : Type} (p : α → Bool) (l : List α) {k : Nat} (hk : k ≤ l.length) : (rowF p l k).length = l.length := by
  have h := keptF_le p l k
  unfold rowF
  rw [List.length_append, List.length_drop]; omega
theorem rowF_set {α : Type} {f : α → List PV} {m : Nat} (hf : ∀ x, (f x).length = m) {p : α → Bool} {l : List α} {k : Nat} {x : α} (hx : l[k]? = some x) (h : p x = false) :
    setL ((rowF p l k).flatMap f) ((keptF p l k).length * m) (f x) = (rowF p l (k + 1)).flatMap f := by
  have hl := keptF_le p l k
  have hlt := lt_of_get hx
  unfold rowF
  rw [keptF_no hx h, List.length_append, List.length_singleton, List.drop_eq_getElem_cons (show (keptF p l k).length < l.length by omega)]
  rw [List.flatMap_append, List.flatMap_cons, ← List.append_assoc, setL_at (α := α) _ _ _ _ _ (flat_len hf _) (by rw [hf, hf]), List.flatMap_append, List.flatMap_append]
  simp
theorem idx_nat {α : Type} {p : α → Bool} {l : List α} : (idx p l = -1 ∧ ∀ s ∈ l, p s = false) ∨ ∃ i x, idx p l = (i : Nat) ∧ l[i]? = some x ∧ p x = true ∧ ∀ j y, j < i → l[j]? = some y → p y = false := by
  unfold idx
  cases h : l.findIdx? p with
  | none => exact .inl ⟨rfl, by rw [List.findIdx?_eq_none_iff] at h; exact h⟩
  | some i =>
    rw [List.findIdx?_eq_some_iff_getElem] at h
    obtain ⟨hi, hp, hn⟩ := h
    exact .inr ⟨i, l[i], rfl, by simp, hp, fun j y hj hy => by
      have := hn j hj
      obtain ⟨hj', rfl⟩ := List.getElem?_eq_some_iff.1 hy
      simpa using this⟩
theorem keptF_all {α : Type} {p : α → Bool} {l : List α} {k : Nat} (h : ∀ j y, j < k → l[j]? = some y → p y = false) : keptF p l k = l.take k := by
  unfold keptF
  rw [List.filter_eq_self]
  intro a ha
  obtain ⟨i, hi, rfl⟩ := List.getElem_of_mem ha
  rw [List.length_take] at hi
  have := h i _ (by omega) (by rw [List.getElem?_eq_getElem (by omega : i < l.length)])
  simp [List.getElem_take, this]

theorem delCount_e (f : Nat) (caps : List PV) (p : Cnt → Bool) (l : List Cnt) (hl : l.length ≤ 1000000) (hv g : Value) (hc : ∀ args w, (callFunc f args).run Tryz.prog w = .ok (.enter f args) w) (hf : ∀ s ∈ l, AF Tryz.prog f (.agg (cCnt s) :: caps) (· = pBool (p s))) :
    AFh False Tryz.prog 69 [(0, hv, .val hv), (1, g, .fn f caps)] [(1000, hv, .own 44 2 l.length (l.flatMap cCnt))] (fun v q h => q = .val v ∧ h = [(1000, v, .own 44 2 (l.filter fun s => !p s).length ((l.filter fun s => !p s).flatMap cCnt))]) := by
  refine AFh.of_body 42 Tryz.func69 rfl Tryz.ntmps69 (Nat.le_of_ble_eq_true rfl) rfl ?_
  intro w0 M0 N0
  have hq := share_cntsD 44 l.length l rfl
  refine nav ?_
  (refine aC_region ?_
    <;> refine xL 4 q_assign ?_
    <;> refine aL_end (nav ?_) <;> try dsimp only)
  (refine aC_region ?_
    <;> refine xL 8 q_move ?_
    <;> refine xL 9 q_move ?_
    <;> (refine cS 10 (cB rfl Tryz.call99 (indexFuncCount_e f caps p l hc hf) ⟨⟨_, _, rfl, hq ▸ reads_own (l := 1000) rfl⟩, ⟨_, _, rfl, reads_slot (x := .tmp 9) rfl⟩, trivial⟩) fun v10 hv10 => ?_; cases hv10)
    <;> refine xL 5 q_assign ?_
    <;> refine aL_end (nav ?_) <;> try dsimp only)
  (refine aC_region ?_
    <;> refine xL 11 q_move ?_
    <;> refine xL 12 q_eql ?_
    <;> refine aL_end (nav ?_) <;> try dsimp only)
  first | refine cCd (fun hb12 => ?_) (fun hb12 => ?_) | refine cC (fun hb12 => ?_) (fun hb12 => ?_)
  · first
    | exact Bool.noConfusion hb12
    | (
     refine nav ?_
     (refine aC_region ?_
       <;> refine xL 13 q_move ?_
       <;> refine xL 4 q_assign ?_
       <;> refine aL_end (nav ?_) <;> try dsimp only)
     refine ret_h [(1000, hv, PV.own 44 2 l.length (l.flatMap cCnt))] (Tryz.results69) rfl ⟨rfl, trivial⟩ ⟨rfl, ?_⟩
     rw [List.filter_eq_self.2 fun s hs => ?_]
     rcases idx_nat (p := p) (l := l) with ⟨_, h⟩ | ⟨i0, x0, h, _⟩
     · rw [h s hs]; rfl
     · exfalso; omega)
  · first
    | exact Bool.noConfusion hb12
    | (
     obtain ⟨i0, x0, hi0, hx0, hp0, hn0⟩ := (idx_nat (p := p) (l := l)).resolve_left fun h => hb12 h.1
     have hlt0 := lt_of_get hx0
     have hk0 : keptF p l (i0 + 1) = l.take i0 := by rw [keptF_yes hx0 hp0, keptF_all hn0]
     rw [hi0]
     refine nav ?_
     (refine aC_region ?_
       <;> refine xL 14 q_move ?_
       <;> refine xL 15 q_add ?_
       <;> refine xL 6 q_assign ?_
       <;> refine aL_end (nav ?_) <;> try dsimp only)
     refine aC_loop (ι := { q : Nat × Nat × List PV // q.1 ≤ l.length ∧ q.2.1 = (keptF p l q.1).length ∧ q.2.2 = (rowF p l q.1).flatMap cCnt }) (fun k => ⟨[(0, _, _), (1, _, _), (5, .int .i64 k.1.2.1, pInt k.1.2.1), (6, .int .i64 k.1.1, pInt k.1.1)], [(1000, hv, .own 44 2 l.length k.1.2.2)]⟩) (fun k => l.length - k.1.1) ⟨(i0 + 1, i0, l.flatMap cCnt), hlt0, (by dsimp only; rw [hk0, List.length_take]; omega), (by dsimp only; unfold rowF; rw [hk0, List.length_take, Nat.min_eq_left (by omega), List.take_append_drop])⟩ (fun a w H => H.weaken ⟨rfl, rfl, rfl, rfl, trivial⟩ ⟨rfl, trivial⟩) ?_
     rintro ⟨⟨k, j, row⟩, hk, hj, hr⟩
     dsimp only
     dsimp only at hk hj hr
     have hle := keptF_le p l k
     have hjl : j ≤ l.length := by omega
     have hjl2 : (j : Int) ≤ 1000000 := by omega
     have hrl : row.length = l.length * 2 := by rw [hr, flat_len cCnt_len, rowF_len p l hk]
     refine nav ?_
     (refine aC_region ?_
       <;> refine xL 16 q_move ?_
       <;> refine xL 17 q_move ?_
       <;> refine xL 18 (q_leno 1000 tSl25_LdF) ?_
       <;> refine xL 19 q_lss ?_
       <;> refine aL_end (nav ?_) <;> try dsimp only)
     first | refine cCd (fun hb19 => ?_) (fun hb19 => ?_) | refine cC (fun hb19 => ?_) (fun hb19 => ?_)
     · first
       | exact Bool.noConfusion hb19
       | (
        obtain ⟨x, hx⟩ := get_some (show k < l.length by omega)
        have e1 : (row.drop (k * 2)).take 2 = cCnt x := by rw [hr]; exact flat_drop cCnt_len _ _ _ (rowF_at hx)
        have e2 : k * 2 + 2 ≤ row.length := by rw [hr]; exact flat_fit cCnt_len (rowF_at hx)
        have e3 : j * 2 + 2 ≤ row.length := by rw [hrl]; have := lt_of_get hx; omega
        refine nav ?_
        (refine aC_region ?_
          <;> refine xL 22 q_move ?_
          <;> refine xL 23 q_move ?_
          <;> refine xL 24 (q_idxoN 1000 tSl25_LdF) ?_
          <;> (refine yL 25 (q_ldao 1000 tAgg44_LdF) fun v25 hv25 => ?_; cases hv25)
          <;> refine s_alloc [(.string ByteArray.empty), (.int .i64 0)] 2 7 tZr44_LdF fun h7 => ?_
          <;> refine s_sta 7 tAgg44_LdF ?_
          <;> refine aL_end (nav ?_) <;> try dsimp only)
        (refine aC_region ?_
          <;> refine xL 26 q_move ?_
          <;> (refine yL 27 (q_ldao 7 tAgg44_LdF) fun v27 hv27 => ?_; cases hv27)
          <;> (refine cS 28 (callF (f := f) (ps := caps) rfl ⟨_, rfl⟩ hc rfl (hf x (List.mem_of_getElem? hx))) fun v28 hv28 => ?_; cases hv28)
          <;> refine xL 29 q_not ?_
          <;> refine aL_end (nav ?_) <;> try dsimp only)
        first | refine cCd (fun hb29 => ?_) (fun hb29 => ?_) | refine cC (fun hb29 => ?_) (fun hb29 => ?_)
        · first
          | exact Bool.noConfusion hb29
          | (
           refine nav ?_
           (refine aC_region ?_
             <;> refine xL 30 q_move ?_
             <;> refine xL 31 q_move ?_
             <;> (refine yL 32 (q_ldao 7 tAgg44_LdF) fun v32 hv32 => ?_; cases hv32)
             <;> refine xL 33 (q_idxoN 1000 tSl25_LdF) ?_
             <;> refine s_sta 1000 tAgg44_LdF ?_
             <;> refine aL_end (nav ?_) <;> try dsimp only)
           (refine aC_region ?_
             <;> refine xL 34 q_move ?_
             <;> refine xL 35 q_add ?_
             <;> refine xL 5 q_assign ?_
             <;> refine aL_end (nav ?_) <;> try dsimp only)
           (refine aC_region ?_
             <;> refine xL 20 q_move ?_
             <;> refine xL 21 q_add ?_
             <;> refine xL 6 q_assign ?_
             <;> refine aL_end (nav ?_) <;> try dsimp only)
           first
             | (exact aN_again (
                 ⟨(k + 1, j, row), lt_of_get hx, (by dsimp only; rw [keptF_yes hx (by simpa using hb29)]; exact hj), (by dsimp only; rw [hr]; unfold rowF; rw [keptF_yes hx (by simpa using hb29)])⟩
                 ) (by dsimp only; omega) ⟨rfl, rfl, rfl, rfl, trivial⟩ ⟨rfl, trivial⟩)
             | (exact aN_again (
                 ⟨(k + 1, j + 1, setL row (j * 2) (cCnt x)), lt_of_get hx, (by show j + 1 = (keptF p l (k + 1)).length; rw [keptF_no hx (by simpa using hb29)]; simp [hj]), (by show setL row (j * 2) (cCnt x) = (rowF p l (k + 1)).flatMap cCnt; rw [hr, hj]; exact rowF_set cCnt_len hx (by simpa using hb29))⟩
                 ) (by dsimp only; omega) ⟨rfl, rfl, rfl, rfl, trivial⟩ ⟨rfl, trivial⟩))
        · first
          | exact Bool.noConfusion hb29
          | (
           refine nav ?_
           (refine aC_region ?_
             <;> refine xL 20 q_move ?_
             <;> refine xL 21 q_add ?_
             <;> refine xL 6 q_assign ?_
             <;> refine aL_end (nav ?_) <;> try dsimp only)
           first
             | (exact aN_again (
                 ⟨(k + 1, j, row), lt_of_get hx, (by dsimp only; rw [keptF_yes hx (by simpa using hb29)]; exact hj), (by dsimp only; rw [hr]; unfold rowF; rw [keptF_yes hx (by simpa using hb29)])⟩
                 ) (by dsimp only; omega) ⟨rfl, rfl, rfl, rfl, trivial⟩ ⟨rfl, trivial⟩)
             | (exact aN_again (
                 ⟨(k + 1, j + 1, setL row (j * 2) (cCnt x)), lt_of_get hx, (by show j + 1 = (keptF p l (k + 1)).length; rw [keptF_no hx (by simpa using hb29)]; simp [hj]), (by show setL row (j * 2) (cCnt x) = (rowF p l (k + 1)).flatMap cCnt; rw [hr, hj]; exact rowF_set cCnt_len hx (by simpa using hb29))⟩
                 ) (by dsimp only; omega) ⟨rfl, rfl, rfl, rfl, trivial⟩ ⟨rfl, trivial⟩)))
     · first
       | exact Bool.noConfusion hb19
       | (
        have hkl : k = l.length := by omega
        refine nav ?_
        (refine aC_region ?_
          <;> refine xL 36 q_move ?_
          <;> refine xL 37 q_move ?_
          <;> refine xL 38 (y_slc_own (i := j) (j := l.length) 1000 tSl25_LdF rfl rfl rfl rfl rfl hjl (Nat.le_refl _)) ?_
          <;> (refine aL_clear 1000 tEl25_LdF (by decide) rfl rfl rfl rfl rfl hjl ?_; intro cs2 hcs1 hcs2)
          <;> refine aL_end (nav ?_) <;> try dsimp only)
        (refine aC_region ?_
          <;> refine xL 39 q_move ?_
          <;> refine xL 40 q_move ?_
          <;> refine xL 41 (y_slc_own (i := 0) (j := j) 1000 tSl25_LdF rfl rfl rfl rfl rfl (Nat.zero_le _) hjl) ?_
          <;> refine xL 4 q_assign ?_
          <;> refine aL_end (nav ?_) <;> try dsimp only)
        refine aR_ent (trim (l := 1000) j rfl hjl) fun _ => ?_
        refine ret_h [(1000, slc hv 0 j 2, PV.own 44 2 j (cs2.take (j * 2)))] (Tryz.results69) rfl ⟨rfl, trivial⟩ ⟨rfl, ?_⟩
        have hF : (l.filter fun s => !p s) = keptF p l k := by unfold keptF; rw [hkl, List.take_length]
        rw [hcs2, hr, hF, ← hj]
        congr 4
        unfold rowF
        rw [List.flatMap_append, List.take_left' (by rw [flat_len cCnt_len, hj])]))
theorem delFollow_e (f : Nat) (caps : List PV) (p : Flw → Bool) (l : List Flw) (hl : l.length ≤ 1000000) (hv g : Value) (hc : ∀ args w, (callFunc f args).run Tryz.prog w = .ok (.enter f args) w) (hf : ∀ s ∈ l, AF Tryz.prog f (.agg (cFlw s) :: caps) (· = pBool (p s))) :
    AFh False Tryz.prog 70 [(0, hv, .val hv), (1, g, .fn f caps)] [(1000, hv, .own 47 3 l.length (l.flatMap cFlw))] (fun v q h => q = .val v ∧ h = [(1000, v, .own 47 3 (l.filter fun s => !p s).length ((l.filter fun s => !p s).flatMap cFlw))]) := by
  refine AFh.of_body 42 Tryz.func70 rfl Tryz.ntmps70 (Nat.le_of_ble_eq_true rfl) rfl ?_
  intro w0 M0 N0
  have hq := share_flws 47 l.length l rfl
  refine nav ?_
  (refine aC_region ?_
    <;> refine xL 4 q_assign ?_
    <;> refine aL_end (nav ?_) <;> try dsimp only)
  (refine aC_region ?_
    <;> refine xL 8 q_move ?_
    <;> refine xL 9 q_move ?_
    <;> (refine cS 10 (cB rfl Tryz.call102 (indexFuncFollow_e f caps p l hc hf) ⟨⟨_, _, rfl, hq ▸ reads_own (l := 1000) rfl⟩, ⟨_, _, rfl, reads_slot (x := .tmp 9) rfl⟩, trivial⟩) fun v10 hv10 => ?_; cases hv10)
    <;> refine xL 5 q_assign ?_
    <;> refine aL_end (nav ?_) <;> try dsimp only)
  (refine aC_region ?_
    <;> refine xL 11 q_move ?_
    <;> refine xL 12 q_eql ?_
    <;> refine aL_end (nav ?_) <;> try dsimp only)
  first | refine cCd (fun hb12 => ?_) (fun hb12 => ?_) | refine cC (fun hb12 => ?_) (fun hb12 => ?_)
  · first
    | exact Bool.noConfusion hb12
    | (
     refine nav ?_
     (refine aC_region ?_
       <;> refine xL 13 q_move ?_
       <;> refine xL 4 q_assign ?_
       <;> refine aL_end (nav ?_) <;> try dsimp only)
     refine ret_h [(1000, hv, PV.own 47 3 l.length (l.flatMap cFlw))] (Tryz.results70) rfl ⟨rfl, trivial⟩ ⟨rfl, ?_⟩
     rw [List.filter_eq_self.2 fun s hs => ?_]
     rcases idx_nat (p := p) (l := l) with ⟨_, h⟩ | ⟨i0, x0, h, _⟩
     · rw [h s hs]; rfl
     · exfalso; omega)
  · first
    | exact Bool.noConfusion hb12
    | (
     obtain ⟨i0, x0, hi0, hx0, hp0, hn0⟩ := (idx_nat (p := p) (l := l)).resolve_left fun h => hb12 h.1
     have hlt0 := lt_of_get hx0
     have hk0 : keptF p l (i0 + 1) = l.take i0 := by rw [keptF_yes hx0 hp0, keptF_all hn0]
     rw [hi0]
     refine nav ?_
     (refine aC_region ?_
       <;> refine xL 14 q_move ?_
       <;> refine xL 15 q_add ?_
       <;> refine xL 6 q_assign ?_
       <;> refine aL_end (nav ?_) <;> try dsimp only)
     refine aC_loop (ι := { q : Nat × Nat × List PV // q.1 ≤ l.length ∧ q.2.1 = (keptF p l q.1).length ∧ q.2.2 = (rowF p l q.1).flatMap cFlw }) (fun k => ⟨[(0, _, _), (1, _, _), (5, .int .i64 k.1.2.1, pInt k.1.2.1), (6, .int .i64 k.1.1, pInt k.1.1)], [(1000, hv, .own 47 3 l.length k.1.2.2)]⟩) (fun k => l.length - k.1.1) ⟨(i0 + 1, i0, l.flatMap cFlw), hlt0, (by dsimp only; rw [hk0, List.length_take]; omega), (by dsimp only; unfold rowF; rw [hk0, List.length_take, Nat.min_eq_left (by omega), List.take_append_drop])⟩ (fun a w H => H.weaken ⟨rfl, rfl, rfl, rfl, trivial⟩ ⟨rfl, trivial⟩) ?_
     rintro ⟨⟨k, j, row⟩, hk, hj, hr⟩
     dsimp only
     dsimp only at hk hj hr
     have hle := keptF_le p l k
     have hjl : j ≤ l.length := by omega
     have hjl2 : (j : Int) ≤ 1000000 := by omega
     have hrl : row.length = l.length * 3 := by rw [hr, flat_len cFlw_len, rowF_len p l hk]
     refine nav ?_
     (refine aC_region ?_
       <;> refine xL 16 q_move ?_
       <;> refine xL 17 q_move ?_
       <;> refine xL 18 (q_leno 1000 tSl26_LdF) ?_
       <;> refine xL 19 q_lss ?_
       <;> refine aL_end (nav ?_) <;> try dsimp only)
     first | refine cCd (fun hb19 => ?_) (fun hb19 => ?_) | refine cC (fun hb19 => ?_) (fun hb19 => ?_)
     · first
       | exact Bool.noConfusion hb19
       | (
        obtain ⟨x, hx⟩ := get_some (show k < l.length by omega)
        have e1 : (row.drop (k * 3)).take 3 = cFlw x := by rw [hr]; exact flat_drop cFlw_len _ _ _ (rowF_at hx)
        have e2 : k * 3 + 3 ≤ row.length := by rw [hr]; exact flat_fit cFlw_len (rowF_at hx)
        have e3 : j * 3 + 3 ≤ row.length := by rw [hrl]; have := lt_of_get hx; omega
        refine nav ?_
        (refine aC_region ?_
          <;> refine xL 22 q_move ?_
          <;> refine xL 23 q_move ?_
          <;> refine xL 24 (q_idxoN 1000 tSl26_LdF) ?_
          <;> (refine yL 25 (q_ldao 1000 tAgg47_LdF) fun v25 hv25 => ?_; cases hv25)
          <;> refine s_alloc [(.string ByteArray.empty), (.string ByteArray.empty), (.int .i64 0)] 3 7 tZr47_LdF fun h7 => ?_
          <;> refine s_sta 7 tAgg47_LdF ?_
          <;> refine aL_end (nav ?_) <;> try dsimp only)
        (refine aC_region ?_
          <;> refine xL 26 q_move ?_
          <;> (refine yL 27 (q_ldao 7 tAgg47_LdF) fun v27 hv27 => ?_; cases hv27)
          <;> (refine cS 28 (callF (f := f) (ps := caps) rfl ⟨_, rfl⟩ hc rfl (hf x (List.mem_of_getElem? hx))) fun v28 hv28 => ?_; cases hv28)
          <;> refine xL 29 q_not ?_
          <;> refine aL_end (nav ?_) <;> try dsimp only)
        first | refine cCd (fun hb29 => ?_) (fun hb29 => ?_) | refine cC (fun hb29 => ?_) (fun hb29 => ?_)
        · first
          | exact Bool.noConfusion hb29
          | (
           refine nav ?_
           (refine aC_region ?_
             <;> refine xL 30 q_move ?_
             <;> refine xL 31 q_move ?_
             <;> (refine yL 32 (q_ldao 7 tAgg47_LdF) fun v32 hv32 => ?_; cases hv32)
             <;> refine xL 33 (q_idxoN 1000 tSl26_LdF) ?_
             <;> refine s_sta 1000 tAgg47_LdF ?_
             <;> refine aL_end (nav ?_) <;> try dsimp only)
           (refine aC_region ?_
             <;> refine xL 34 q_move ?_
             <;> refine xL 35 q_add ?_
             <;> refine xL 5 q_assign ?_
             <;> refine aL_end (nav ?_) <;> try dsimp only)
           (refine aC_region ?_
             <;> refine xL 20 q_move ?_
             <;> refine xL 21 q_add ?_
             <;> refine xL 6 q_assign ?_
             <;> refine aL_end (nav ?_) <;> try dsimp only)
           first
             | (exact aN_again (
                 ⟨(k + 1, j, row), lt_of_get hx, (by dsimp only; rw [keptF_yes hx (by simpa using hb29)]; exact hj), (by dsimp only; rw [hr]; unfold rowF; rw [keptF_yes hx (by simpa using hb29)])⟩
                 ) (by dsimp only; omega) ⟨rfl, rfl, rfl, rfl, trivial⟩ ⟨rfl, trivial⟩)
             | (exact aN_again (
                 ⟨(k + 1, j + 1, setL row (j * 3) (cFlw x)), lt_of_get hx, (by show j + 1 = (keptF p l (k + 1)).length; rw [keptF_no hx (by simpa using hb29)]; simp [hj]), (by show setL row (j * 3) (cFlw x) = (rowF p l (k + 1)).flatMap cFlw; rw [hr, hj]; exact rowF_set cFlw_len hx (by simpa using hb29))⟩
                 ) (by dsimp only; omega) ⟨rfl, rfl, rfl, rfl, trivial⟩ ⟨rfl, trivial⟩))
        · first
          | exact Bool.noConfusion hb29
          | (
           refine nav ?_
           (refine aC_region ?_
             <;> refine xL 20 q_move ?_
             <;> refine xL 21 q_add ?_
             <;> refine xL 6 q_assign ?_
             <;> refine aL_end (nav ?_) <;> try dsimp only)
           first
             | (exact aN_again (
                 ⟨(k + 1, j, row), lt_of_get hx, (by dsimp only; rw [keptF_yes hx (by simpa using hb29)]; exact hj), (by dsimp only; rw [hr]; unfold rowF; rw [keptF_yes hx (by simpa using hb29)])⟩
                 ) (by dsimp only; omega) ⟨rfl, rfl, rfl, rfl, trivial⟩ ⟨rfl, trivial⟩)
             | (exact aN_again (
                 ⟨(k + 1, j + 1, setL row (j * 3) (cFlw x)), lt_of_get hx, (by show j + 1 = (keptF p l (k + 1)).length; rw [keptF_no hx (by simpa using hb29)]; simp [hj]), (by show setL row (j * 3) (cFlw x) = (rowF p l (k + 1)).flatMap cFlw; rw [hr, hj]; exact rowF_set cFlw_len hx (by simpa using hb29))⟩
                 ) (by dsimp only; omega) ⟨rfl, rfl, rfl, rfl, trivial⟩ ⟨rfl, trivial⟩)))
     · first
       | exact Bool.noConfusion hb19
       | (
        have hkl : k = l.length := by omega
        refine nav ?_
        (refine aC_region ?_
          <;> refine xL 36 q_move ?_
          <;> refine xL 37 q_move ?_
          <;> refine xL 38 (y_slc_own (i := j) (j := l.length) 1000 tSl26_LdF rfl rfl rfl rfl rfl hjl (Nat.le_refl _)) ?_
          <;> (refine aL_clear 1000 tEl26_LdF (by decide) rfl rfl rfl rfl rfl hjl ?_; intro cs2 hcs1 hcs2)
          <;> refine aL_end (nav ?_) <;> try dsimp only)
        (refine aC_region ?_
          <;> refine xL 39 q_move ?_
          <;> refine xL 40 q_move ?_
          <;> refine xL 41 (y_slc_own (i := 0) (j := j) 1000 tSl26_LdF rfl rfl rfl rfl rfl (Nat.zero_le _) hjl) ?_
          <;> refine xL 4 q_assign ?_
          <;> refine aL_end (nav ?_) <;> try dsimp only)
        refine aR_ent (trim (l := 1000) j rfl hjl) fun _ => ?_
        refine ret_h [(1000, slc hv 0 j 3, PV.own 47 3 j (cs2.take (j * 3)))] (Tryz.results70) rfl ⟨rfl, trivial⟩ ⟨rfl, ?_⟩
        have hF : (l.filter fun s => !p s) = keptF p l k := by unfold keptF; rw [hkl, List.take_length]
        rw [hcs2, hr, hF, ← hj]
        congr 4
        unfold rowF
        rw [List.flatMap_append, List.take_left' (by rw [flat_len cFlw_len, hj])]))
end Go.Proofs.YtebcjijpdhbcdaaGreat

namespace Go.Proofs.YtebcjijpdhbcdaaGreat
open Go.RowKit Go.Cb Go.En
set_option linter.all false
set_option maxRecDepth 100000

theorem tEl25_LdG : ElT Tryz.prog 25 44 2 24 (.agg #[(.string ByteArray.empty), (.int .i64 0)]) := ⟨Tryz.underlying25, by kernel_rfl, rfl, by decide⟩
theorem tEl26_LdG : ElT Tryz.prog 26 47 3 40 (.agg #[(.string ByteArray.empty), (.string ByteArray.empty), (.int .i64 0)]) := ⟨Tryz.underlying26, by kernel_rfl, rfl, by decide⟩
theorem tSl25_LdG : SlT Tryz.prog 25 44 2 = true := by kernel_rfl
theorem tSl26_LdG : SlT Tryz.prog 26 47 3 = true := by kernel_rfl

theorem cloneCount_e (l : List Cnt) (hl : l.length ≤ 1000000) : AF Tryz.prog 68 [pCnts l] (· = .own 44 2 l.length (l.flatMap cCnt)) := by
  refine AF.of_body 8 Tryz.func68 rfl Tryz.ntmps68 (Nat.le_of_ble_eq_true rfl) ?_
  intro w0 M0 vs hl hv
  obtain ⟨v0, rfl⟩ := len1 hl
  clear hl hv
  have f3 : (l.flatMap cCnt).length = l.length * 2 := flat_len cCnt_len l
  have f4 : (l.flatMap cCnt).all En.one = true := cCnt_one l
  refine nav ?_
  (refine aC_region ?_
    <;> refine xL 2 q_assign ?_
    <;> refine aL_end (nav ?_) <;> try dsimp only)
  (refine aC_region ?_
    <;> refine xL 3 q_move ?_
    <;> (refine yL 4 (q_eqnil tSl25_LdG) fun v4 hv4 => ?_; rcases hv4 with rfl | ⟨rfl, hn0⟩)
    <;> refine aL_end (nav ?_) <;> try dsimp only) <;> (
   first | refine cCd (fun hb4 => ?_) (fun hb4 => ?_) | refine cC (fun hb4 => ?_) (fun hb4 => ?_)
   · first
     | exact Bool.noConfusion hb4
     | (
      refine nav ?_
      (refine aC_region ?_
        <;> refine xL 2 q_assign ?_
        <;> refine aL_end (nav ?_) <;> try dsimp only)
      have hl0 : l = [] := List.eq_nil_of_length_eq_zero hn0
      subst hl0
      refine aR_ent (nilOwn 200 44 2 rfl) fun _ => ?_
      exact ret_own 200 (Tryz.results68) rfl rfl rfl)
   · first
     | exact Bool.noConfusion hb4
     | (
      refine nav ?_
      (refine aC_region ?_
        <;> refine s_lit0 5 tEl25_LdG fun h5 ho5 => ?_
        <;> refine xL 6 q_move ?_
        <;> refine s_apps 5 7 tEl25_LdG (fun h7 ho7 => ?_) f3 f4
        <;> refine xL 2 q_assign ?_
        <;> refine aL_end (nav ?_) <;> try dsimp only)
      refine ret_own 7 (Tryz.results68) rfl rfl ?_
      rw [Nat.zero_add, List.nil_append]))
theorem cloneFollow_e (l : List Flw) (hl : l.length ≤ 1000000) : AF Tryz.prog 71 [pFlws l] (· = .own 47 3 l.length (l.flatMap cFlw)) := by
  refine AF.of_body 8 Tryz.func71 rfl Tryz.ntmps71 (Nat.le_of_ble_eq_true rfl) ?_
  intro w0 M0 vs hl hv
  obtain ⟨v0, rfl⟩ := len1 hl
  clear hl hv
  have f3 : (l.flatMap cFlw).length = l.length * 3 := flat_len cFlw_len l
  have f4 : (l.flatMap cFlw).all En.one = true := cFlw_one l
  refine nav ?_
  (refine aC_region ?_
    <;> refine xL 2 q_assign ?_
    <;> refine aL_end (nav ?_) <;> try dsimp only)
  (refine aC_region ?_
    <;> refine xL 3 q_move ?_
    <;> (refine yL 4 (q_eqnil tSl26_LdG) fun v4 hv4 => ?_; rcases hv4 with rfl | ⟨rfl, hn0⟩)
    <;> refine aL_end (nav ?_) <;> try dsimp only) <;> (
   first | refine cCd (fun hb4 => ?_) (fun hb4 => ?_) | refine cC (fun hb4 => ?_) (fun hb4 => ?_)
   · first
     | exact Bool.noConfusion hb4
     | (
      refine nav ?_
      (refine aC_region ?_
        <;> refine xL 2 q_assign ?_
        <;> refine aL_end (nav ?_) <;> try dsimp only)
      have hl0 : l = [] := List.eq_nil_of_length_eq_zero hn0
      subst hl0
      refine aR_ent (nilOwn 200 47 3 rfl) fun _ => ?_
      exact ret_own 200 (Tryz.results71) rfl rfl rfl)
   · first
     | exact Bool.noConfusion hb4
     | (
      refine nav ?_
      (refine aC_region ?_
        <;> refine s_lit0 5 tEl26_LdG fun h5 ho5 => ?_
        <;> refine xL 6 q_move ?_
        <;> refine s_apps 5 7 tEl26_LdG (fun h7 ho7 => ?_) f3 f4
        <;> refine xL 2 q_assign ?_
        <;> refine aL_end (nav ?_) <;> try dsimp only)
      refine ret_own 7 (Tryz.results71) rfl rfl ?_
      rw [Nat.zero_add, List.nil_append]))
end Go.Proofs.YtebcjijpdhbcdaaGreat

namespace Go.Proofs.YtebcjijpdhbcdaaGreat
open Go.RowKit Go.Cb Go.En
set_option linter.all false
set_option maxRecDepth 100000

theorem tAgg28_LdH : AggT Tryz.prog 28 4 = true := by kernel_rfl
theorem tFl28_0_LdH : FldT Tryz.prog 28 0 0 = true := by kernel_rfl
theorem tFl28_1_LdH : FldT Tryz.prog 28 1 1 = true := by kernel_rfl
theorem tFl28_2_LdH : FldT Tryz.prog 28 2 2 = true := by kernel_rfl
theorem tFl28_3_LdH : FldT Tryz.prog 28 3 3 = true := by kernel_rfl
theorem tFl44_1_LdH : FldT Tryz.prog 44 1 1 = true := by kernel_rfl
theorem tFl47_2_LdH : FldT Tryz.prog 47 2 2 = true := by kernel_rfl
theorem tNa25_LdH : NoAgg Tryz.prog 25 = true := by kernel_rfl
theorem tNa26_LdH : NoAgg Tryz.prog 26 = true := by kernel_rfl
theorem tNa3_LdH : NoAgg Tryz.prog 3 = true := by kernel_rfl
theorem tSt28_LdH : stInfo Tryz.prog 28 = some ((.agg #[(.slice none 0 0), (.slice none 0 0), (.slice none 0 0), (.slice none 0 0)]), ([0, 1, 2, 3] : List Nat).map fun o => (o, 1)) := by kernel_rfl
theorem tZr28_LdH : ZeroT Tryz.prog 28 (.agg #[(.slice none 0 0), (.slice none 0 0), (.slice none 0 0), (.slice none 0 0)]) := by unfold ZeroT; kernel_rfl

def thrG (n : Int) (g : Dfg) : Dfg := ⟨g.acts, g.starts.filter fun s => !decide (s.n < n), g.ends.filter fun s => !decide (s.n < n), g.follows.filter fun s => !decide (s.n < n)⟩
def RThr (n : Int) (g : Dfg) (p : PV) : Prop :=
  (dfgOk g = false ∧ p = .tup [zeroD, pInt 1]) ∨ (dfgOk g = true ∧ countedB n = false ∧ p = .tup [zeroD, pInt 2]) ∨ (dfgOk g = true ∧ countedB n = true ∧ p = .tup [pDfg (thrG n g), pInt 0])
theorem dThr1_e (n : Int) (s : Cnt) : AF Tryz.prog 67 [.agg (cCnt s), .sptr 0 [pInt n]] (· = pBool (decide (s.n < n))) := by
  refine AF.of_body 8 Tryz.func67 rfl Tryz.ntmps67 (Nat.le_of_ble_eq_true rfl) ?_
  intro w0 M0 vs hl hv
  obtain ⟨v0, v1, rfl⟩ := len2 hl
  clear hl hv
  refine nav ?_
  (refine aC_region ?_
    <;> refine s_boxa 2 2 fun h2 => ?_
    <;> refine xL 3 q_assign ?_
    <;> refine aL_end (nav ?_) <;> try dsimp only)
  (refine aC_region ?_
    <;> refine xL 4 (q_fldo 2 tFl44_1_LdH) ?_
    <;> (refine yL 5 (q_ldo 2 tNa3_LdH) fun v5 hv5 => ?_; cases hv5)
    <;> (refine yL 6 (q_ld tNa3_LdH) fun v6 hv6 => ?_; cases hv6)
    <;> refine xL 7 q_lss ?_
    <;> refine xL 3 q_assign ?_
    <;> refine aL_end (nav ?_) <;> try dsimp only)
  exact ret_shr Tryz.results67 rfl rfl
theorem dThr2_e (n : Int) (s : Flw) : AF Tryz.prog 72 [.agg (cFlw s), .sptr 0 [pInt n]] (· = pBool (decide (s.n < n))) := by
  refine AF.of_body 8 Tryz.func72 rfl Tryz.ntmps72 (Nat.le_of_ble_eq_true rfl) ?_
  intro w0 M0 vs hl hv
  obtain ⟨v0, v1, rfl⟩ := len2 hl
  clear hl hv
  refine nav ?_
  (refine aC_region ?_
    <;> refine s_boxa 2 3 fun h2 => ?_
    <;> refine xL 3 q_assign ?_
    <;> refine aL_end (nav ?_) <;> try dsimp only)
  (refine aC_region ?_
    <;> refine xL 4 (q_fldo 2 tFl47_2_LdH) ?_
    <;> (refine yL 5 (q_ldo 2 tNa3_LdH) fun v5 hv5 => ?_; cases hv5)
    <;> (refine yL 6 (q_ld tNa3_LdH) fun v6 hv6 => ?_; cases hv6)
    <;> refine xL 7 q_lss ?_
    <;> refine xL 3 q_assign ?_
    <;> refine aL_end (nav ?_) <;> try dsimp only)
  exact ret_shr Tryz.results72 rfl rfl
set_option maxHeartbeats 2000000 in
theorem dThr_e (n : Int) (g : Dfg) (hf : fitD g) (ha : g.acts.length ≤ 1000000) (hs : g.starts.length ≤ 1000000) (he : g.ends.length ≤ 1000000) (hq : g.follows.length ≤ 1000000) : AF Tryz.prog 22 [pDfg g, pInt n] (RThr n g) := by
  refine AF.of_body 37 Tryz.func22 rfl Tryz.ntmps22 (Nat.le_of_ble_eq_true rfl) ?_
  intro w0 M0 vs hl hv
  obtain ⟨v0, v1, rfl⟩ := len2 hl
  obtain rfl := hv 1 _ _ rfl rfl
  clear hl hv
  refine nav ?_
  (refine aC_region ?_
    <;> refine s_boxa 2 4 fun h2 => ?_
    <;> refine s_box 3 fun h3 => ?_
    <;> refine s_alloc [(.slice none 0 0), (.slice none 0 0), (.slice none 0 0), (.slice none 0 0)] 4 4 tZr28_LdH fun h4 => ?_
    <;> refine xL 5 q_assign ?_
    <;> refine aL_end (nav ?_) <;> try dsimp only)
  (refine aC_region ?_
    <;> (refine yL 8 (q_ldao 2 tAgg28_LdH) fun v8 hv8 => ?_; cases hv8)
    <;> (refine cS 9 (cA Tryz.call16 (dValid_e g hf ha hs he)) fun v9 hv9 => ?_; cases hv9)
    <;> refine xL 10 q_not ?_
    <;> refine xL 7 q_assign ?_
    <;> refine aL_end (nav ?_) <;> try dsimp only)
  first | refine cCd (fun hb7 => ?_) (fun hb7 => ?_) | refine cC (fun hb7 => ?_) (fun hb7 => ?_)
  · first
    | exact Bool.noConfusion hb7
    | (
     refine nav ?_
     (refine aC_region ?_
       <;> refine xL 11 (q_build tSt28_LdH) ?_
       <;> refine s_sta 4 tAgg28_LdH ?_
       <;> refine xL 5 q_assign ?_
       <;> refine aL_end (nav ?_) <;> try dsimp only)
     exact ret_cs (k := 4) 4 (by kernel_rfl) (Tryz.results22) rfl rfl rfl (Nat.le_of_ble_eq_true rfl) (by decide) rfl (.inl ⟨by simpa using hb7, rfl⟩))
  · first
    | exact Bool.noConfusion hb7
    | (
     refine nav ?_
     (refine aC_region ?_
       <;> (refine yL 13 (q_ldo 3 tNa3_LdH) fun v13 hv13 => ?_; cases hv13)
       <;> (refine cS 14 (cA Tryz.call58 (dCounted_e n)) fun v14 hv14 => ?_; cases hv14)
       <;> refine xL 15 q_not ?_
       <;> refine xL 12 q_assign ?_
       <;> refine aL_end (nav ?_) <;> try dsimp only)
     first | refine cCd (fun hb12 => ?_) (fun hb12 => ?_) | refine cC (fun hb12 => ?_) (fun hb12 => ?_)
     · first
       | exact Bool.noConfusion hb12
       | (
        refine nav ?_
        (refine aC_region ?_
          <;> refine xL 16 (q_build tSt28_LdH) ?_
          <;> refine s_sta 4 tAgg28_LdH ?_
          <;> refine xL 5 q_assign ?_
          <;> refine aL_end (nav ?_) <;> try dsimp only)
        exact ret_cs (k := 4) 4 (by kernel_rfl) (Tryz.results22) rfl rfl rfl (Nat.le_of_ble_eq_true rfl) (by decide) rfl (.inr (.inl ⟨by simpa using hb7, by simpa using hb12, rfl⟩)))
     · first
       | exact Bool.noConfusion hb12
       | (
        refine nav ?_
        refine aC_ent (freezeP (l := 3) (t := 3) (j := 0) rfl Nat.one_pos rfl) fun _ => ?_
        (refine aC_region ?_
          <;> refine xL 17 q_mkfn ?_
          <;> refine xL 6 q_assign ?_
          <;> refine aL_end (nav ?_) <;> try dsimp only)
        (refine aC_draw (fun i => ([] : List Nat).elem i) [2] (by kernel_rfl) ?_
          <;> refine xD 0 18 rfl (q_fldo 2 tFl28_0_LdH) ?_
          <;> (refine yD 1 19 rfl (q_ldo 2 tNa25_LdH) fun v19 hv19 => ?_; cases hv19)
          <;> refine xD 3 21 rfl (q_fldo 2 tFl28_1_LdH) ?_
          <;> (refine yD 4 22 rfl (q_ldo 2 tNa25_LdH) fun v22 hv22 => ?_; cases hv22)
          <;> refine xD 6 24 rfl q_move ?_
          <;> refine xD 8 26 rfl (q_fldo 2 tFl28_2_LdH) ?_
          <;> (refine yD 9 27 rfl (q_ldo 2 tNa25_LdH) fun v27 hv27 => ?_; cases hv27)
          <;> refine xD 11 29 rfl q_move ?_
          <;> refine xD 13 31 rfl (q_fldo 2 tFl28_3_LdH) ?_
          <;> (refine yD 14 32 rfl (q_ldo 2 tNa26_LdH) fun v32 hv32 => ?_; cases hv32)
          <;> refine xD 16 34 rfl q_mkfn ?_
          <;> (refine aD_one 2 (by kernel_rfl) ?_)
          <;> (refine aW_run rfl fun w9 M9 N9 DQ back => ?_)
          <;> (refine cO 20 (cA Tryz.call68 (cloneCount_e g.acts ha)) fun v20 ho20 => ?_; refine aL_ent (En.freeze (l := 20) (t := 20) rfl rfl) fun _ => ?_; rw [share_cntsD _ _ _ rfl])
          <;> refine aL_end (back _ (nrm ?_))
          <;> (refine aD_one 5 (by kernel_rfl) ?_)
          <;> (refine aW_run rfl fun w9 M9 N9 DQ back => ?_)
          <;> refine cO 23 (cA Tryz.call68 (cloneCount_e g.starts hs)) fun v23 ho23 => ?_
          <;> refine aL_end (back _ (nrm ?_))
          <;> (refine aD_one 7 (by kernel_rfl) ?_)
          <;> (refine aW_run rfl fun w9 M9 N9 DQ back => ?_)
          <;> (refine aL_ent (relabel (l := 23) 1000 rfl rfl) fun _ => ?_; refine aL_heap [(1000, _, _), (4, _, _)] ⟨rfl, rfl, trivial⟩ ?_; refine aL_ch [4] 25 (Tryz.call69) (delCount_e 67 [.sptr 0 [pInt n]] (fun s => decide (s.n < n)) g.starts hs v23 _ (Tryz.call67) (fun s _ => dThr1_e n s)) ?_; rintro v25 _ _ ⟨rfl, rfl⟩; refine aL_ent (En.freeze (l := 1000) (t := 25) rfl rfl) fun _ => ?_; rw [share_cntsD _ _ _ rfl])
          <;> refine aL_end (back _ (nrm ?_))
          <;> (refine aD_one 10 (by kernel_rfl) ?_)
          <;> (refine aW_run rfl fun w9 M9 N9 DQ back => ?_)
          <;> refine cO 28 (cA Tryz.call68 (cloneCount_e g.ends he)) fun v28 ho28 => ?_
          <;> refine aL_end (back _ (nrm ?_))
          <;> (refine aD_one 12 (by kernel_rfl) ?_)
          <;> (refine aW_run rfl fun w9 M9 N9 DQ back => ?_)
          <;> (refine aL_ent (relabel (l := 28) 1000 rfl rfl) fun _ => ?_; refine aL_heap [(1000, _, _), (4, _, _)] ⟨rfl, rfl, trivial⟩ ?_; refine aL_ch [4] 30 (Tryz.call69) (delCount_e 67 [.sptr 0 [pInt n]] (fun s => decide (s.n < n)) g.ends he v28 _ (Tryz.call67) (fun s _ => dThr1_e n s)) ?_; rintro v30 _ _ ⟨rfl, rfl⟩; refine aL_ent (En.freeze (l := 1000) (t := 30) rfl rfl) fun _ => ?_; rw [share_cntsD _ _ _ rfl])
          <;> refine aL_end (back _ (nrm ?_))
          <;> (refine aD_one 15 (by kernel_rfl) ?_)
          <;> (refine aW_run rfl fun w9 M9 N9 DQ back => ?_)
          <;> refine cO 33 (cA Tryz.call71 (cloneFollow_e g.follows hq)) fun v33 ho33 => ?_
          <;> refine aL_end (back _ (nrm ?_))
          <;> (refine aD_one 17 (by kernel_rfl) ?_)
          <;> (refine aW_run rfl fun w9 M9 N9 DQ back => ?_)
          <;> (refine aL_ent (relabel (l := 33) 1000 rfl rfl) fun _ => ?_; refine aL_heap [(1000, _, _), (4, _, _)] ⟨rfl, rfl, trivial⟩ ?_; refine aL_ch [4] 35 (Tryz.call70) (delFollow_e 72 [.sptr 0 [pInt n]] (fun s => decide (s.n < n)) g.follows hq v33 _ (Tryz.call72) (fun s _ => dThr2_e n s)) ?_; rintro v35 _ _ ⟨rfl, rfl⟩; refine aL_ent (En.freeze (l := 1000) (t := 35) rfl rfl) fun _ => ?_; rw [share_flws _ _ _ rfl])
          <;> refine aL_end (back _ (nrm ?_))
          <;> refine xE 18 36 rfl (q_build tSt28_LdH) ?_
          <;> (refine aD_one 19 (by kernel_rfl) ?_)
          <;> (refine aW_run rfl fun w9 M9 N9 DQ back => ?_)
          <;> refine s_sta 4 tAgg28_LdH ?_
          <;> refine aL_end (back _ (nrm ?_))
          <;> refine xE 20 5 rfl q_assign ?_
          <;> refine aD_end (by kernel_rfl) (nav ?_)
          <;> try dsimp only)
        exact ret_cs (k := 4) 4 (by kernel_rfl) (Tryz.results22) rfl rfl rfl (Nat.le_of_ble_eq_true rfl) (by decide) rfl (.inr (.inr ⟨by simpa using hb7, by simpa using hb12, rfl⟩))))
end Go.Proofs.YtebcjijpdhbcdaaGreat
