/-
  Plain laws: what the reference makes of the classes is what the program makes of them. No program in sight.
-/
import Derived.Test.YtoanjgpdepaciaaGreatMLbV
namespace Go.Proofs.YtoanjgpdepaciaaGreat
open Go.RowKit Go.Cb Go.En
set_option linter.all false
set_option maxRecDepth 100000

theorem conn_ne {l : List Int} {r r' : Int → Int → Bool} (hr : ∀ x ∈ l, ∀ y ∈ l, x ≠ y → (r x y = true ∨ r y x = true) → (r' x y = true ∨ r' y x = true)) {x y : Int} (h : Conn l r x y) : Conn l r' x y := fun P hP => h P fun a b ha hb hab hPa => by
  by_cases e : a = b
  · rw [← e]; exact hPa
  · exact hP a b ha hb (hr a ha b hb e hab) hPa
theorem comps_ne {l : List Int} {r r' : Int → Int → Bool} {cs : List (List Int)} (h : Comps l r cs) (hr : ∀ x ∈ l, ∀ y ∈ l, x ≠ y → ((r x y = true ∨ r y x = true) ↔ (r' x y = true ∨ r' y x = true))) : Comps l r' cs :=
  ⟨h.mem, h.nd, h.ne, h.asc, fun c hc x hx y hy => conn_ne (fun a ha b hb hab => (hr a ha b hb hab).1) (h.conn c hc x hx y hy), fun c hc x hx y hy hxy => by
    by_cases e : x = y
    · rw [← e]; exact hx
    · exact h.clos c hc x hx y hy ((hr x ((h.mem x).1 (List.mem_flatten.2 ⟨c, hc, hx⟩)) y hy e).2 hxy), h.ord⟩
theorem comps_eq {l : List Int} {r r' : Int → Int → Bool} {cs ds : List (List Int)} (h : Comps l r cs) (k : Comps l r' ds) (hr : ∀ x ∈ l, ∀ y ∈ l, x ≠ y → ((r x y = true ∨ r y x = true) ↔ (r' x y = true ∨ r' y x = true))) : cs = ds := (comps_ne h hr).unique k fun _ _ _ _ => Iff.rfl
theorem marked_all (n : Nat) : marked n (fun _ => true) = upTo n := by
  unfold marked upTo vec
  exact List.filter_eq_self.2 fun _ _ => rfl
theorem marked_out (n : Nat) (S F : Nat → Bool) : marked n (fun i => !S i && !F i) = outL n S F := by
  unfold marked outL upTo vec
  refine List.filter_congr fun x _ => ?_
  unfold endB; dsimp only
  cases S x.toNat <;> cases F x.toNat <;> rfl
theorem norm_comps {n : Nat} {l : List Int} {r : Int → Int → Bool} {cs : List (List Int)} (h : Comps l r cs) (hl : ∀ x ∈ l, 0 ≤ x ∧ x < n) : ∀ c ∈ cs, normI n c = c := fun c hc => normI_id (h.asc c hc) fun x hx => hl x ((h.mem x).1 (List.mem_flatten.2 ⟨c, hc, hx⟩))
theorem map_norm {n : Nat} {cs : List (List Int)} (h : ∀ c ∈ cs, normI n c = c) : cs.map (normI n) = cs := (List.map_congr_left (g := id) h).trans (List.map_id cs)
theorem tog_E {E R : Nat → Nat → Bool} (x y : Int) : (togI E R 1 x y = true ∨ togI E R 1 y x = true) ↔ (relE E x y = true ∨ relE E y x = true) := by
  unfold togI togB relE
  cases E x.toNat y.toNat <;> cases E y.toNat x.toNat <;> simp
theorem tog_S {E R : Nat → Nat → Bool} (x y : Int) : (togI E R 2 x y = true ∨ togI E R 2 y x = true) ↔ (relS R x y = true ∨ relS R y x = true) := by
  unfold togI togB relS
  cases R x.toNat y.toNat <;> cases R y.toNat x.toNat <;> simp
theorem tog_A {E R : Nat → Nat → Bool} {x y : Int} (h : x ≠ y) : (togI E R 3 x y = true ∨ togI E R 3 y x = true) ↔ (relA E x y = true ∨ relA E y x = true) := by
  unfold togI togB relA
  rw [decide_eq_true h, decide_eq_true (Ne.symm h)]
  cases E x.toNat y.toNat <;> cases E y.toNat x.toNat <;> simp
theorem heads_ne {l : List Int} {r : Int → Int → Bool} {cs : List (List Int)} (h : Comps l r cs) : cs.Pairwise fun c d => headI c ≠ headI d := h.heads.imp fun h => by omega
theorem seq_law {n : Nat} {E : Nat → Nat → Bool} {cs out ds : List (List Int)} (hc : Comps (upTo n) (relS (reachB n E)) cs) (hp : out.Perm cs) (ho : out.Pairwise (relO (reachB n E))) (hd : SeqCs n (reachB n E) ds) : out = ds := by
  obtain ⟨cs', hc', hp'⟩ := hd.cl
  have e := hc'.unique hc fun _ _ _ _ => Iff.rfl
  subst e
  have hne : ∀ {m : List (List Int)}, m.Perm cs' → m.Pairwise fun c d => headI c ≠ headI d := fun h => (h.pairwise_iff (R := fun c d => headI c ≠ headI d) fun h => Ne.symm h).2 (heads_ne hc')
  refine rel_ext (rel := fun c d => headI c ≠ headI d ∧ relO (reachB n E) c d) (fun a ha b hb hab hba => ?_) ((hne hp).and ho) ((hne hp').and ?_) fun c => by rw [hp.mem_iff, hp'.mem_iff]
  · have h0 := seq_apart hc' (hp.mem_iff.1 ha) (hp.mem_iff.1 hb) hab.1
    have h1 := hab.2
    have h2 := hba.2
    unfold relO at h1 h2
    exact h0 (h1.trans h2.symm)
  · rw [List.pairwise_iff_getElem]
    intro i j hi hj hij
    have h1 := hd.ord i j _ _ hij (List.getElem?_eq_getElem hi) (List.getElem?_eq_getElem hj)
    have h2 := List.pairwise_iff_getElem.1 (hne hp') i j hi hj hij
    have h3 := seq_apart hc' (hp'.mem_iff.1 (List.getElem_mem hi)) (hp'.mem_iff.1 (List.getElem_mem hj)) h2
    rw [cmpSeq_neg] at h1
    unfold relO
    cases hr : reachB n E (headI ds[i]).toNat (headI ds[j]).toNat with
    | true => rfl
    | false =>
      exfalso
      cases hr2 : reachB n E (headI ds[j]).toNat (headI ds[i]).toNat with
      | true => exact h1 ⟨Ne.symm h2, hr2⟩
      | false => exact h3 (hr.trans hr2.symm)
def mergedL (W : List Int → Bool) (cs : List (List Int)) : List (List Int) := match cs.filter W with
  | [] => []
  | c0 :: t => (c0 ++ (cs.filter fun c => !W c).flatten) :: t
theorem idx_pre {α : Type} {p : α → Bool} {l : List α} {i0 : Nat} (h : idx p l = i0) : (∀ j y, j < i0 → l[j]? = some y → p y = false) ∧ ∀ y, l[i0]? = some y → p y = true := by
  unfold idx at h
  cases hf : l.findIdx? p with
  | none => rw [hf] at h; dsimp only at h; omega
  | some i =>
    rw [hf] at h; dsimp only at h
    have hi0 : i = i0 := by omega
    subst hi0
    rw [List.findIdx?_eq_some_iff_getElem] at hf
    obtain ⟨hi, hp, hlt⟩ := hf
    refine ⟨fun j y hj hy => ?_, fun y hy => ?_⟩
    · obtain ⟨hl, rfl⟩ := List.getElem?_eq_some_iff.1 hy
      simpa using hlt j hj
    · obtain ⟨hl, rfl⟩ := List.getElem?_eq_some_iff.1 hy
      exact hp
theorem filt_none {α : Type} {p : α → Bool} {l : List α} (k : Nat) (h : ∀ j y, j < k → l[j]? = some y → p y = false) : (l.take k).filter p = [] := List.filter_eq_nil_iff.2 fun x hx => by
  obtain ⟨j, hj⟩ := List.getElem?_of_mem hx
  have hjl := lt_of_get hj
  rw [List.length_take] at hjl
  rw [List.getElem?_take_of_lt (by omega)] at hj
  rw [h j x (by omega) hj]; decide
theorem sel_false {i0 : Nat} {W : List Int → Bool} {cs : List (List Int)} (hW : ∀ y, cs[i0]? = some y → W y = true) : ∀ k, k ≤ cs.length → selA i0 W false (cs.take k) = (cs.take k).filter fun c => !W c
  | 0, _ => by simp [selA]
  | k + 1, hk => by
    obtain ⟨c, hc⟩ := get_some (show k < cs.length by omega)
    rw [selA_snoc hc, filt_snoc hc, sel_false hW k (by omega)]
    congr 1
    by_cases h : W c = false
    · rw [if_pos ⟨fun e => by subst e; rw [hW c hc] at h; exact Bool.noConfusion h, h⟩, if_pos (by rw [h]; rfl)]
    · rw [if_neg (fun hh => h hh.2), if_neg (by simpa using h)]
theorem sel_true {i0 : Nat} {W : List Int → Bool} {cs : List (List Int)} {c0 : List Int} (h0 : cs[i0]? = some c0) (hW : W c0 = true) (hpre : ∀ j y, j < i0 → cs[j]? = some y → W y = false) : ∀ k, k ≤ cs.length → (cs.take k).filter W = (if i0 < k then [c0] else []) ++ selA i0 W true (cs.take k)
  | 0, _ => by simp [selA]
  | k + 1, hk => by
    obtain ⟨c, hc⟩ := get_some (show k < cs.length by omega)
    have hb : k ≤ i0 → selA i0 W true (cs.take k) = [] := fun hk0 => List.eq_nil_iff_forall_not_mem.2 fun x hx => by
      have hm := selA_mem hx
      have := filt_none (p := W) (l := cs) k fun j y hj => hpre j y (by omega)
      have h2 : x ∈ (cs.take k).filter W := List.mem_filter.2 hm
      rw [this] at h2
      exact List.not_mem_nil h2
    rw [selA_snoc hc, filt_snoc hc, sel_true h0 hW hpre k (by omega)]
    rcases Nat.lt_trichotomy k i0 with h | h | h
    · have hw := hpre k c h hc
      rw [if_neg (show ¬ i0 < k by omega), if_neg (show ¬ i0 < k + 1 by omega), if_neg (show ¬ W c = true by rw [hw]; decide), if_neg (fun hh => by rw [hw] at hh; exact Bool.noConfusion hh.2)]
      simp
    · subst h
      rw [h0] at hc; cases hc
      rw [hb (Nat.le_refl _), if_neg (show ¬ k < k by omega), if_pos (show k < k + 1 by omega), if_pos hW, if_neg (fun hh => hh.1 rfl)]
      simp
    · rw [if_pos h, if_pos (show i0 < k + 1 by omega)]
      by_cases hw : W c = true
      · rw [if_pos hw, if_pos ⟨by omega, hw⟩]; simp
      · rw [if_neg hw, if_neg (fun hh => hw hh.2)]; simp
theorem filt_perm {α : Type} (p : α → Bool) : ∀ l : List α, (l.filter p ++ l.filter fun x => !p x).Perm l
  | [] => .refl _
  | a :: l => by
    cases h : p a with
    | true => rw [List.filter_cons_of_pos h, List.filter_cons_of_neg (by rw [h]; decide)]; exact (filt_perm p l).cons a
    | false => rw [List.filter_cons_of_neg (by rw [h]; decide), List.filter_cons_of_pos (by rw [h]; rfl)]; exact List.perm_middle.trans ((filt_perm p l).cons a)
theorem flat_perm {α : Type} {l m : List (List α)} (h : l.Perm m) : l.flatten.Perm m.flatten := by
  induction h with
  | nil => exact .refl _
  | cons x _ ih => rw [List.flatten_cons, List.flatten_cons]; exact ih.append_left x
  | swap x y l =>
    rw [List.flatten_cons, List.flatten_cons, List.flatten_cons, List.flatten_cons, ← List.append_assoc, ← List.append_assoc]
    exact List.perm_append_comm.append_right _
  | trans _ _ h1 h2 => exact h1.trans h2
theorem and_law {n : Nat} {E : Nat → Nat → Bool} {W : List Int → Bool} {cs out ds : List (List Int)} {i0 : Nat} {c0 : List Int} (hc : Comps (upTo n) (relA E) cs) (h0 : cs[i0]? = some c0) (hi : idx W cs = i0) (hd : AndCs cs i0 c0 W ds) (hp : out.Perm (mergedL W cs)) (ho : out.Pairwise fun c d => leastI c < leastI d) : out.map (normI n) = ds := by
  obtain ⟨hpre, hat⟩ := idx_pre hi
  have hT := sel_true h0 (hat c0 h0) hpre cs.length (Nat.le_refl _)
  have hN := sel_false (W := W) hat cs.length (Nat.le_refl _)
  rw [List.take_length] at hT hN
  rw [if_pos (lt_of_get h0)] at hT
  have hM : mergedL W cs = (c0 ++ (cs.filter fun c => !W c).flatten) :: selA i0 W true cs := by unfold mergedL; rw [hT]; rfl
  have hperm : ((c0 ++ (cs.filter fun c => !W c).flatten) :: selA i0 W true cs).flatten.Perm cs.flatten := by
    have h1 := flat_perm (filt_perm W cs)
    rw [hT, List.flatten_append, List.flatten_append] at h1
    refine .trans ?_ h1
    rw [List.flatten_cons, List.append_assoc, List.append_assoc, show [c0].flatten = c0 by simp]
    exact (List.perm_append_comm).append_left c0
  have hnd : ((c0 ++ (cs.filter fun c => !W c).flatten) :: selA i0 W true cs).flatten.Nodup := (hperm.pairwise_iff (R := (· ≠ ·)) fun h => Ne.symm h).2 hc.nd
  rw [List.flatten_cons, List.nodup_append] at hnd
  have hin := comps_in hc
  have hbd : ∀ x ∈ c0 ++ (cs.filter fun c => !W c).flatten, 0 ≤ x ∧ x < n := fun x hx => by
    have h1 : x ∈ cs.flatten := hperm.mem_iff.1 (by rw [List.flatten_cons, List.mem_append]; exact .inl hx)
    exact upTo_mem.1 ((hc.mem x).1 h1)
  have hs := normI_sort hnd.1 hbd
  have hc0 : c0 ≠ [] := hc.ne c0 (List.mem_of_getElem? h0)
  have hTm : ∀ c ∈ selA i0 W true cs, c ∈ cs := fun c h => (selA_mem h).1
  have hout : ∀ c ∈ out, c ≠ [] ∧ c.Nodup ∧ ∀ x ∈ c, 0 ≤ x ∧ x < n := fun c h => by
    have h1 := hp.mem_iff.1 h
    rw [hM, List.mem_cons] at h1
    rcases h1 with rfl | h1
    · exact ⟨fun e => hc0 (List.append_eq_nil_iff.1 e).1, hnd.1, hbd⟩
    · exact ⟨hc.ne c (hTm c h1), (hc.asc c (hTm c h1)).imp fun h => by omega, hin.1 c (hTm c h1)⟩
  have hR : (out.map (normI n)).Perm ds := by
    refine .trans ((hp.map (normI n))) ?_
    rw [hM, List.map_cons, hs, map_norm fun c h => normI_id (hc.asc c (hTm c h)) (hin.1 c (hTm c h))]
    have h2 := hd.perm
    rw [hN] at h2
    exact (List.perm_append_singleton _ _).symm.trans h2.symm
  have hRa : (out.map (normI n)).Pairwise fun c d => headI c < headI d := by
    rw [List.pairwise_map]
    refine List.Pairwise.imp_of_mem (fun {a b} ha hb hab => ?_) ho
    rw [leastI_norm (hout a ha).1 (hout a ha).2.1 (hout a ha).2.2, leastI_norm (hout b hb).1 (hout b hb).2.1 (hout b hb).2.2]
    exact hab
  have hdn : ds.Pairwise fun c d => headI c ≠ headI d := (hR.pairwise_iff (R := fun c d => headI c ≠ headI d) fun h => Ne.symm h).1 (hRa.imp fun h => by omega)
  refine heads_ext hRa ?_ fun c => hR.mem_iff
  rw [List.pairwise_iff_getElem] at hdn ⊢
  intro i j hi hj hij
  have h1 := hdn i j hi hj hij
  have h2 := hd.ord i j _ _ hij (List.getElem?_eq_getElem hi) (List.getElem?_eq_getElem hj)
  omega
theorem merged_nil {W : List Int → Bool} {cs : List (List Int)} (h : idx W cs < 0) : mergedL W cs = [] := by
  have h1 := idx_any W cs
  rw [decide_eq_false (by omega)] at h1
  have h2 : cs.filter W = [] := List.filter_eq_nil_iff.2 fun x hx => by
    have := List.any_eq_false.1 h1.symm x hx
    exact this
  unfold mergedL
  rw [h2]
def loopR (n : Nat) (E : Nat → Nat → Bool) (S F : Nat → Bool) (cs : List (List Int)) : List (List Int) := (inL n S F ++ (cs.filter fun c => !okL n E S F c).flatten) :: cs.filter (okL n E S F)
theorem loop_law {n : Nat} {E : Nat → Nat → Bool} {S F : Nat → Bool} {cs : List (List Int)} (hc : Comps (outL n S F) (relE E) cs) : (loopR n E S F cs).map (normI n) = loopCs n E S F cs := by
  have hin : ∀ c ∈ cs, ∀ x ∈ c, x ∈ outL n S F := (comps_inL hc).1
  have hbd : ∀ c ∈ cs, ∀ x ∈ c, 0 ≤ x ∧ x < n := fun c h x hx => outL_bd.2 x (hin c h x hx)
  unfold loopR loopCs
  rw [List.map_cons, map_norm fun c h => normI_id (hc.asc c (List.mem_filter.1 h).1) (hbd c (List.mem_filter.1 h).1), normI_sort]
  · rw [List.nodup_append]
    refine ⟨((upTo_asc n).filter _).imp fun h => by omega, ?_, fun a ha b hb e => ?_⟩
    · have h1 := flat_perm (filt_perm (okL n E S F) cs)
      have h2 := (h1.pairwise_iff (R := (· ≠ ·)) fun h => Ne.symm h).2 hc.nd
      rw [List.flatten_append] at h2
      exact (List.nodup_append.1 h2).2.1
    · subst e
      obtain ⟨c, hcm, hx⟩ := List.mem_flatten.1 hb
      have h1 := hin c (List.mem_filter.1 hcm).1 a hx
      unfold inL at ha
      unfold outL at h1
      have h2 := (List.mem_filter.1 ha).2
      have h3 := (List.mem_filter.1 h1).2
      rw [h2] at h3; exact absurd h3 (by decide)
  · intro x hx
    rcases List.mem_append.1 hx with h | h
    · exact inL_bd.2 x h
    · obtain ⟨c, hcm, hx⟩ := List.mem_flatten.1 h
      exact hbd c (List.mem_filter.1 hcm).1 x hx
def RefQ (l : List ByteArray) (n : Nat) (E : Nat → Nat → Bool) (S F : Nat → Bool) : Nat → Option Cut → Prop
  | 0, o => ∃ cs, Comps (marked n fun _ => true) (togI E (reachB n E) 1) cs ∧ o = cutOpt l 1 (cs.map (normI n))
  | 1, o => ∃ (cs out : List (List Int)), Comps (marked n fun _ => true) (togI E (reachB n E) 2) cs ∧ out.Perm cs ∧ out.Pairwise (relO (reachB n E)) ∧ o = cutOpt l 2 (out.map (normI n))
  | 2, o => ∃ (cs out : List (List Int)), Comps (marked n fun _ => true) (togI E (reachB n E) 3) cs ∧ out.Perm (mergedL (wholeB S F) cs) ∧ out.Pairwise (fun c d => leastI c < leastI d) ∧ o = cutOpt l 3 (out.map (normI n))
  | _, o => (inL n S F = [] ∧ o = none) ∨ (inL n S F ≠ [] ∧ ∃ cs, Comps (marked n fun i => !S i && !F i) (togI E (reachB n E) 1) cs ∧ o = cutOpt l 4 ((loopR n E S F cs).map (normI n)))
theorem gets_law {l : List ByteArray} {n : Nat} {E : Nat → Nat → Bool} {S F : Nat → Bool} {o o' : Option Cut} : ∀ k, k < 4 → RefQ l n E S F k o' → CutQ l n E S F k o → o' = o
  | 0, _, h1, h2 => by
    obtain ⟨cs, hc, rfl⟩ := h1
    obtain ⟨ds, hd, rfl⟩ := h2
    rw [marked_all] at hc
    have e := comps_eq hc hd fun x _ y _ _ => tog_E x y
    subst e
    rw [map_norm (norm_comps hd fun x hx => upTo_mem.1 hx)]
  | 1, _, h1, h2 => by
    obtain ⟨cs, out, hc, hp, ho, rfl⟩ := h1
    obtain ⟨ds, hd, rfl⟩ := h2
    rw [marked_all] at hc
    have hc' := comps_ne hc fun x _ y _ _ => tog_S x y
    have e := seq_law hc' hp ho hd
    subst e
    rw [map_norm fun c h => norm_comps hc' (fun x hx => upTo_mem.1 hx) c (hp.mem_iff.1 h)]
  | 2, _, h1, h2 => by
    obtain ⟨cs, out, hc, hp, ho, rfl⟩ := h1
    obtain ⟨cs', hc', h3⟩ := h2
    rw [marked_all] at hc
    have e := comps_eq hc hc' fun x _ y _ h => tog_A h
    subst e
    rcases h3 with ⟨h3, rfl⟩ | ⟨i0, c0, ds, h3, h4, h5, rfl⟩
    · rw [merged_nil h3] at hp
      rw [List.Perm.eq_nil hp]; rfl
    · rw [and_law hc' h3 h4 h5 hp ho]
  | 3, _, h1, h2 => by
    rcases h1 with ⟨h1, rfl⟩ | ⟨h1, cs, hc, rfl⟩
    · rcases h2 with ⟨_, rfl⟩ | ⟨cs', h2, _⟩
      · rfl
      · exact absurd h1 h2
    · rcases h2 with ⟨h2, _⟩ | ⟨cs', h2, hc', rfl⟩
      · exact absurd h2 h1
      · rw [marked_out] at hc
        have e := comps_eq hc hc' fun x _ y _ _ => tog_E x y
        subst e
        rw [loop_law hc']
  | k + 4, h, _, _ => absurd h (by omega)
theorem find_law {Q Q' : Nat → Option Cut → Prop} (h : ∀ k o o', k < 4 → Q' k o' → Q k o → o' = o) {o o' : Option Cut} (h1 : FindQ Q' o') (h2 : FindQ Q o) : o' = o := by
  rcases h1 with ⟨k, c, hk, hj, hq, rfl⟩ | ⟨hj, rfl⟩
  · rcases h2 with ⟨k', c', hk', hj', hq', rfl⟩ | ⟨hj', rfl⟩
    · rcases Nat.lt_trichotomy k k' with e | e | e
      · exact absurd (h k none (some c) hk hq (hj' k e)) (by simp)
      · subst e; exact h k _ _ hk hq hq'
      · exact absurd (h k' (some c') none hk' (hj k' e) hq') (by simp)
    · exact h k none (some c) hk hq (hj' k hk)
  · rcases h2 with ⟨k', c', hk', hj', hq', rfl⟩ | ⟨hj', rfl⟩
    · exact h k' (some c') none hk' (hj k' hk') hq'
    · rfl
end Go.Proofs.YtoanjgpdepaciaaGreat
