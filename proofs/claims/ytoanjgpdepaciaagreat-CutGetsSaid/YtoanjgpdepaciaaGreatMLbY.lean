/-
  Walks: the reference's Get, Find, Same; the cut functions on graphs that are not valid.
-/
import Derived.Test.YtoanjgpdepaciaaGreatMLbW
import Derived.Test.YtoanjgpdepaciaaGreatLp
namespace Go.Proofs.YtoanjgpdepaciaaGreat
open Go.RowKit Go.Cb Go.En
set_option linter.all false
set_option maxRecDepth 100000

theorem tAgg25_LbY : AggT Tryz.prog 25 4 = true := by kernel_rfl
theorem tAgg28_LbY : AggT Tryz.prog 28 2 = true := by kernel_rfl
theorem tAgg86_LbY : AggT Tryz.prog 86 5 = true := by kernel_rfl
theorem tEl42_LbY : ElT Tryz.prog 42 35 1 8 .nilFunc := ⟨Tryz.underlying42, by kernel_rfl, rfl, by decide⟩
theorem tFl28_0_LbY : FldT Tryz.prog 28 0 0 = true := by kernel_rfl
theorem tFl28_1_LbY : FldT Tryz.prog 28 1 1 = true := by kernel_rfl
theorem tNa26_LbY : NoAgg Tryz.prog 26 = true := by kernel_rfl
theorem tNa35_LbY : NoAgg Tryz.prog 35 = true := by kernel_rfl
theorem tNa3_LbY : NoAgg Tryz.prog 3 = true := by kernel_rfl
theorem tNa71_LbY : NoAgg Tryz.prog 71 = true := by kernel_rfl
theorem tSl42_LbY : SlT Tryz.prog 42 35 1 = true := by kernel_rfl
theorem tSt28_LbY : stInfo Tryz.prog 28 = some ((.agg #[(.int .i64 0), (.slice none 0 0)]), ([0, 1] : List Nat).map fun o => (o, 1)) := by kernel_rfl
theorem tSz71_LbY : (Tryz.prog.info? 71).map (·.size) = some 1 := by kernel_rfl
theorem tZr28_LbY : ZeroT Tryz.prog 28 (.agg #[(.int .i64 0), (.slice none 0 0)]) := by unfold ZeroT; kernel_rfl
theorem tZr71_LbY : ZeroT Tryz.prog 71 (.pointer none) := by unfold ZeroT; kernel_rfl
theorem tZr86_LbY : ZeroT Tryz.prog 86 (.agg #[(.slice none 0 0), (.slice none 0 0), (.slice none 0 0), (.slice none 0 0), (.slice none 0 0)]) := by unfold ZeroT; kernel_rfl

def refO2 (o : Option Cut) : PV := pBool o.isSome
theorem refO_sh (o : Option Cut) : shD (.tup [cutO1 o, refO2 o]) = true := by cases o <;> rfl
theorem nodup_bd {n : Nat} {c : List Int} (h : c.Nodup) (hb : ∀ x ∈ c, 0 ≤ x ∧ x < n) : c.length ≤ n := by
  have := nodup_len h (m := upTo n) fun x hx => upTo_mem.2 (hb x hx)
  rw [upTo_len] at this; exact this
theorem comps_ok {n : Nat} {l : List Int} {r : Int → Int → Bool} {cs : List (List Int)} (hc : Comps l r cs) (hl : ∀ x ∈ l, 0 ≤ x ∧ x < n) : ∀ c ∈ cs, c.Nodup ∧ ∀ x ∈ c, 0 ≤ x ∧ x < n := fun c h => ⟨(hc.asc c h).imp fun h => by omega, fun x hx => hl x ((hc.mem x).1 (List.mem_flatten.2 ⟨c, h, hx⟩))⟩
theorem merged_ok {n : Nat} {r : Int → Int → Bool} {W : List Int → Bool} {cs : List (List Int)} (hc : Comps (upTo n) r cs) : (∀ c ∈ mergedL W cs, c.Nodup ∧ ∀ x ∈ c, 0 ≤ x ∧ x < n) ∧ (mergedL W cs).length ≤ n := by
  have hin := comps_in hc
  have hlen := List.length_filter_le W cs
  have hperm0 := flat_perm (filt_perm W cs)
  rw [List.flatten_append] at hperm0
  cases hf : cs.filter W with
  | nil => unfold mergedL; rw [hf]; exact ⟨fun c h => by simp at h, by simp⟩
  | cons c0 t =>
    rw [merged_cons hf]
    rw [hf] at hlen hperm0
    have hmem : ∀ c ∈ c0 :: t, c ∈ cs := fun c hm => (List.mem_filter.1 (hf ▸ hm)).1
    have hperm : (c0 ++ (cs.filter fun c => !W c).flatten ++ t.flatten).Perm cs.flatten := by
      refine .trans ?_ hperm0
      rw [List.flatten_cons, List.append_assoc, List.append_assoc]
      exact (List.perm_append_comm).append_left c0
    have hnd : (c0 ++ (cs.filter fun c => !W c).flatten ++ t.flatten).Nodup := (hperm.pairwise_iff (R := (· ≠ ·)) fun h => Ne.symm h).2 hc.nd
    refine ⟨fun c hm => ?_, by simp only [List.length_cons] at hlen ⊢; omega⟩
    rcases List.mem_cons.1 hm with rfl | hm
    · exact ⟨(List.nodup_append.1 hnd).1, fun x hx => upTo_mem.1 ((hc.mem x).1 (hperm.mem_iff.1 (List.mem_append_left _ hx)))⟩
    · have h1 := hmem c (by simp [hm])
      exact ⟨(hc.asc c h1).imp fun h => by omega, hin.1 c h1⟩
theorem loop_ok {n : Nat} {E : Nat → Nat → Bool} {r : Int → Int → Bool} {S F : Nat → Bool} {cs : List (List Int)} (hc : Comps (outL n S F) r cs) : (∀ c ∈ loopR n E S F cs, c.Nodup ∧ ∀ x ∈ c, 0 ≤ x ∧ x < n) ∧ (loopR n E S F cs).length ≤ n + 1 := by
  have hin : ∀ c ∈ cs, ∀ x ∈ c, x ∈ outL n S F := (comps_inL hc).1
  have hbd : ∀ c ∈ cs, ∀ x ∈ c, 0 ≤ x ∧ x < n := fun c h x hx => outL_bd.2 x (hin c h x hx)
  refine ⟨fun c hm => ?_, ?_⟩
  · unfold loopR at hm
    rcases List.mem_cons.1 hm with rfl | hm
    · refine ⟨?_, fun x hx => ?_⟩
      · rw [List.nodup_append]
        refine ⟨((upTo_asc n).filter _).imp fun h => by omega, ?_, fun a ha b hb e => ?_⟩
        · have h1 := flat_perm (filt_perm (okL n E S F) cs)
          have h2 := (h1.pairwise_iff (R := (· ≠ ·)) fun h => Ne.symm h).2 hc.nd
          rw [List.flatten_append] at h2
          exact (List.nodup_append.1 h2).2.1
        · subst e
          obtain ⟨c, hcm, hx⟩ := List.mem_flatten.1 hb
          have h1 := hin c (List.mem_filter.1 hcm).1 a hx
          unfold inL at ha
          unfold outL at h1
          have h2 := (List.mem_filter.1 ha).2
          have h3 := (List.mem_filter.1 h1).2
          rw [h2] at h3; exact absurd h3 (by decide)
      · rcases List.mem_append.1 hx with h | h
        · exact inL_bd.2 x h
        · obtain ⟨c, hcm, hx⟩ := List.mem_flatten.1 h
          exact hbd c (List.mem_filter.1 hcm).1 x hx
    · have h1 := (List.mem_filter.1 hm).1
      exact ⟨(hc.asc c h1).imp fun h => by omega, hbd c h1⟩
  · have h1 := (comps_inL hc).2.1
    have h2 := List.length_filter_le (okL n E S F) cs
    have h3 := (outL_bd (n := n) (S := S) (F := F)).1
    unfold loopR
    rw [List.length_cons]; omega
theorem rCut36_e (l : List ByteArray) (n : Nat) (E R : Nat → Nat → Bool) (S F : Nat → Bool) (kind : Int) (cs : List (List Int)) (hl : l.length = n) (hn : n ≤ 1000) (hcs : ∀ c ∈ cs, c.Nodup ∧ ∀ x ∈ c, 0 ≤ x ∧ x < n) (hcl : cs.length ≤ 1000000) : AF Tryz.prog 75 [.agg (cView l n E R S F), pInt kind, pIntss cs] (fun p => ∃ i : { o // o = cutOpt l kind (cs.map (normI n)) }, p = .tup [cutO1 i.1, refO2 i.1]) := by
  by_cases h : cs.length < 2
  · refine (rCut36_lt l n E R S F kind cs h).mono fun p hp => ⟨⟨_, rfl⟩, ?_⟩
    unfold cutOpt
    rw [hp, if_pos (by rw [List.length_map]; exact h)]; rfl
  · refine (rCut36_ge l n E R S F kind cs hl hn (by omega) (fun c hc => ⟨(hcs c hc).1, by have := nodup_bd (hcs c hc).1 (hcs c hc).2; omega⟩) hcl).mono fun p hp => ⟨⟨_, rfl⟩, ?_⟩
    unfold cutOpt
    rw [hp, if_neg (by rw [List.length_map]; exact h)]; rfl
theorem rOrdered_c (l : List ByteArray) (n : Nat) (E : Nat → Nat → Bool) (S F : Nat → Bool) (cs : List (List Int)) (hn : n ≤ 1000) (hc : Comps (upTo n) (relS (reachB n E)) cs) : AF Tryz.prog 76 [.agg (cView l n E (reachB n E) S F), pIntss cs] (fun p => ∃ out, out.Perm cs ∧ out.Pairwise (relO (reachB n E)) ∧ p = pIntss out) := by
  have hin := comps_in hc
  refine rOrdered_e l n E (reachB n E) S F cs hn (fun c h => ⟨hc.ne c h, hin.1 c h⟩) (by omega) ?_ ?_
  · exact List.Pairwise.imp_of_mem (fun {a b} ha hb hab => seq_apart hc ha hb hab) (heads_ne hc)
  · intro c h d h' e h'' h1 h2
    have b1 := hin.1 c h _ (headI_mem (hc.ne c h))
    have b2 := hin.1 d h' _ (headI_mem (hc.ne d h'))
    have b3 := hin.1 e h'' _ (headI_mem (hc.ne e h''))
    exact (reach_closed n E).2 _ _ _ (by omega) (by omega) (by omega) h1 h2
def LoopX (n : Nat) (E : Nat → Nat → Bool) (S F : Nat → Bool) (xs : List (List Int)) : Prop := (inL n S F = [] ∧ xs = []) ∨ (inL n S F ≠ [] ∧ ∃ cs, Comps (marked n fun i => !S i && !F i) (togI E (reachB n E) 1) cs ∧ xs = loopR n E S F cs)
theorem loopX_ok {n : Nat} {E : Nat → Nat → Bool} {S F : Nat → Bool} {xs : List (List Int)} (h : LoopX n E S F xs) : (∀ c ∈ xs, c.Nodup ∧ ∀ x ∈ c, 0 ≤ x ∧ x < n) ∧ xs.length ≤ n + 1 := by
  rcases h with ⟨_, rfl⟩ | ⟨_, cs, h2, rfl⟩
  · exact ⟨fun c h => by simp at h, Nat.zero_le _⟩
  · rw [marked_out] at h2
    exact loop_ok h2
theorem loopX_q {l : List ByteArray} {n : Nat} {E : Nat → Nat → Bool} {S F : Nat → Bool} {xs : List (List Int)} {o : Option Cut} (h : LoopX n E S F xs) (ho : o = cutOpt l 4 (xs.map (normI n))) : RefQ l n E S F 3 o := by
  rcases h with ⟨h1, rfl⟩ | ⟨h1, cs, h2, rfl⟩
  · exact .inl ⟨h1, ho⟩
  · exact .inr ⟨h1, cs, h2, ho⟩
theorem rLooped_c (l : List ByteArray) (n : Nat) (E : Nat → Nat → Bool) (S F : Nat → Bool) (hl : l.length = n) (hn : n ≤ 1000) : AF Tryz.prog 80 [.agg (cView l n E (reachB n E) S F)] (fun p => ∃ xs : { xs : List (List Int) // LoopX n E S F xs }, p = pIntss xs.1) :=
  (rLooped_e l n E (reachB n E) S F hl hn).mono fun p hp => by
    rcases hp with ⟨h1, rfl⟩ | ⟨h1, cs, h2, rfl⟩
    · exact ⟨⟨[], .inl ⟨h1, rfl⟩⟩, rfl⟩
    · exact ⟨⟨_, .inr ⟨h1, cs, h2, rfl⟩⟩, rfl⟩
set_option maxHeartbeats 2000000 in
theorem rGet36_e (g : Dfg) (l : List ByteArray) (n : Nat) (E : Nat → Nat → Bool) (S F : Nat → Bool) (kind : Int) (hk : 1 ≤ kind ∧ kind ≤ 4) (hv : AF Tryz.prog 48 [pDfg g] (· = .agg (cView l n E (reachB n E) S F))) (hl : l.length = n) (hn : n ≤ 1000) : AF Tryz.prog 24 [pDfg g, pInt kind] (fun p => ∃ i : { o // RefQ l n E S F (kind.toNat - 1) o }, p = .tup [cutO1 i.1, refO2 i.1]) := by
  refine AF.of_body 57 Tryz.func24 rfl Tryz.ntmps24 (Nat.le_of_ble_eq_true rfl) ?_
  intro w0 M0 vs hl hv
  obtain ⟨v0, v1, rfl⟩ := len2 hl
  obtain rfl := hv 1 _ _ rfl rfl
  clear hl hv
  dsimp only [cView] at hv
  refine nav ?_
  (refine aC_region ?_
    <;> refine s_boxa 2 4 fun h2 => ?_
    <;> refine s_alloc [(.int .i64 0), (.slice none 0 0)] 2 4 tZr28_LbY fun h4 => ?_
    <;> refine xL 5 q_assign ?_
    <;> refine aL_end (nav ?_) <;> try dsimp only)
  (refine aC_region ?_
    <;> (refine yL 7 (q_ldao 2 tAgg25_LbY) fun v7 hv7 => ?_; cases hv7)
    <;> (refine cD 8 (cA Tryz.call48 (hv)) fun v8 hv8 => ?_; clear hv8)
    <;> refine s_alloc [(.slice none 0 0), (.slice none 0 0), (.slice none 0 0), (.slice none 0 0), (.slice none 0 0)] 5 6 tZr86_LbY fun h6 => ?_
    <;> refine s_sta 6 tAgg86_LbY ?_
    <;> refine aL_end (nav ?_) <;> try dsimp only)
  (refine aC_region ?_
    <;> refine xL 9 q_move ?_
    <;> refine aL_end (nav ?_) <;> try dsimp only)
  (refine aC_region ?_
    <;> refine xL 11 q_eql ?_
    <;> refine xL 10 q_assign ?_
    <;> refine aL_end (nav ?_) <;> try dsimp only)
  first | refine cCd (fun hb10 => ?_) (fun hb10 => ?_) | refine cC (fun hb10 => ?_) (fun hb10 => ?_)
  · first
    | exact Bool.noConfusion hb10
    | (
     obtain rfl : kind = 2 := by omega
     refine nav ?_
     (refine aC_draw (fun i => ([] : List Nat).elem i) [2, 6] (by kernel_rfl) ?_
       <;> (refine yD 0 12 rfl (q_ldao 6 tAgg86_LbY) fun v12 hv12 => ?_; cases hv12)
       <;> refine xD 1 13 rfl q_move ?_
       <;> (refine yD 2 14 rfl (q_ldao 6 tAgg86_LbY) fun v14 hv14 => ?_; cases hv14)
       <;> (refine yD 3 15 rfl (q_ldao 6 tAgg86_LbY) fun v15 hv15 => ?_; cases hv15)
       <;> refine xD 4 16 rfl q_move ?_
       <;> (refine yE 5 17 rfl (q_ldao 6 tAgg86_LbY) fun v17 hv17 => ?_; cases hv17)
       <;> (refine aD_one 6 (by kernel_rfl) ?_)
       <;> (refine aW_run rfl fun w9 M9 N9 DQ back => ?_)
       <;> (refine cO 18 (cA Tryz.call78 (rAll36_e l n E (reachB n E) S F hl hn)) fun v18 ho18 => ?_; refine aL_ent (En.freeze (l := 18) (t := 18) rfl rfl) fun _ => ?_; rw [share_bools])
       <;> refine aL_end (back _ (nrm ?_))
       <;> (refine aD_one 7 (by kernel_rfl) ?_)
       <;> (refine aW_run rfl fun w9 M9 N9 DQ back => ?_)
       <;> (refine aL_co 19 rfl rfl (Nat.le_of_ble_eq_true rfl) rfl (cA Tryz.call77 (rClasses_e l n E (reachB n E) S F 2 (fun _ => true) hl hn)) ?_; rintro p' ⟨cs, hcs, rfl⟩; refine ⟨rfl, fun h19 ho19 => ?_⟩; have hcs' := hcs; rw [marked_all] at hcs'; have hcs2 := comps_ne hcs' fun x _ y _ _ => tog_S x y; refine aL_ent (En.freeze (l := 19) (t := 19) rfl rfl) fun _ => ?_; rw [shr_intss _ _ _ rfl])
       <;> refine aL_end (back _ (nrm ?_))
       <;> (refine aD_one 8 (by kernel_rfl) ?_)
       <;> (refine aW_run rfl fun w9 M9 N9 DQ back => ?_)
       <;> (refine aL_cs 20 rfl rfl (Nat.le_of_ble_eq_true rfl) (cA Tryz.call76 (rOrdered_c l n E S F cs hn hcs2)) ?_; rintro p' ⟨out, hpo, hso, rfl⟩; refine ⟨rfl, ?_⟩; intro v20 hv20)
       <;> refine aL_end (back _ (nrm ?_))
       <;> (refine aD_one 9 (by kernel_rfl) ?_)
       <;> (refine aW_run rfl fun w9 M9 N9 DQ back => ?_)
       <;> (refine cPx 21 (cA Tryz.call75 (rCut36_e l n E (reachB n E) S F 2 out hl hn (fun c h => comps_ok hcs2 (fun x hx => upTo_mem.1 hx) c (hpo.mem_iff.1 h)) (by have := (comps_in hcs2).2.1; rw [hpo.length_eq]; omega))) (fun i va21 vb21 hva21 hvb21 => ?_) (fun i => refO_sh i.1); rcases i with ⟨_ | cc, hq⟩ <;> (dsimp only [cutO1, refO2] at hva21 hvb21 ⊢; cases hvb21))
       <;> refine aL_end (back _ (nrm ?_))
       <;> refine xD 10 22 rfl q_extract ?_
       <;> refine xE 11 23 rfl q_extract ?_
       <;> (refine aD_one 12 (by kernel_rfl) ?_)
       <;> (refine aW_run rfl fun w9 M9 N9 DQ back => ?_)
       <;> refine s_sta 4 tAgg28_LbY ?_
       <;> refine aL_end (back _ (nrm ?_))
       <;> refine xE 13 5 rfl q_assign ?_
       <;> refine aD_end (by kernel_rfl) (nav ?_)
       <;> try dsimp only) <;> (
      first
        | exact ret_cs (k := 2) 4 (by kernel_rfl) (Tryz.results24) rfl rfl rfl (Nat.le_of_ble_eq_true rfl) (by decide) rfl ⟨⟨none, cs, out, hcs, hpo, hso, hq⟩, rfl⟩
        | exact ret_cs (k := 2) 4 (by kernel_rfl) (Tryz.results24) rfl rfl rfl (Nat.le_of_ble_eq_true rfl) (by decide) rfl ⟨⟨some cc, cs, out, hcs, hpo, hso, hq⟩, rfl⟩))
  · first
    | exact Bool.noConfusion hb10
    | (
     refine nav ?_
     (refine aC_region ?_
       <;> refine xL 25 q_eql ?_
       <;> refine xL 24 q_assign ?_
       <;> refine aL_end (nav ?_) <;> try dsimp only)
     first | refine cCd (fun hb24 => ?_) (fun hb24 => ?_) | refine cC (fun hb24 => ?_) (fun hb24 => ?_)
     · first
       | exact Bool.noConfusion hb24
       | (
        obtain rfl : kind = 3 := by omega
        refine nav ?_
        (refine aC_draw (fun i => ([] : List Nat).elem i) [2, 6] (by kernel_rfl) ?_
          <;> (refine yD 0 26 rfl (q_ldao 6 tAgg86_LbY) fun v26 hv26 => ?_; cases hv26)
          <;> refine xD 1 27 rfl q_move ?_
          <;> (refine yD 2 28 rfl (q_ldao 6 tAgg86_LbY) fun v28 hv28 => ?_; cases hv28)
          <;> (refine yD 3 29 rfl (q_ldao 6 tAgg86_LbY) fun v29 hv29 => ?_; cases hv29)
          <;> refine xD 4 30 rfl q_move ?_
          <;> (refine yE 5 31 rfl (q_ldao 6 tAgg86_LbY) fun v31 hv31 => ?_; cases hv31)
          <;> (refine aD_one 6 (by kernel_rfl) ?_)
          <;> (refine aW_run rfl fun w9 M9 N9 DQ back => ?_)
          <;> (refine cO 32 (cA Tryz.call78 (rAll36_e l n E (reachB n E) S F hl hn)) fun v32 ho32 => ?_; refine aL_ent (En.freeze (l := 32) (t := 32) rfl rfl) fun _ => ?_; rw [share_bools])
          <;> refine aL_end (back _ (nrm ?_))
          <;> (refine aD_one 7 (by kernel_rfl) ?_)
          <;> (refine aW_run rfl fun w9 M9 N9 DQ back => ?_)
          <;> (refine aL_co 33 rfl rfl (Nat.le_of_ble_eq_true rfl) rfl (cA Tryz.call77 (rClasses_e l n E (reachB n E) S F 3 (fun _ => true) hl hn)) ?_; rintro p' ⟨cs, hcs, rfl⟩; refine ⟨rfl, fun h33 ho33 => ?_⟩; have hcs' := hcs; rw [marked_all] at hcs'; refine aL_ent (En.freeze (l := 33) (t := 33) rfl rfl) fun _ => ?_; rw [shr_intss _ _ _ rfl])
          <;> refine aL_end (back _ (nrm ?_))
          <;> (refine aD_one 8 (by kernel_rfl) ?_)
          <;> (refine aW_run rfl fun w9 M9 N9 DQ back => ?_)
          <;> (refine aL_cs 34 rfl rfl (Nat.le_of_ble_eq_true rfl) (cA Tryz.call79 (rMerged_e l n E (reachB n E) S F cs _ hn hcs')) ?_; rintro p' ⟨out, hpo, hso, rfl⟩; refine ⟨rfl, ?_⟩; intro v34 hv34)
          <;> refine aL_end (back _ (nrm ?_))
          <;> (refine aD_one 9 (by kernel_rfl) ?_)
          <;> (refine aW_run rfl fun w9 M9 N9 DQ back => ?_)
          <;> (refine cPx 35 (cA Tryz.call75 (rCut36_e l n E (reachB n E) S F 3 out hl hn (fun c h => (merged_ok hcs').1 c (hpo.mem_iff.1 h)) (by have := (merged_ok (W := wholeB S F) hcs').2; rw [hpo.length_eq]; omega))) (fun i va35 vb35 hva35 hvb35 => ?_) (fun i => refO_sh i.1); rcases i with ⟨_ | cc, hq⟩ <;> (dsimp only [cutO1, refO2] at hva35 hvb35 ⊢; cases hvb35))
          <;> refine aL_end (back _ (nrm ?_))
          <;> refine xD 10 36 rfl q_extract ?_
          <;> refine xE 11 37 rfl q_extract ?_
          <;> (refine aD_one 12 (by kernel_rfl) ?_)
          <;> (refine aW_run rfl fun w9 M9 N9 DQ back => ?_)
          <;> refine s_sta 4 tAgg28_LbY ?_
          <;> refine aL_end (back _ (nrm ?_))
          <;> refine xE 13 5 rfl q_assign ?_
          <;> refine aD_end (by kernel_rfl) (nav ?_)
          <;> try dsimp only) <;> (
         first
           | exact ret_cs (k := 2) 4 (by kernel_rfl) (Tryz.results24) rfl rfl rfl (Nat.le_of_ble_eq_true rfl) (by decide) rfl ⟨⟨none, cs, out, hcs, hpo, hso, hq⟩, rfl⟩
           | exact ret_cs (k := 2) 4 (by kernel_rfl) (Tryz.results24) rfl rfl rfl (Nat.le_of_ble_eq_true rfl) (by decide) rfl ⟨⟨some cc, cs, out, hcs, hpo, hso, hq⟩, rfl⟩))
     · first
       | exact Bool.noConfusion hb24
       | (
        refine nav ?_
        (refine aC_region ?_
          <;> refine xL 39 q_eql ?_
          <;> refine xL 38 q_assign ?_
          <;> refine aL_end (nav ?_) <;> try dsimp only)
        first | refine cCd (fun hb38 => ?_) (fun hb38 => ?_) | refine cC (fun hb38 => ?_) (fun hb38 => ?_)
        · first
          | exact Bool.noConfusion hb38
          | (
           obtain rfl : kind = 4 := by omega
           refine nav ?_
           (refine aC_draw (fun i => ([] : List Nat).elem i) [2, 6] (by kernel_rfl) ?_
             <;> (refine yD 0 40 rfl (q_ldao 6 tAgg86_LbY) fun v40 hv40 => ?_; cases hv40)
             <;> refine xD 1 41 rfl q_move ?_
             <;> (refine yE 2 42 rfl (q_ldao 6 tAgg86_LbY) fun v42 hv42 => ?_; cases hv42)
             <;> (refine aD_one 3 (by kernel_rfl) ?_)
             <;> (refine aW_run rfl fun w9 M9 N9 DQ back => ?_)
             <;> (refine aL_cs 43 rfl rfl (Nat.le_of_ble_eq_true rfl) (cA Tryz.call80 (rLooped_c l n E S F hl hn)) ?_; rintro p' ⟨⟨xs, hxs⟩, rfl⟩; refine ⟨rfl, ?_⟩; intro v43 hv43; dsimp only)
             <;> refine aL_end (back _ (nrm ?_))
             <;> (refine aD_one 4 (by kernel_rfl) ?_)
             <;> (refine aW_run rfl fun w9 M9 N9 DQ back => ?_)
             <;> (refine cPx 44 (cA Tryz.call75 (rCut36_e l n E (reachB n E) S F 4 xs hl hn (loopX_ok hxs).1 (by have := (loopX_ok hxs).2; omega))) (fun i va44 vb44 hva44 hvb44 => ?_) (fun i => refO_sh i.1); have hq0 : RefQ l n E S F 3 i.1 := loopX_q hxs i.2; rcases i with ⟨_ | cc, hq⟩ <;> (dsimp only [cutO1, refO2] at hva44 hvb44 ⊢; cases hvb44))
             <;> refine aL_end (back _ (nrm ?_))
             <;> refine xD 5 45 rfl q_extract ?_
             <;> refine xE 6 46 rfl q_extract ?_
             <;> (refine aD_one 7 (by kernel_rfl) ?_)
             <;> (refine aW_run rfl fun w9 M9 N9 DQ back => ?_)
             <;> refine s_sta 4 tAgg28_LbY ?_
             <;> refine aL_end (back _ (nrm ?_))
             <;> refine xE 8 5 rfl q_assign ?_
             <;> refine aD_end (by kernel_rfl) (nav ?_)
             <;> try dsimp only) <;> (
            first
              | exact ret_cs (k := 2) 4 (by kernel_rfl) (Tryz.results24) rfl rfl rfl (Nat.le_of_ble_eq_true rfl) (by decide) rfl ⟨⟨none, hq0⟩, rfl⟩
              | exact ret_cs (k := 2) 4 (by kernel_rfl) (Tryz.results24) rfl rfl rfl (Nat.le_of_ble_eq_true rfl) (by decide) rfl ⟨⟨some cc, hq0⟩, rfl⟩))
        · first
          | exact Bool.noConfusion hb38
          | (
           obtain rfl : kind = 1 := by omega
           refine nav ?_
           (refine aC_draw (fun i => ([] : List Nat).elem i) [2, 6] (by kernel_rfl) ?_
             <;> (refine yD 0 47 rfl (q_ldao 6 tAgg86_LbY) fun v47 hv47 => ?_; cases hv47)
             <;> refine xD 1 48 rfl q_move ?_
             <;> (refine yD 2 49 rfl (q_ldao 6 tAgg86_LbY) fun v49 hv49 => ?_; cases hv49)
             <;> refine xD 3 50 rfl q_move ?_
             <;> (refine yE 4 51 rfl (q_ldao 6 tAgg86_LbY) fun v51 hv51 => ?_; cases hv51)
             <;> (refine aD_one 5 (by kernel_rfl) ?_)
             <;> (refine aW_run rfl fun w9 M9 N9 DQ back => ?_)
             <;> (refine cO 52 (cA Tryz.call78 (rAll36_e l n E (reachB n E) S F hl hn)) fun v52 ho52 => ?_; refine aL_ent (En.freeze (l := 52) (t := 52) rfl rfl) fun _ => ?_; rw [share_bools])
             <;> refine aL_end (back _ (nrm ?_))
             <;> (refine aD_one 6 (by kernel_rfl) ?_)
             <;> (refine aW_run rfl fun w9 M9 N9 DQ back => ?_)
             <;> (refine aL_co 53 rfl rfl (Nat.le_of_ble_eq_true rfl) rfl (cA Tryz.call77 (rClasses_e l n E (reachB n E) S F 1 (fun _ => true) hl hn)) ?_; rintro p' ⟨cs, hcs, rfl⟩; refine ⟨rfl, fun h53 ho53 => ?_⟩; have hcs' := hcs; rw [marked_all] at hcs'; refine aL_ent (En.freeze (l := 53) (t := 53) rfl rfl) fun _ => ?_; rw [shr_intss _ _ _ rfl])
             <;> refine aL_end (back _ (nrm ?_))
             <;> (refine aD_one 7 (by kernel_rfl) ?_)
             <;> (refine aW_run rfl fun w9 M9 N9 DQ back => ?_)
             <;> (refine cPx 54 (cA Tryz.call75 (rCut36_e l n E (reachB n E) S F 1 cs hl hn (comps_ok hcs' fun x hx => upTo_mem.1 hx) (by have := (comps_in hcs').2.1; omega))) (fun i va54 vb54 hva54 hvb54 => ?_) (fun i => refO_sh i.1); rcases i with ⟨_ | cc, hq⟩ <;> (dsimp only [cutO1, refO2] at hva54 hvb54 ⊢; cases hvb54))
             <;> refine aL_end (back _ (nrm ?_))
             <;> refine xD 8 55 rfl q_extract ?_
             <;> refine xE 9 56 rfl q_extract ?_
             <;> (refine aD_one 10 (by kernel_rfl) ?_)
             <;> (refine aW_run rfl fun w9 M9 N9 DQ back => ?_)
             <;> refine s_sta 4 tAgg28_LbY ?_
             <;> refine aL_end (back _ (nrm ?_))
             <;> refine xE 11 5 rfl q_assign ?_
             <;> refine aD_end (by kernel_rfl) (nav ?_)
             <;> try dsimp only) <;> (
            first
              | exact ret_cs (k := 2) 4 (by kernel_rfl) (Tryz.results24) rfl rfl rfl (Nat.le_of_ble_eq_true rfl) (by decide) rfl ⟨⟨none, cs, hcs, hq⟩, rfl⟩
              | exact ret_cs (k := 2) 4 (by kernel_rfl) (Tryz.results24) rfl rfl rfl (Nat.le_of_ble_eq_true rfl) (by decide) rfl ⟨⟨some cc, cs, hcs, hq⟩, rfl⟩))))
set_option maxHeartbeats 1000000 in
theorem rFind36_e (g : Dfg) (l : List ByteArray) (n : Nat) (E : Nat → Nat → Bool) (S F : Nat → Bool) (hv : AF Tryz.prog 48 [pDfg g] (· = .agg (cView l n E (reachB n E) S F))) (hl : l.length = n) (hn : n ≤ 1000) : AF Tryz.prog 23 [pDfg g] (fun p => ∃ i : { o // FindQ (RefQ l n E S F) o }, p = .tup [cutO1 i.1, refO2 i.1]) := by
  refine AF.of_body 20 Tryz.func23 rfl Tryz.ntmps23 (Nat.le_of_ble_eq_true rfl) ?_
  intro w0 M0 vs hl hv
  obtain ⟨v0, rfl⟩ := len1 hl
  clear hl hv
  refine nav ?_
  (refine aC_region ?_
    <;> refine s_boxa 1 4 fun h1 => ?_
    <;> refine s_alloc [(.int .i64 0), (.slice none 0 0)] 2 2 tZr28_LbY fun h2 => ?_
    <;> refine xL 3 q_assign ?_
    <;> refine aL_end (nav ?_) <;> try dsimp only)
  (refine aC_region ?_
    <;> refine xL 4 q_assign ?_
    <;> refine aL_end (nav ?_) <;> try dsimp only)
  refine aC_loop (ι := { x : Int // 1 ≤ x ∧ x ≤ 5 ∧ ∀ j : Nat, (j : Int) + 1 < x → RefQ l n E S F j none }) (fun k => ⟨[(1, _, _), (2, _, _), (4, .int .i64 k.1, pInt k.1)], [(1, _, _), (2, _, _)]⟩) (fun k => (5 - k.1).toNat) ⟨1, by decide, by decide, fun j h => by omega⟩ (fun a w H => H.weaken ⟨rfl, rfl, rfl, trivial⟩ ⟨rfl, rfl, trivial⟩) ?_
  rintro ⟨k, hk1, hk5, hQ⟩
  dsimp only
  try dsimp only at hk1 hk5 hQ
  refine nav ?_
  (refine aC_region ?_
    <;> refine xL 7 q_move ?_
    <;> refine xL 8 q_leq ?_
    <;> refine aL_end (nav ?_) <;> try dsimp only)
  first | refine cCd (fun hb8 => ?_) (fun hb8 => ?_) | refine cC (fun hb8 => ?_) (fun hb8 => ?_)
  · first
    | exact Bool.noConfusion hb8
    | (
     refine nav ?_
     (refine aC_region ?_
       <;> (refine yL 12 (q_ldao 1 tAgg25_LbY) fun v12 hv12 => ?_; cases hv12)
       <;> refine xL 13 q_move ?_
       <;> (refine cPx 14 (cA Tryz.call24 (rGet36_e g l n E S F k ⟨hk1, by omega⟩ hv hl hn)) (fun i va14 vb14 hva14 hvb14 => ?_) (fun i => refO_sh i.1); rcases i with ⟨_ | cc, hq⟩ <;> (dsimp only [cutO1, refO2] at hva14 hvb14 ⊢; cases hvb14))
       <;> refine xL 11 q_move ?_
       <;> refine xL 15 q_extract ?_
       <;> refine xL 16 q_extract ?_
       <;> refine s_alloc [(.int .i64 0), (.slice none 0 0)] 2 5 tZr28_LbY fun h5 => ?_
       <;> refine s_sta 5 tAgg28_LbY ?_
       <;> refine xL 6 q_assign ?_
       <;> refine aL_end (nav ?_) <;> try dsimp only) <;> (
      (refine aC_region ?_
        <;> refine xL 17 q_move ?_
        <;> refine aL_end (nav ?_) <;> try dsimp only)
      first | refine cCd (fun hb17 => ?_) (fun hb17 => ?_) | refine cC (fun hb17 => ?_) (fun hb17 => ?_)
      · first
        | exact Bool.noConfusion hb17
        | (
         refine nav ?_
         (refine aC_region ?_
           <;> (refine yL 18 (q_ldao 5 tAgg28_LbY) fun v18 hv18 => ?_; cases hv18)
           <;> refine s_sta 2 tAgg28_LbY ?_
           <;> refine xL 3 q_assign ?_
           <;> refine aL_end (nav ?_) <;> try dsimp only)
         exact ret_cs (k := 2) 2 (by kernel_rfl) (Tryz.results23) rfl rfl rfl (Nat.le_of_ble_eq_true rfl) (by decide) rfl ⟨⟨some cc, .inl ⟨k.toNat - 1, cc, by omega, fun j hj => hQ j (by omega), hq, rfl⟩⟩, rfl⟩)
      · first
        | exact Bool.noConfusion hb17
        | (
         refine nav ?_
         (refine aC_region ?_
           <;> refine xL 9 q_move ?_
           <;> refine xL 10 q_add ?_
           <;> refine xL 4 q_assign ?_
           <;> refine aL_end (nav ?_) <;> try dsimp only)
         refine aN_again (
           ⟨k + 1, by omega, by omega, fun j hj => by
             by_cases e : (j : Int) + 1 = k
             · rw [show j = k.toNat - 1 by omega]; exact hq
             · exact hQ j (by omega)⟩
           ) (by show (5 - (k + 1)).toNat < (5 - k).toNat; omega) ⟨rfl, rfl, rfl, trivial⟩ ⟨rfl, rfl, trivial⟩)))
  · first
    | exact Bool.noConfusion hb8
    | (
     refine nav ?_
     (refine aC_region ?_
       <;> refine xL 19 (q_build tSt28_LbY) ?_
       <;> refine s_sta 2 tAgg28_LbY ?_
       <;> refine xL 3 q_assign ?_
       <;> refine aL_end (nav ?_) <;> try dsimp only)
     exact ret_cs (k := 2) 2 (by kernel_rfl) (Tryz.results23) rfl rfl rfl (Nat.le_of_ble_eq_true rfl) (by decide) rfl ⟨⟨none, .inr ⟨fun j hj => hQ j (by omega), rfl⟩⟩, rfl⟩)
theorem sameAll_self (l : List (List ByteArray)) : sameAll l l = true := all2_end rfl fun k x y hx hy => by
  rw [hx] at hy; cases hy
  exact decide_eq_true (cmpStrs_zero.2 rfl)
theorem rSame36_c (c : Cut) : AF Tryz.prog 25 [pCut c, pCut c] (· = pBool true) := by
  refine AF.of_body 17 Tryz.func25 rfl Tryz.ntmps25 (Nat.le_of_ble_eq_true rfl) ?_
  intro w0 M0 vs hl hv
  obtain ⟨v0, v1, rfl⟩ := len2 hl
  clear hl hv
  refine nav ?_
  (refine aC_region ?_
    <;> refine s_boxa 2 2 fun h2 => ?_
    <;> refine s_boxa 3 2 fun h3 => ?_
    <;> refine xL 4 q_assign ?_
    <;> refine aL_end (nav ?_) <;> try dsimp only)
  (refine aC_region ?_
    <;> refine xL 5 (q_fldo 2 tFl28_0_LbY) ?_
    <;> (refine yL 6 (q_ldo 2 tNa3_LbY) fun v6 hv6 => ?_; cases hv6)
    <;> refine xL 7 (q_fldo 3 tFl28_0_LbY) ?_
    <;> (refine yL 8 (q_ldo 3 tNa3_LbY) fun v8 hv8 => ?_; cases hv8)
    <;> refine xL 9 q_eql ?_
    <;> refine xL 10 q_move ?_
    <;> (refine bLd 10 (fun hb10 => ?_) (fun hb10 => ?_) <;> (first | refine kL 11 ?_ | refine xL 11 (q_fldo 2 tFl28_1_LbY) ?_))
    <;> (first | refine kL 12 ?_ | (refine yL 12 (q_ldo 2 tNa26_LbY) fun v12 hv12 => ?_; cases hv12))
    <;> (first | refine kL 13 ?_ | refine xL 13 (q_fldo 3 tFl28_1_LbY) ?_)
    <;> (first | refine kL 14 ?_ | (refine yL 14 (q_ldo 3 tNa26_LbY) fun v14 hv14 => ?_; cases hv14))
    <;> (first | refine kL 15 ?_ | (refine cS 15 (cA Tryz.call81 ((rSameAll_e c.parts c.parts).mono (R' := (· = pBool true)) fun p hp => by rw [hp, sameAll_self])) fun v15 hv15 => ?_; cases hv15))
    <;> refine xL 16 q_pick ?_
    <;> refine xL 4 q_assign ?_
    <;> refine aL_end (nav ?_) <;> try dsimp only) <;> (try (first | exact absurd rfl hb9 | exact absurd rfl hb10 | exact Bool.noConfusion hb9 | exact Bool.noConfusion hb10)) <;> (
   exact ret_shr Tryz.results25 rfl rfl)
theorem rSame36_0 : AF Tryz.prog 25 [.agg [pInt 0, .val (.slice none 0 0)], .agg [pInt 0, .val (.slice none 0 0)]] (· = pBool true) := by
  refine AF.of_body 17 Tryz.func25 rfl Tryz.ntmps25 (Nat.le_of_ble_eq_true rfl) ?_
  intro w0 M0 vs hl hv
  obtain ⟨v0, v1, rfl⟩ := len2 hl
  clear hl hv
  refine nav ?_
  (refine aC_region ?_
    <;> refine s_boxa 2 2 fun h2 => ?_
    <;> refine s_boxa 3 2 fun h3 => ?_
    <;> refine xL 4 q_assign ?_
    <;> refine aL_end (nav ?_) <;> try dsimp only)
  (refine aC_region ?_
    <;> refine xL 5 (q_fldo 2 tFl28_0_LbY) ?_
    <;> (refine yL 6 (q_ldo 2 tNa3_LbY) fun v6 hv6 => ?_; cases hv6)
    <;> refine xL 7 (q_fldo 3 tFl28_0_LbY) ?_
    <;> (refine yL 8 (q_ldo 3 tNa3_LbY) fun v8 hv8 => ?_; cases hv8)
    <;> refine xL 9 q_eql ?_
    <;> refine xL 10 q_move ?_
    <;> refine xL 11 (q_fldo 2 tFl28_1_LbY) ?_
    <;> (refine yL 12 (q_ldo 2 tNa26_LbY) fun v12 hv12 => ?_; cases hv12)
    <;> refine xL 13 (q_fldo 3 tFl28_1_LbY) ?_
    <;> (refine yL 14 (q_ldo 3 tNa26_LbY) fun v14 hv14 => ?_; cases hv14)
    <;> (refine aL_ent (nilOwn 200 36 1 rfl) fun _ => ?_; refine aL_ent (En.freeze (l := 200) (t := 12) rfl rfl) fun _ => ?_; refine aL_ent (nilOwn 201 36 1 rfl) fun _ => ?_; refine aL_ent (En.freeze (l := 201) (t := 14) rfl rfl) fun _ => ?_; rw [show share (.own 36 1 0 []) = pStrss [] from share_strss _ 0 [] rfl]; refine cS 15 (cA Tryz.call81 ((rSameAll_e [] []).mono (R' := (· = pBool true)) fun p hp => by rw [hp]; rfl)) fun v15 hv15 => ?_; cases hv15)
    <;> refine xL 16 q_pick ?_
    <;> refine xL 4 q_assign ?_
    <;> refine aL_end (nav ?_) <;> try dsimp only) <;> (try (first | exact absurd rfl hb9 | exact absurd rfl hb10 | exact Bool.noConfusion hb9 | exact Bool.noConfusion hb10)) <;> (
   exact ret_shr Tryz.results25 rfl rfl)
def bad0 : PV := .tup [.agg [pInt 0, .val (.slice none 0 0)], pInt 1]
theorem cXor_bad (g : Dfg) (hb : AF Tryz.prog 43 [pDfg g] (· = .tup [.val (.pointer none), pInt 1])) : AF Tryz.prog 12 [pDfg g] (· = bad0) := by
  refine AF.of_body 23 Tryz.func12 rfl Tryz.ntmps12 (Nat.le_of_ble_eq_true rfl) ?_
  intro w0 M0 vs hl hv
  obtain ⟨v0, rfl⟩ := len1 hl
  clear hl hv
  refine nav ?_
  (refine aC_region ?_
    <;> refine s_boxa 1 4 fun h1 => ?_
    <;> refine s_alloc [(.int .i64 0), (.slice none 0 0)] 2 2 tZr28_LbY fun h2 => ?_
    <;> refine xL 3 q_assign ?_
    <;> refine aL_end (nav ?_) <;> try dsimp only)
  (refine aC_region ?_
    <;> (refine yL 7 (q_ldao 1 tAgg25_LbY) fun v7 hv7 => ?_; cases hv7)
    <;> (refine cP 8 (cA Tryz.call43 (hb)) fun va8 vb8 hva8 hvb8 => ?_; cases hvb8)
    <;> refine xL 6 q_move ?_
    <;> refine xL 9 q_extract ?_
    <;> refine xL 10 q_extract ?_
    <;> refine s_alloc [(.pointer none)] 1 4 tZr71_LbY fun h4 => ?_
    <;> refine s_st 4 tNa71_LbY tSz71_LbY ?_
    <;> refine xL 5 q_assign ?_
    <;> refine aL_end (nav ?_) <;> try dsimp only)
  (refine aC_region ?_
    <;> refine xL 11 q_move ?_
    <;> refine xL 12 q_neq ?_
    <;> refine aL_end (nav ?_) <;> try dsimp only)
  first | refine cCd (fun hb12 => ?_) (fun hb12 => ?_) | refine cC (fun hb12 => ?_) (fun hb12 => ?_)
  · refine nav ?_
    (refine aC_region ?_
      <;> refine xL 13 (q_build tSt28_LbY) ?_
      <;> refine xL 14 q_move ?_
      <;> refine s_sta 2 tAgg28_LbY ?_
      <;> refine xL 3 q_assign ?_
      <;> refine aL_end (nav ?_) <;> try dsimp only)
    exact ret_cs (k := 2) 2 (by kernel_rfl) (Tryz.results12) rfl rfl rfl (Nat.le_of_ble_eq_true rfl) (by decide) rfl rfl
  · exfalso; omega
theorem cSeq_bad (g : Dfg) (hb : AF Tryz.prog 43 [pDfg g] (· = .tup [.val (.pointer none), pInt 1])) : AF Tryz.prog 13 [pDfg g] (· = bad0) := by
  refine AF.of_body 31 Tryz.func13 rfl Tryz.ntmps13 (Nat.le_of_ble_eq_true rfl) ?_
  intro w0 M0 vs hl hv
  obtain ⟨v0, rfl⟩ := len1 hl
  clear hl hv
  refine nav ?_
  (refine aC_region ?_
    <;> refine s_boxa 1 4 fun h1 => ?_
    <;> refine s_alloc [(.int .i64 0), (.slice none 0 0)] 2 2 tZr28_LbY fun h2 => ?_
    <;> refine xL 3 q_assign ?_
    <;> refine aL_end (nav ?_) <;> try dsimp only)
  (refine aC_region ?_
    <;> (refine yL 9 (q_ldao 1 tAgg25_LbY) fun v9 hv9 => ?_; cases hv9)
    <;> (refine cP 10 (cA Tryz.call43 (hb)) fun va10 vb10 hva10 hvb10 => ?_; cases hvb10)
    <;> refine xL 8 q_move ?_
    <;> refine xL 11 q_extract ?_
    <;> refine xL 12 q_extract ?_
    <;> refine xL 4 q_assign ?_
    <;> refine xL 5 q_assign ?_
    <;> refine aL_end (nav ?_) <;> try dsimp only)
  (refine aC_region ?_
    <;> refine xL 13 q_move ?_
    <;> refine xL 14 q_neq ?_
    <;> refine aL_end (nav ?_) <;> try dsimp only)
  first | refine cCd (fun hb14 => ?_) (fun hb14 => ?_) | refine cC (fun hb14 => ?_) (fun hb14 => ?_)
  · refine nav ?_
    (refine aC_region ?_
      <;> refine xL 15 (q_build tSt28_LbY) ?_
      <;> refine xL 16 q_move ?_
      <;> refine s_sta 2 tAgg28_LbY ?_
      <;> refine xL 3 q_assign ?_
      <;> refine aL_end (nav ?_) <;> try dsimp only)
    exact ret_cs (k := 2) 2 (by kernel_rfl) (Tryz.results13) rfl rfl rfl (Nat.le_of_ble_eq_true rfl) (by decide) rfl rfl
  · exfalso; omega
theorem cAnd_bad (g : Dfg) (hb : AF Tryz.prog 43 [pDfg g] (· = .tup [.val (.pointer none), pInt 1])) : AF Tryz.prog 20 [pDfg g] (· = bad0) := by
  refine AF.of_body 74 Tryz.func20 rfl Tryz.ntmps20 (Nat.le_of_ble_eq_true rfl) ?_
  intro w0 M0 vs hl hv
  obtain ⟨v0, rfl⟩ := len1 hl
  clear hl hv
  refine nav ?_
  (refine aC_region ?_
    <;> refine s_boxa 1 4 fun h1 => ?_
    <;> refine s_alloc [(.int .i64 0), (.slice none 0 0)] 2 2 tZr28_LbY fun h2 => ?_
    <;> refine xL 3 q_assign ?_
    <;> refine aL_end (nav ?_) <;> try dsimp only)
  (refine aC_region ?_
    <;> (refine yL 14 (q_ldao 1 tAgg25_LbY) fun v14 hv14 => ?_; cases hv14)
    <;> (refine cP 15 (cA Tryz.call43 (hb)) fun va15 vb15 hva15 hvb15 => ?_; cases hvb15)
    <;> refine xL 13 q_move ?_
    <;> refine xL 16 q_extract ?_
    <;> refine xL 17 q_extract ?_
    <;> refine s_alloc [(.pointer none)] 1 4 tZr71_LbY fun h4 => ?_
    <;> refine s_st 4 tNa71_LbY tSz71_LbY ?_
    <;> refine xL 5 q_assign ?_
    <;> refine aL_end (nav ?_) <;> try dsimp only)
  (refine aC_region ?_
    <;> refine xL 18 q_move ?_
    <;> refine xL 19 q_neq ?_
    <;> refine aL_end (nav ?_) <;> try dsimp only)
  first | refine cCd (fun hb19 => ?_) (fun hb19 => ?_) | refine cC (fun hb19 => ?_) (fun hb19 => ?_)
  · refine nav ?_
    (refine aC_region ?_
      <;> refine xL 20 (q_build tSt28_LbY) ?_
      <;> refine xL 21 q_move ?_
      <;> refine s_sta 2 tAgg28_LbY ?_
      <;> refine xL 3 q_assign ?_
      <;> refine aL_end (nav ?_) <;> try dsimp only)
    exact ret_cs (k := 2) 2 (by kernel_rfl) (Tryz.results20) rfl rfl rfl (Nat.le_of_ble_eq_true rfl) (by decide) rfl rfl
  · exfalso; omega
theorem cLoop_bad (g : Dfg) (hb : AF Tryz.prog 43 [pDfg g] (· = .tup [.val (.pointer none), pInt 1])) : AF Tryz.prog 21 [pDfg g] (· = bad0) := by
  refine AF.of_body 114 Tryz.func21 rfl Tryz.ntmps21 (Nat.le_of_ble_eq_true rfl) ?_
  intro w0 M0 vs hl hv
  obtain ⟨v0, rfl⟩ := len1 hl
  clear hl hv
  refine nav ?_
  (refine aC_region ?_
    <;> refine s_boxa 1 4 fun h1 => ?_
    <;> refine s_alloc [(.int .i64 0), (.slice none 0 0)] 2 2 tZr28_LbY fun h2 => ?_
    <;> refine xL 3 q_assign ?_
    <;> refine aL_end (nav ?_) <;> try dsimp only)
  (refine aC_region ?_
    <;> (refine yL 19 (q_ldao 1 tAgg25_LbY) fun v19 hv19 => ?_; cases hv19)
    <;> (refine cP 20 (cA Tryz.call43 (hb)) fun va20 vb20 hva20 hvb20 => ?_; cases hvb20)
    <;> refine xL 18 q_move ?_
    <;> refine xL 21 q_extract ?_
    <;> refine xL 22 q_extract ?_
    <;> refine s_alloc [(.pointer none)] 1 4 tZr71_LbY fun h4 => ?_
    <;> refine s_st 4 tNa71_LbY tSz71_LbY ?_
    <;> refine xL 5 q_assign ?_
    <;> refine aL_end (nav ?_) <;> try dsimp only)
  (refine aC_region ?_
    <;> refine xL 23 q_move ?_
    <;> refine xL 24 q_neq ?_
    <;> refine aL_end (nav ?_) <;> try dsimp only)
  first | refine cCd (fun hb24 => ?_) (fun hb24 => ?_) | refine cC (fun hb24 => ?_) (fun hb24 => ?_)
  · refine nav ?_
    (refine aC_region ?_
      <;> refine xL 25 (q_build tSt28_LbY) ?_
      <;> refine xL 26 q_move ?_
      <;> refine s_sta 2 tAgg28_LbY ?_
      <;> refine xL 3 q_assign ?_
      <;> refine aL_end (nav ?_) <;> try dsimp only)
    exact ret_cs (k := 2) 2 (by kernel_rfl) (Tryz.results21) rfl rfl rfl (Nat.le_of_ble_eq_true rfl) (by decide) rfl rfl
  · exfalso; omega
theorem cFind_bad (g : Dfg) (hb : AF Tryz.prog 43 [pDfg g] (· = .tup [.val (.pointer none), pInt 1])) : AF Tryz.prog 22 [pDfg g] (· = bad0) := by
  have e1 : [PV.fn 12 [], PV.fn 13 [], PV.fn 20 []][0 * 1]? = some (.fn 12 []) := rfl
  have hfa := cXor_bad g hb
  unfold bad0 at hfa
  refine AF.of_body 29 Tryz.func22 rfl Tryz.ntmps22 (Nat.le_of_ble_eq_true rfl) ?_
  intro w0 M0 vs hl hv
  obtain ⟨v0, rfl⟩ := len1 hl
  clear hl hv
  refine nav ?_
  (refine aC_region ?_
    <;> refine s_boxa 1 4 fun h1 => ?_
    <;> refine s_alloc [(.int .i64 0), (.slice none 0 0)] 2 2 tZr28_LbY fun h2 => ?_
    <;> refine xL 3 q_assign ?_
    <;> refine aL_end (nav ?_) <;> try dsimp only)
  (refine aC_region ?_
    <;> (refine aL_litn (xs := [_, _, _]) 8 tEl42_LbY rfl rfl (Nat.le_of_ble_eq_true rfl) rfl rfl rfl rfl rfl (by decide) (by decide) rfl ?_; intro h8 ho8; refine aL_ent (En.freeze (l := 8) (t := 8) rfl rfl) fun _ => ?_)
    <;> refine xL 9 (q_len tSl42_LbY) ?_
    <;> refine xL 10 q_move ?_
    <;> refine aL_end (nav ?_) <;> try dsimp only)
  refine aC_loop (ι := { x : Nat // x = 0 }) (fun k => ⟨[(1, _, _), (2, _, _), (8, _, _), (9, _, _), (10, .int .i64 k.1, pInt k.1)], [(1, _, _), (2, _, _)]⟩) (fun k => 3 - k.1) ⟨0, rfl⟩ (fun a w H => H.weaken ⟨rfl, rfl, rfl, rfl, rfl, trivial⟩ ⟨rfl, rfl, trivial⟩) ?_
  rintro ⟨k, hk⟩
  dsimp only
  subst hk
  refine nav ?_
  (refine aC_region ?_
    <;> refine xL 11 q_lss ?_
    <;> refine aL_end (nav ?_) <;> try dsimp only)
  first | refine cCd (fun hb11 => ?_) (fun hb11 => ?_) | refine cC (fun hb11 => ?_) (fun hb11 => ?_)
  · refine nav ?_
    (refine aC_region ?_
      <;> refine xL 12 (q_idxN tSl42_LbY) ?_
      <;> (refine yL 13 (q_ld tNa35_LbY) fun v13 hv13 => ?_; cases hv13)
      <;> refine xL 5 q_assign ?_
      <;> refine aL_end (nav ?_) <;> try dsimp only)
    (refine aC_region ?_
      <;> refine xL 15 q_move ?_
      <;> (refine yL 16 (q_ldao 1 tAgg25_LbY) fun v16 hv16 => ?_; cases hv16)
      <;> (refine cP 17 (callF (f := 12) (ps := []) rfl ⟨_, rfl⟩ (Tryz.call12) rfl hfa) fun va17 vb17 hva17 hvb17 => ?_; cases hvb17)
      <;> refine xL 14 q_move ?_
      <;> refine xL 18 q_extract ?_
      <;> refine xL 19 q_extract ?_
      <;> refine s_alloc [(.int .i64 0), (.slice none 0 0)] 2 6 tZr28_LbY fun h6 => ?_
      <;> refine s_sta 6 tAgg28_LbY ?_
      <;> refine xL 7 q_assign ?_
      <;> refine aL_end (nav ?_) <;> try dsimp only)
    (refine aC_region ?_
      <;> refine xL 20 q_move ?_
      <;> refine xL 21 q_neq ?_
      <;> refine aL_end (nav ?_) <;> try dsimp only)
    first | refine cCd (fun hb21 => ?_) (fun hb21 => ?_) | refine cC (fun hb21 => ?_) (fun hb21 => ?_)
    · refine nav ?_
      (refine aC_region ?_
        <;> (refine yL 22 (q_ldao 6 tAgg28_LbY) fun v22 hv22 => ?_; cases hv22)
        <;> refine xL 23 q_move ?_
        <;> refine s_sta 2 tAgg28_LbY ?_
        <;> refine xL 3 q_assign ?_
        <;> refine aL_end (nav ?_) <;> try dsimp only)
      exact ret_cs (k := 2) 2 (by kernel_rfl) (Tryz.results22) rfl rfl rfl (Nat.le_of_ble_eq_true rfl) (by decide) rfl rfl
    · exfalso; omega
  · exfalso; omega
end Go.Proofs.YtoanjgpdepaciaaGreat
