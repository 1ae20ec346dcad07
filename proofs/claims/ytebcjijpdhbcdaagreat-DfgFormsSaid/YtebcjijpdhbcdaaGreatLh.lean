/-
  Walks: automata: the closure of states.
  Walks: automata: where a symbol leads.
-/
import Derived.Test.YtebcjijpdhbcdaaGreatLg
import Derived.Test.YtebcjijpdhbcdaaGreatMShelfD
namespace Go.Proofs.YtebcjijpdhbcdaaGreat
open Go.RowKit Go.Cb Go.En
set_option linter.all false
set_option maxRecDepth 100000

theorem tAgg126_LdL : AggT Tryz.prog 126 3 = true := by kernel_rfl
theorem tFl126_1_LdL : FldT Tryz.prog 126 1 1 = true := by kernel_rfl
theorem tFl126_2_LdL : FldT Tryz.prog 126 2 2 = true := by kernel_rfl
theorem tFl162_1_LdL : FldT Tryz.prog 162 1 1 = true := by kernel_rfl
theorem tNa159_LdL : NoAgg Tryz.prog 159 = true := by kernel_rfl
theorem tNa163_LdL : NoAgg Tryz.prog 163 = true := by kernel_rfl
theorem tNa3_LdL : NoAgg Tryz.prog 3 = true := by kernel_rfl
theorem tNa63_LdL : NoAgg Tryz.prog 63 = true := by kernel_rfl
theorem tNa64_LdL : NoAgg Tryz.prog 64 = true := by kernel_rfl
theorem tSl159_LdL : SlT Tryz.prog 159 64 1 = true := by kernel_rfl
theorem tSl63_LdL : SlT Tryz.prog 63 3 1 = true := by kernel_rfl
theorem tSl64_LdL : SlT Tryz.prog 64 126 3 = true := by kernel_rfl
theorem tSz163_LdL : (Tryz.prog.info? 163).map (·.size) = some 1 := by kernel_rfl
theorem tZr126_LdL : ZeroT Tryz.prog 126 (.agg #[(.int .i64 0), (.int .i64 0), (.int .i64 0)]) := by unfold ZeroT; kernel_rfl
theorem tZr163_LdL : ZeroT Tryz.prog 163 (.map none) := by unfold ZeroT; kernel_rfl
theorem tZr63_LdL : ZeroT Tryz.prog 63 (.slice none 0 0) := by unfold ZeroT; kernel_rfl

theorem nodup_len : ∀ (n : Nat) (L : List Int), L.Nodup → (∀ s ∈ L, 0 ≤ s ∧ s < n) → L.length ≤ n
  | 0, [], _, _ => Nat.le_refl _
  | 0, x :: _, _, h => by have := h x (List.mem_cons_self ..); omega
  | n + 1, L, hn, h => by
    have h1 := nodup_len n (L.erase (n : Int)) (hn.erase _) fun s hs => by
      have h2 := (hn.mem_erase_iff).1 hs
      have h3 := h s h2.2
      have := h2.1
      omega
    have h2 := List.length_erase (a := (n : Int)) (l := L)
    split at h2 <;> omega
def OutOk (n : Int) (out : List Int) : Prop := out.Nodup ∧ ∀ s ∈ out, 0 ≤ s ∧ s < n
theorem OutOk.len {n : Int} {out : List Int} (h : OutOk n out) : out.length ≤ n.toNat := nodup_len _ _ h.1 fun s hs => by have := h.2 s hs; omega
theorem OutOk.add {n : Int} {out : List Int} {s : Int} (h : OutOk n out) (hs : 0 ≤ s ∧ s < n) : OutOk n (addSt out s) := by
  unfold addSt
  split
  · exact h
  · rename_i h1
    refine ⟨?_, fun t ht => ?_⟩
    · rw [List.nodup_append]
      refine ⟨h.1, by simp, fun a ha b hb => ?_⟩
      simp only [List.mem_singleton] at hb
      subst hb
      intro e
      subst e
      exact h1 (by simpa using ha)
    · rw [List.mem_append, List.mem_singleton] at ht
      rcases ht with ht | rfl
      · exact h.2 t ht
      · exact hs
def addSts (l : List Int) (out : List Int) : List Int := l.foldl addSt out
theorem OutOk.all {n : Int} : ∀ (l : List Int) {out : List Int}, OutOk n out → (∀ s ∈ l, 0 ≤ s ∧ s < n) → OutOk n (addSts l out)
  | [], _, h, _ => h
  | x :: l, _, h, hl => OutOk.all l (h.add (hl x (List.mem_cons_self ..))) fun s hs => hl s (List.mem_cons_of_mem _ hs)
theorem addSts_snoc {l : List Int} {k : Nat} {x : Int} (h : l[k]? = some x) (out : List Int) : addSts (l.take (k + 1)) out = addSt (addSts (l.take k) out) x := by
  unfold addSts; rw [take_snoc h, List.foldl_append]; rfl
def silent (ms : List Mv) : List Int := (ms.filter fun m => decide (m.sym = -1)).map (·.dst)
theorem silent_yes {ms : List Mv} {k : Nat} {m : Mv} (h : ms[k]? = some m) (hs : m.sym = -1) : silent (ms.take (k + 1)) = silent (ms.take k) ++ [m.dst] := by
  unfold silent; rw [take_snoc h, List.filter_append, List.map_append]; simp [hs]
theorem silent_no {ms : List Mv} {k : Nat} {m : Mv} (h : ms[k]? = some m) (hs : ¬ m.sym = -1) : silent (ms.take (k + 1)) = silent (ms.take k) := by
  unfold silent; rw [take_snoc h, List.filter_append, List.map_append]; simp [hs]
def clStep (a : Aut) (out : List Int) (i : Nat) : List Int := match out[i]? with
  | some s => addSts (silent (movesOf a s.toNat)) out
  | none => out
def clAt (a : Aut) (l : List Int) : Nat → List Int
  | 0 => addSts l []
  | i + 1 => clStep a (clAt a l i) i
def closL (a : Aut) (l : List Int) : List Int := (clAt a l a.n.toNat).mergeSort fun x y => decide (x ≤ y)
def MvIn (a : Aut) : Prop := ∀ m ∈ a.moves, 0 ≤ m.dst ∧ m.dst < a.n
theorem silent_in {a : Aut} (h : MvIn a) (s : Nat) : ∀ t ∈ silent (movesOf a s), 0 ≤ t ∧ t < a.n := fun t ht => by
  unfold silent movesOf at ht
  simp only [List.mem_map, List.mem_filter] at ht
  obtain ⟨m, ⟨⟨h1, _⟩, _⟩, rfl⟩ := ht
  exact h m h1
theorem clAt_ok {a : Aut} {l : List Int} (h : MvIn a) (hl : ∀ s ∈ l, 0 ≤ s ∧ s < a.n) : ∀ i, OutOk a.n (clAt a l i)
  | 0 => OutOk.all l ⟨List.nodup_nil, by simp⟩ hl
  | i + 1 => by
    rw [clAt, clStep]
    split
    · exact OutOk.all _ (clAt_ok h hl i) (silent_in h _)
    · exact clAt_ok h hl i
theorem clAt_stop {a : Aut} {l : List Int} {i : Nat} (h : (clAt a l i).length ≤ i) : ∀ j, clAt a l (i + j) = clAt a l i
  | 0 => rfl
  | j + 1 => by
    rw [← Nat.add_assoc, clAt, clAt_stop h j, clStep, List.getElem?_eq_none (by omega)]
theorem clAt_end {a : Aut} {l : List Int} {i n : Nat} (h : (clAt a l i).length ≤ i) (hi : i ≤ n) : clAt a l n = clAt a l i := by
  have := clAt_stop h (n - i)
  rwa [show i + (n - i) = n by omega] at this
theorem sil_add {ms : List Mv} {k : Nat} {m : Mv} (h : ms[k]? = some m) (hs : m.sym = -1) (out : List Int) : addSt (addSts (silent (ms.take k)) out) m.dst = addSts (silent (ms.take (k + 1))) out := by
  rw [silent_yes h hs]; unfold addSts; rw [List.foldl_append]; rfl
theorem sil_take {a : Aut} (h : MvIn a) (s k : Nat) : ∀ t ∈ silent ((movesOf a s).take k), 0 ≤ t ∧ t < a.n := fun t ht => by
  refine silent_in h s t ?_
  unfold silent at ht ⊢
  simp only [List.mem_map, List.mem_filter] at ht ⊢
  obtain ⟨m, ⟨h1, h2⟩, h3⟩ := ht
  exact ⟨m, ⟨List.mem_of_mem_take h1, h2⟩, h3⟩
theorem sortInt_cD : SortI Tryz.prog 117 := fun blk cap zs w hH hb hn => Tryz.slices_Sort_int blk 0 cap zs w hH hb hn
theorem sortInt0_cD : SortI0 Tryz.prog 117 := fun p cap w => Tryz.slices_Sort_int_none p cap w
set_option maxHeartbeats 2000000 in
theorem aClosure_e (a : Aut) (l : List Int) (hn : a.n ≤ 2000) (hm : MvIn a) (hl : ∀ s ∈ l, 0 ≤ s ∧ s < a.n) : AF Tryz.prog 83 [pGr a, pInts l] (· = .own 3 1 (closL a l).length ((closL a l).map pInt)) := by
  refine AF.of_body 57 Tryz.func83 rfl Tryz.ntmps83 (Nat.le_of_ble_eq_true rfl) ?_
  intro w0 M0 vs hl hv
  obtain ⟨v0, v1, rfl⟩ := len2 hl
  clear hl hv
  refine aC_slen 1 rfl fun hlen => ?_
  refine nav ?_
  (refine aC_region ?_
    <;> refine xL 4 q_assign ?_
    <;> refine aL_end (nav ?_) <;> try dsimp only)
  (refine aC_region ?_
    <;> refine s_mkmap 13 fun h13 ho13 => ?_
    <;> refine s_alloc [(.map none)] 1 5 tZr163_LdL fun h5 => ?_
    <;> refine s_st 5 tNa163_LdL tSz163_LdL ?_
    <;> refine aL_end (nav ?_) <;> try dsimp only)
  (refine aC_region ?_
    <;> refine s_alloc [(.slice none 0 0)] 1 6 tZr63_LdL fun h6 => ?_
    <;> refine aL_end (nav ?_) <;> try dsimp only)
  (refine aC_region ?_
    <;> refine xL 14 q_mkfn ?_
    <;> refine xL 7 q_assign ?_
    <;> refine aL_end (nav ?_) <;> try dsimp only)
  refine aC_ent (nilOwn 200 3 1 rfl) fun _ => ?_
  refine aC_ent (relabel (l := 5) 1001 rfl rfl) fun _ => ?_
  refine aC_ent (relabel (l := 6) 1002 rfl rfl) fun _ => ?_
  refine aC_ent (relabel (l := 13) 1003 rfl rfl) fun _ => ?_
  refine aC_ent (relabel (l := 200) 1004 rfl rfl) fun _ => ?_
  (refine aC_region ?_
    <;> refine xL 15 q_move ?_
    <;> refine xL 16 (q_len tSl63_LdL) ?_
    <;> refine xL 17 q_move ?_
    <;> refine aL_end (nav ?_) <;> try dsimp only)
  refine aC_loop (ι := { q : Nat × Value // q.1 ≤ l.length ∧ q.2.oneCell' = true }) (fun k => ⟨[(0, _, _), (5, _, _), (6, _, _), (7, _, _), (15, _, _), (16, _, _), (17, .int .i64 k.1.1, pInt k.1.1)], [(1001, h5, .own 163 1 1 [.val h13]), (1002, h6, .own 63 1 1 [.val k.1.2]), (1003, h13, .omap (ikv (seenKV (addSts (l.take k.1.1) [])))), (1004, k.1.2, .own 3 1 (addSts (l.take k.1.1) []).length ((addSts (l.take k.1.1) []).map pInt))]⟩) (fun k => l.length - k.1.1) ⟨(0, .slice none 0 0), Nat.zero_le _, rfl⟩ (fun a w H => H.weaken ⟨rfl, rfl, rfl, rfl, rfl, rfl, rfl, trivial⟩ ⟨rfl, rfl, rfl, rfl, trivial⟩) ?_
  rintro ⟨⟨k, r⟩, hk, hr⟩
  dsimp only
  dsimp only at hk hr
  have hok : OutOk a.n (addSts (l.take k) []) := OutOk.all _ ⟨List.nodup_nil, by simp⟩ (fun s hs => hl s (List.mem_of_mem_take hs))
  have hol : (addSts (l.take k) []).length ≤ 1000000 := by have := hok.len; omega
  refine nav ?_
  (refine aC_region ?_
    <;> refine xL 18 q_lss ?_
    <;> refine aL_end (nav ?_) <;> try dsimp only)
  first | refine cCd (fun hb18 => ?_) (fun hb18 => ?_) | refine cC (fun hb18 => ?_) (fun hb18 => ?_)
  · first
    | exact Bool.noConfusion hb18
    | (
     obtain ⟨x, hx⟩ := get_some (show k < l.length by omega)
     have e1 := map_at (f := pInt) hx
     refine nav ?_
     (refine aC_region ?_
       <;> refine xL 19 (q_idxN tSl63_LdL) ?_
       <;> (refine yL 20 (q_ld tNa3_LdL) fun v20 hv20 => ?_; cases hv20)
       <;> refine xL 9 q_assign ?_
       <;> refine aL_end (nav ?_) <;> try dsimp only)
     (refine aC_region ?_
       <;> refine xL 21 q_move ?_
       <;> refine xL 22 q_move ?_
       <;> (refine aL_heap (clH h5 h6 h13 r (addSts (l.take k) [])) ⟨rfl, rfl, rfl, rfl, trivial⟩ ?_; refine aL_chF [] 23 (Tryz.call116) (aClosure1_e x h5 h6 h13 r (addSts (l.take k) []) hol ho13 hr) ?_; rintro v23 _ _ ⟨rfl, r2, hr2, rfl⟩; rw [← addSts_snoc hx])
       <;> refine aL_end (nav ?_) <;> try dsimp only)
     (refine aC_region ?_
       <;> refine xL 24 q_add ?_
       <;> refine xL 17 q_move ?_
       <;> refine aL_end (nav ?_) <;> try dsimp only)
     refine aN_again (
       ⟨(k + 1, r2), lt_of_get hx, hr2⟩
       ) (by dsimp only; omega) ⟨rfl, rfl, rfl, rfl, rfl, rfl, rfl, trivial⟩ ⟨rfl, rfl, rfl, rfl, trivial⟩)
  · first
    | exact Bool.noConfusion hb18
    | (
     rw [show addSts (l.take k) [] = clAt a l 0 by rw [List.take_of_length_le (by omega)]; rfl]
     refine nav ?_
     (refine aC_region ?_
       <;> refine xL 10 q_assign ?_
       <;> refine aL_end (nav ?_) <;> try dsimp only)
     refine aC_loop (ι := { q : Nat × Value // q.1 ≤ a.n.toNat ∧ q.2.oneCell' = true }) (fun k => ⟨[(0, _, _), (5, _, _), (6, _, _), (7, _, _), (10, .int .i64 k.1.1, pInt k.1.1)], [(1001, h5, .own 163 1 1 [.val h13]), (1002, h6, .own 63 1 1 [.val k.1.2]), (1003, h13, .omap (ikv (seenKV (clAt a l k.1.1)))), (1004, k.1.2, .own 3 1 (clAt a l k.1.1).length ((clAt a l k.1.1).map pInt))]⟩) (fun k => a.n.toNat - k.1.1) ⟨(0, r), Nat.zero_le _, hr⟩ (fun a w H => H.weaken ⟨rfl, rfl, rfl, rfl, rfl, trivial⟩ ⟨rfl, rfl, rfl, rfl, trivial⟩) ?_
     rintro ⟨⟨i, r3⟩, hi, hr3⟩
     dsimp only
     dsimp only at hi hr3
     have hok3 := clAt_ok hm hl i
     have hlen3 := hok3.len
     refine nav ?_
     (refine aC_region ?_
       <;> refine xL 25 q_move ?_
       <;> (refine yL 26 (q_ldo 1002 tNa63_LdL) fun v26 hv26 => ?_; cases hv26)
       <;> refine xL 27 (q_leno 1004 tSl63_LdL) ?_
       <;> refine xL 28 q_lss ?_
       <;> refine aL_end (nav ?_) <;> try dsimp only)
     first | refine cCd (fun hb28 => ?_) (fun hb28 => ?_) | refine cC (fun hb28 => ?_) (fun hb28 => ?_)
     · first
       | exact Bool.noConfusion hb28
       | (
        obtain ⟨s, hs⟩ := get_some (show i < (clAt a l i).length by omega)
        have hsr := hok3.2 s (List.mem_of_getElem? hs)
        have e1 := map_at (f := pInt) hs
        have e2 : ((List.range a.n.toNat).map fun s => pMvs (movesOf a s))[s.toNat * 1]? = some (pMvs (movesOf a s.toNat)) := by rw [Nat.mul_one, range_at (by omega)]
        have e2' : s.toNat < a.n.toNat := by omega
        refine nav ?_
        (refine aC_draw (fun i => ([] : List Nat).elem i) [1001, 1002, 1003, 1004] (by kernel_rfl) ?_
          <;> refine xD 0 31 rfl q_move ?_
          <;> refine xD 1 32 rfl q_nilp ?_
          <;> refine xD 2 33 rfl (q_fld tFl162_1_LdL) ?_
          <;> (refine yD 3 34 rfl (q_ld tNa159_LdL) fun v34 hv34 => ?_; cases hv34)
          <;> (refine yD 4 35 rfl (q_ldo 1002 tNa63_LdL) fun v35 hv35 => ?_; cases hv35)
          <;> refine xD 5 36 rfl q_move ?_
          <;> refine xD 6 37 rfl (q_idxoN 1004 tSl63_LdL) ?_
          <;> (refine yD 7 38 rfl (q_ldo 1004 tNa3_LdL) fun v38 hv38 => ?_; cases hv38)
          <;> refine xD 8 39 rfl (q_idx tSl159_LdL) ?_
          <;> (refine yD 9 40 rfl (q_ld tNa64_LdL) fun v40 hv40 => ?_; cases hv40)
          <;> refine xD 10 41 rfl (q_len tSl64_LdL) ?_
          <;> refine xE 11 42 rfl q_move ?_
          <;> refine aD_end (by kernel_rfl) (nav ?_)
          <;> try dsimp only)
        refine aC_slen 40 rfl fun hlen40 => ?_
        refine aC_loop (ι := { q : Nat × Value // q.1 ≤ (movesOf a s.toNat).length ∧ q.2.oneCell' = true }) (fun k => ⟨[(0, _, _), (5, _, _), (6, _, _), (7, _, _), (10, _, _), (40, _, _), (41, _, _), (42, .int .i64 k.1.1, pInt k.1.1)], [(1001, h5, .own 163 1 1 [.val h13]), (1002, h6, .own 63 1 1 [.val k.1.2]), (1003, h13, .omap (ikv (seenKV (addSts (silent ((movesOf a s.toNat).take k.1.1)) (clAt a l i))))), (1004, k.1.2, .own 3 1 (addSts (silent ((movesOf a s.toNat).take k.1.1)) (clAt a l i)).length ((addSts (silent ((movesOf a s.toNat).take k.1.1)) (clAt a l i)).map pInt))]⟩) (fun k => (movesOf a s.toNat).length - k.1.1) ⟨(0, r3), Nat.zero_le _, hr3⟩ (fun a w H => H.weaken ⟨rfl, rfl, rfl, rfl, rfl, rfl, rfl, rfl, trivial⟩ ⟨rfl, rfl, rfl, rfl, trivial⟩) ?_
        rintro ⟨⟨k, r4⟩, hk4, hr4⟩
        dsimp only
        dsimp only at hk4 hr4
        have hok4 : OutOk a.n (addSts (silent ((movesOf a s.toNat).take k)) (clAt a l i)) := OutOk.all _ hok3 (sil_take hm _ _)
        have hol4 : (addSts (silent ((movesOf a s.toNat).take k)) (clAt a l i)).length ≤ 1000000 := by have := hok4.len; omega
        refine nav ?_
        (refine aC_region ?_
          <;> refine xL 43 q_lss ?_
          <;> refine aL_end (nav ?_) <;> try dsimp only)
        first | refine cCd (fun hb43 => ?_) (fun hb43 => ?_) | refine cC (fun hb43 => ?_) (fun hb43 => ?_)
        · first
          | exact Bool.noConfusion hb43
          | (
           obtain ⟨mv, hmv⟩ := get_some (show k < (movesOf a s.toNat).length by omega)
           have e3 := flat_drop cMv_len (movesOf a s.toNat) k mv hmv
           have e4 := flat_fit cMv_len hmv
           refine nav ?_
           (refine aC_region ?_
             <;> refine xL 44 (q_idxN tSl64_LdL) ?_
             <;> (refine yL 45 (q_lda tAgg126_LdL) fun v45 hv45 => ?_; cases hv45)
             <;> refine s_alloc [(.int .i64 0), (.int .i64 0), (.int .i64 0)] 3 12 tZr126_LdL fun h12 => ?_
             <;> refine s_sta 12 tAgg126_LdL ?_
             <;> refine aL_end (nav ?_) <;> try dsimp only)
           (refine aC_region ?_
             <;> refine xL 46 (q_fldo 12 tFl126_2_LdL) ?_
             <;> (refine yL 47 (q_ldo 12 tNa3_LdL) fun v47 hv47 => ?_; cases hv47)
             <;> refine xL 48 q_eql ?_
             <;> refine aL_end (nav ?_) <;> try dsimp only)
           first | refine cCd (fun hb48 => ?_) (fun hb48 => ?_) | refine cC (fun hb48 => ?_) (fun hb48 => ?_)
           · first
             | exact Bool.noConfusion hb48
             | (
              refine nav ?_
              (refine aC_region ?_
                <;> refine xL 49 q_move ?_
                <;> refine xL 50 (q_fldo 12 tFl126_1_LdL) ?_
                <;> (refine yL 51 (q_ldo 12 tNa3_LdL) fun v51 hv51 => ?_; cases hv51)
                <;> (refine aL_heap (clH h5 h6 h13 r4 (addSts (silent ((movesOf a s.toNat).take k)) (clAt a l i))) ⟨rfl, rfl, rfl, rfl, trivial⟩ ?_; refine aL_chF [] 52 (Tryz.call116) (aClosure1_e mv.dst h5 h6 h13 r4 (addSts (silent ((movesOf a s.toNat).take k)) (clAt a l i)) hol4 ho13 hr4) ?_; rintro v52 _ _ ⟨rfl, r5, hr5, rfl⟩; rw [sil_add hmv hb48])
                <;> refine aL_end (nav ?_) <;> try dsimp only)
              (refine aC_region ?_
                <;> refine xL 53 q_add ?_
                <;> refine xL 42 q_move ?_
                <;> refine aL_end (nav ?_) <;> try dsimp only)
              try rw [← silent_no hmv (by assumption)]
              first
                | (exact aN_again (
                    ⟨(k + 1, r5), lt_of_get hmv, hr5⟩
                    ) (by dsimp only; omega) ⟨rfl, rfl, rfl, rfl, rfl, rfl, rfl, rfl, trivial⟩ ⟨rfl, rfl, rfl, rfl, trivial⟩)
                | (exact aN_again (
                    ⟨(k + 1, r4), lt_of_get hmv, hr4⟩
                    ) (by dsimp only; omega) ⟨rfl, rfl, rfl, rfl, rfl, rfl, rfl, rfl, trivial⟩ ⟨rfl, rfl, rfl, rfl, trivial⟩))
           · first
             | exact Bool.noConfusion hb48
             | (
              refine nav ?_
              (refine aC_region ?_
                <;> refine xL 53 q_add ?_
                <;> refine xL 42 q_move ?_
                <;> refine aL_end (nav ?_) <;> try dsimp only)
              try rw [← silent_no hmv (by assumption)]
              first
                | (exact aN_again (
                    ⟨(k + 1, r5), lt_of_get hmv, hr5⟩
                    ) (by dsimp only; omega) ⟨rfl, rfl, rfl, rfl, rfl, rfl, rfl, rfl, trivial⟩ ⟨rfl, rfl, rfl, rfl, trivial⟩)
                | (exact aN_again (
                    ⟨(k + 1, r4), lt_of_get hmv, hr4⟩
                    ) (by dsimp only; omega) ⟨rfl, rfl, rfl, rfl, rfl, rfl, rfl, rfl, trivial⟩ ⟨rfl, rfl, rfl, rfl, trivial⟩)))
        · first
          | exact Bool.noConfusion hb43
          | (
           rw [show addSts (silent ((movesOf a s.toNat).take k)) (clAt a l i) = clAt a l (i + 1) by rw [clAt, clStep, hs, List.take_of_length_le (by omega)]]
           refine nav ?_
           (refine aC_region ?_
             <;> refine xL 29 q_move ?_
             <;> refine xL 30 q_add ?_
             <;> refine xL 10 q_assign ?_
             <;> refine aL_end (nav ?_) <;> try dsimp only)
           refine aN_again (
             ⟨(i + 1, r4), by dsimp only; omega, hr4⟩
             ) (by dsimp only; omega) ⟨rfl, rfl, rfl, rfl, rfl, trivial⟩ ⟨rfl, rfl, rfl, rfl, trivial⟩))
     · first
       | exact Bool.noConfusion hb28
       | (
        have hE : clAt a l a.n.toNat = clAt a l i := clAt_end (by omega) hi
        refine nav ?_
        (refine aC_region ?_
          <;> (refine yL 54 (q_ldo 1002 tNa63_LdL) fun v54 hv54 => ?_; cases hv54)
          <;> (rcases Nat.eq_zero_or_pos (clAt a l i).length with h0 | h0 <;> first | (refine s_sortI (zs := clAt a l i) 1004 sortInt_cD (Tryz.call117) ?_ h0) | (rw [List.eq_nil_of_length_eq_zero h0]; refine s_sortI0 1004 sortInt0_cD (Tryz.call117) ?_))
          <;> refine aL_end (nav ?_) <;> try dsimp only) <;> (
         (refine aC_region ?_
           <;> (refine yL 56 (q_ldo 1002 tNa63_LdL) fun v56 hv56 => ?_; cases hv56)
           <;> refine xL 4 q_assign ?_
           <;> refine aL_end (nav ?_) <;> try dsimp only)
         refine ret_own 1004 (Tryz.results83) rfl rfl ?_
         unfold closL
         rw [hE, List.length_mergeSort]
         all_goals first
           | rfl
           | (rw [List.eq_nil_of_length_eq_zero h0, List.mergeSort_nil]))))
end Go.Proofs.YtebcjijpdhbcdaaGreat

namespace Go.Proofs.YtebcjijpdhbcdaaGreat
open Go.RowKit Go.Cb Go.En
set_option linter.all false
set_option maxRecDepth 100000

theorem tAgg126_LdM : AggT Tryz.prog 126 3 = true := by kernel_rfl
theorem tEl63_LdM : ElT Tryz.prog 63 3 1 8 (.int .i64 0) := ⟨Tryz.underlying63, by kernel_rfl, rfl, by decide⟩
theorem tFl126_1_LdM : FldT Tryz.prog 126 1 1 = true := by kernel_rfl
theorem tFl126_2_LdM : FldT Tryz.prog 126 2 2 = true := by kernel_rfl
theorem tFl162_1_LdM : FldT Tryz.prog 162 1 1 = true := by kernel_rfl
theorem tNa159_LdM : NoAgg Tryz.prog 159 = true := by kernel_rfl
theorem tNa3_LdM : NoAgg Tryz.prog 3 = true := by kernel_rfl
theorem tNa64_LdM : NoAgg Tryz.prog 64 = true := by kernel_rfl
theorem tSl159_LdM : SlT Tryz.prog 159 64 1 = true := by kernel_rfl
theorem tSl63_LdM : SlT Tryz.prog 63 3 1 = true := by kernel_rfl
theorem tSl64_LdM : SlT Tryz.prog 64 126 3 = true := by kernel_rfl
theorem tZr126_LdM : ZeroT Tryz.prog 126 (.agg #[(.int .i64 0), (.int .i64 0), (.int .i64 0)]) := by unfold ZeroT; kernel_rfl

def bySym (c : Int) (ms : List Mv) : List Int := (ms.filter fun m => decide (m.sym = c)).map (·.dst)
theorem bySym_yes {c : Int} {ms : List Mv} {k : Nat} {m : Mv} (h : ms[k]? = some m) (hs : m.sym = c) : bySym c (ms.take (k + 1)) = bySym c (ms.take k) ++ [m.dst] := by
  unfold bySym; rw [take_snoc h, List.filter_append, List.map_append]; simp [hs]
theorem bySym_no {c : Int} {ms : List Mv} {k : Nat} {m : Mv} (h : ms[k]? = some m) (hs : ¬ m.sym = c) : bySym c (ms.take (k + 1)) = bySym c (ms.take k) := by
  unfold bySym; rw [take_snoc h, List.filter_append, List.map_append]; simp [hs]
def leads (a : Aut) (c : Int) (l : List Int) : List Int := l.flatMap fun s => bySym c (movesOf a s.toNat)
theorem leads_snoc (a : Aut) (c : Int) {l : List Int} {k : Nat} {s : Int} (h : l[k]? = some s) : leads a c (l.take (k + 1)) = leads a c (l.take k) ++ bySym c (movesOf a s.toNat) := by
  unfold leads; rw [take_snoc h, List.flatMap_append]; simp
theorem bySym_len (c : Int) (ms : List Mv) : (bySym c ms).length ≤ ms.length := by unfold bySym; rw [List.length_map]; exact List.length_filter_le _ _
theorem movesOf_len (a : Aut) (s : Nat) : (movesOf a s).length ≤ a.moves.length := List.length_filter_le _ _
theorem leads_len (a : Aut) (c : Int) : ∀ l : List Int, (leads a c l).length ≤ l.length * a.moves.length
  | [] => by simp [leads]
  | x :: l => by
    have h1 := leads_len a c l
    have h2 := bySym_len c (movesOf a x.toNat)
    have h3 := movesOf_len a x.toNat
    have h4 : leads a c (x :: l) = bySym c (movesOf a x.toNat) ++ leads a c l := rfl
    rw [h4, List.length_append, List.length_cons, Nat.succ_mul]
    omega
theorem leads_in {a : Aut} (h : MvIn a) (c : Int) (l : List Int) : ∀ t ∈ leads a c l, 0 ≤ t ∧ t < a.n := fun t ht => by
  unfold leads bySym movesOf at ht
  simp only [List.mem_flatMap, List.mem_map, List.mem_filter] at ht
  obtain ⟨s, _, m, ⟨⟨h1, _⟩, _⟩, rfl⟩ := ht
  exact h m h1
theorem own_snoc (e : Nat) (L : List Int) (x : Int) : PV.own e 1 (L.length + 1) (L.map pInt ++ [pInt x]) = .own e 1 (L ++ [x]).length ((L ++ [x]).map pInt) := by simp
def nextL (a : Aut) (c : Int) (l : List Int) : List Int := closL a (leads a c l)
set_option maxHeartbeats 2000000 in
theorem aNext_e (a : Aut) (l : List Int) (c : Int) (hn : a.n ≤ 2000) (hmv : a.moves.length ≤ 20000) (hm : MvIn a) (hl : ∀ s ∈ l, 0 ≤ s ∧ s < a.n) (hll : l.length ≤ 2000) : AF Tryz.prog 84 [pGr a, pInts l, pInt c] (· = .own 3 1 (nextL a c l).length ((nextL a c l).map pInt)) := by
  refine AF.of_body 44 Tryz.func84 rfl Tryz.ntmps84 (Nat.le_of_ble_eq_true rfl) ?_
  intro w0 M0 vs hl hv
  obtain ⟨v0, v1, v2, rfl⟩ := len3 hl
  obtain rfl := hv 2 _ _ rfl rfl
  clear hl hv
  refine nav ?_
  (refine aC_region ?_
    <;> refine xL 6 q_assign ?_
    <;> refine aL_end (nav ?_) <;> try dsimp only)
  (refine aC_region ?_
    <;> refine xL 7 q_assign ?_
    <;> refine aL_end (nav ?_) <;> try dsimp only)
  refine aC_ent (nilOwn 200 3 1 rfl) fun _ => ?_
  (refine aC_region ?_
    <;> refine xL 12 q_move ?_
    <;> refine xL 13 (q_len tSl63_LdM) ?_
    <;> refine xL 14 q_move ?_
    <;> refine aL_end (nav ?_) <;> try dsimp only)
  refine aC_loop (ι := { q : Nat × Value // q.1 ≤ l.length ∧ q.2.oneCell' = true }) (fun k => ⟨[(0, _, _), (2, _, _), (12, _, _), (13, _, _), (7, k.1.2, .val k.1.2), (14, .int .i64 k.1.1, pInt k.1.1)], [(200, k.1.2, .own 3 1 (leads a c (l.take k.1.1)).length ((leads a c (l.take k.1.1)).map pInt))]⟩) (fun k => l.length - k.1.1) ⟨(0, .slice none 0 0), Nat.zero_le _, rfl⟩ (fun a w H => H.weaken ⟨rfl, rfl, rfl, rfl, rfl, rfl, trivial⟩ ⟨rfl, trivial⟩) ?_
  rintro ⟨⟨k, r⟩, hk, hr⟩
  dsimp only
  dsimp only at hk hr
  have hlk := leads_len a c (l.take k)
  refine nav ?_
  (refine aC_region ?_
    <;> refine xL 15 q_lss ?_
    <;> refine aL_end (nav ?_) <;> try dsimp only)
  first | refine cCd (fun hb15 => ?_) (fun hb15 => ?_) | refine cC (fun hb15 => ?_) (fun hb15 => ?_)
  · first
    | exact Bool.noConfusion hb15
    | (
     obtain ⟨s, hs⟩ := get_some (show k < l.length by omega)
     have hsr := hl s (List.mem_of_getElem? hs)
     have e1 := map_at (f := pInt) hs
     have e2 : ((List.range a.n.toNat).map fun s => pMvs (movesOf a s))[s.toNat * 1]? = some (pMvs (movesOf a s.toNat)) := by rw [Nat.mul_one, range_at (by omega)]
     have e2' : s.toNat < a.n.toNat := by omega
     have hml := movesOf_len a s.toNat
     have hlk2 : (leads a c (l.take k)).length ≤ 40000000 := by
       refine Nat.le_trans hlk ?_
       have h5 : (l.take k).length ≤ 2000 := by rw [List.length_take]; omega
       exact Nat.le_trans (Nat.mul_le_mul h5 hmv) (by decide)
     obtain ⟨A, hA⟩ : ∃ A, A = leads a c (l.take k) := ⟨_, rfl⟩
     rw [← hA] at hlk2 ⊢
     refine nav ?_
     (refine aC_region ?_
       <;> refine xL 16 (q_idxN tSl63_LdM) ?_
       <;> (refine yL 17 (q_ld tNa3_LdM) fun v17 hv17 => ?_; cases hv17)
       <;> refine xL 9 q_assign ?_
       <;> refine aL_end (nav ?_) <;> try dsimp only)
     (refine aC_region ?_
       <;> refine xL 18 q_move ?_
       <;> refine xL 19 q_nilp ?_
       <;> refine xL 20 (q_fld tFl162_1_LdM) ?_
       <;> (refine yL 21 (q_ld tNa159_LdM) fun v21 hv21 => ?_; cases hv21)
       <;> refine xL 22 q_move ?_
       <;> refine xL 23 (q_idx tSl159_LdM) ?_
       <;> (refine yL 24 (q_ld tNa64_LdM) fun v24 hv24 => ?_; cases hv24)
       <;> refine xL 25 (q_len tSl64_LdM) ?_
       <;> refine xL 26 q_move ?_
       <;> refine aL_end (nav ?_) <;> try dsimp only)
     rw [show A = A ++ bySym c ((movesOf a s.toNat).take 0) from (List.append_nil A).symm]
     refine aC_loop (ι := { q : Nat × Value // q.1 ≤ (movesOf a s.toNat).length ∧ q.2.oneCell' = true }) (fun k => ⟨[(0, _, _), (2, _, _), (12, _, _), (13, _, _), (14, _, _), (24, _, _), (25, _, _), (7, k.1.2, .val k.1.2), (26, .int .i64 k.1.1, pInt k.1.1)], [(200, k.1.2, .own 3 1 (A ++ bySym c ((movesOf a s.toNat).take k.1.1)).length ((A ++ bySym c ((movesOf a s.toNat).take k.1.1)).map pInt))]⟩) (fun k => (movesOf a s.toNat).length - k.1.1) ⟨(0, r), Nat.zero_le _, hr⟩ (fun a w H => H.weaken ⟨rfl, rfl, rfl, rfl, rfl, rfl, rfl, rfl, rfl, trivial⟩ ⟨rfl, trivial⟩) ?_
     rintro ⟨⟨j, r4⟩, hj4, hr4⟩
     dsimp only
     dsimp only at hj4 hr4
     have hbl := bySym_len c ((movesOf a s.toNat).take j)
     rw [List.length_take] at hbl
     have hol : (A ++ bySym c ((movesOf a s.toNat).take j)).length ≤ 41000000 := by rw [List.length_append]; omega
     refine nav ?_
     (refine aC_region ?_
       <;> refine xL 27 q_lss ?_
       <;> refine aL_end (nav ?_) <;> try dsimp only)
     first | refine cCd (fun hb27 => ?_) (fun hb27 => ?_) | refine cC (fun hb27 => ?_) (fun hb27 => ?_)
     · first
       | exact Bool.noConfusion hb27
       | (
        obtain ⟨mv, hmv2⟩ := get_some (show j < (movesOf a s.toNat).length by omega)
        have e3 := flat_drop cMv_len (movesOf a s.toNat) j mv hmv2
        have e4 := flat_fit cMv_len hmv2
        refine nav ?_
        (refine aC_region ?_
          <;> refine xL 28 (q_idxN tSl64_LdM) ?_
          <;> (refine yL 29 (q_lda tAgg126_LdM) fun v29 hv29 => ?_; cases hv29)
          <;> refine s_alloc [(.int .i64 0), (.int .i64 0), (.int .i64 0)] 3 11 tZr126_LdM fun h11 => ?_
          <;> refine s_sta 11 tAgg126_LdM ?_
          <;> refine aL_end (nav ?_) <;> try dsimp only)
        (refine aC_region ?_
          <;> refine xL 30 (q_fldo 11 tFl126_2_LdM) ?_
          <;> (refine yL 31 (q_ldo 11 tNa3_LdM) fun v31 hv31 => ?_; cases hv31)
          <;> refine xL 32 q_move ?_
          <;> refine xL 33 q_eql ?_
          <;> refine aL_end (nav ?_) <;> try dsimp only)
        first | refine cCd (fun hb33 => ?_) (fun hb33 => ?_) | refine cC (fun hb33 => ?_) (fun hb33 => ?_)
        · first
          | exact Bool.noConfusion hb33
          | (
           refine nav ?_
           (refine aC_region ?_
             <;> refine xL 34 q_move ?_
             <;> refine xL 35 (q_fldo 11 tFl126_1_LdM) ?_
             <;> (refine yL 36 (q_ldo 11 tNa3_LdM) fun v36 hv36 => ?_; cases hv36)
             <;> refine s_lit1 (kk := 1) 37 tEl63_LdM fun h37 ho37 => ?_
             <;> (refine aL_heap [(200, _, _), (37, _, _)] ⟨rfl, rfl, trivial⟩ ?_; refine s_app 200 37 38 tEl63_LdM fun h38 ho38 => ?_; refine aL_ent (relabel (l := 38) 200 rfl rfl) fun _ => ?_; refine aL_heap [(200, h38, PV.own 3 1 (A ++ bySym c ((movesOf a s.toNat).take (j + 1))).length ((A ++ bySym c ((movesOf a s.toNat).take (j + 1))).map pInt))] ⟨(by rw [bySym_yes hmv2 hb33, ← List.append_assoc, ← own_snoc]; rfl), trivial⟩ ?_)
             <;> refine xL 7 q_assign ?_
             <;> refine aL_end (nav ?_) <;> try dsimp only)
           (refine aC_region ?_
             <;> refine xL 39 q_add ?_
             <;> refine xL 26 q_move ?_
             <;> refine aL_end (nav ?_) <;> try dsimp only)
           try rw [← bySym_no hmv2 (by assumption)]
           first
             | (exact aN_again (
                 ⟨(j + 1, h38), lt_of_get hmv2, ho38⟩
                 ) (by dsimp only; omega) ⟨rfl, rfl, rfl, rfl, rfl, rfl, rfl, rfl, rfl, trivial⟩ ⟨rfl, trivial⟩)
             | (exact aN_again (
                 ⟨(j + 1, r4), lt_of_get hmv2, hr4⟩
                 ) (by dsimp only; omega) ⟨rfl, rfl, rfl, rfl, rfl, rfl, rfl, rfl, rfl, trivial⟩ ⟨rfl, trivial⟩))
        · first
          | exact Bool.noConfusion hb33
          | (
           refine nav ?_
           (refine aC_region ?_
             <;> refine xL 39 q_add ?_
             <;> refine xL 26 q_move ?_
             <;> refine aL_end (nav ?_) <;> try dsimp only)
           try rw [← bySym_no hmv2 (by assumption)]
           first
             | (exact aN_again (
                 ⟨(j + 1, h38), lt_of_get hmv2, ho38⟩
                 ) (by dsimp only; omega) ⟨rfl, rfl, rfl, rfl, rfl, rfl, rfl, rfl, rfl, trivial⟩ ⟨rfl, trivial⟩)
             | (exact aN_again (
                 ⟨(j + 1, r4), lt_of_get hmv2, hr4⟩
                 ) (by dsimp only; omega) ⟨rfl, rfl, rfl, rfl, rfl, rfl, rfl, rfl, rfl, trivial⟩ ⟨rfl, trivial⟩)))
     · first
       | exact Bool.noConfusion hb27
       | (
        rw [show A ++ bySym c ((movesOf a s.toNat).take j) = leads a c (l.take (k + 1)) by rw [List.take_of_length_le (by omega), leads_snoc a c hs, hA]]
        refine nav ?_
        (refine aC_region ?_
          <;> refine xL 40 q_add ?_
          <;> refine xL 14 q_move ?_
          <;> refine aL_end (nav ?_) <;> try dsimp only)
        refine aN_again (
          ⟨(k + 1, r4), lt_of_get hs, hr4⟩
          ) (by dsimp only; omega) ⟨rfl, rfl, rfl, rfl, rfl, rfl, trivial⟩ ⟨rfl, trivial⟩))
  · first
    | exact Bool.noConfusion hb15
    | (
     refine nav ?_
     (refine aC_region ?_
       <;> refine xL 41 q_move ?_
       <;> refine xL 42 q_move ?_
       <;> (refine aL_ent (En.freeze (l := 200) (t := 42) rfl rfl) fun _ => ?_; rw [share_ints _ _ _ rfl]; refine cO 43 (cA Tryz.call83 (aClosure_e a (leads a c (l.take k)) hn hm (leads_in hm c _))) fun v43 ho43 => ?_)
       <;> refine xL 6 q_assign ?_
       <;> refine aL_end (nav ?_) <;> try dsimp only)
     refine ret_own 43 (Tryz.results84) rfl rfl ?_
     rw [List.take_of_length_le (by omega)]; rfl)
end Go.Proofs.YtebcjijpdhbcdaaGreat
