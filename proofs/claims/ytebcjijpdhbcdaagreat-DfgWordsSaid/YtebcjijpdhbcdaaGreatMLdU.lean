/-
  Walks: the reference's automata: closures, where a symbol leads, what is final, what is near.
-/
import Derived.Test.YtebcjijpdhbcdaaGreatMLdT
import Derived.Test.YtebcjijpdhbcdaaGreatLi
namespace Go.Proofs.YtebcjijpdhbcdaaGreat
open Go.RowKit Go.Cb Go.En
set_option linter.all false
set_option maxRecDepth 100000

theorem tAgg126_LdU : AggT Tryz.prog 126 3 = true := by kernel_rfl
theorem tAgg66_LdU : AggT Tryz.prog 66 5 = true := by kernel_rfl
theorem tEl160_LdU : ElT Tryz.prog 160 4 1 1 (.bool false) := ⟨Tryz.underlying160, by kernel_rfl, rfl, by decide⟩
theorem tFl126_0_LdU : FldT Tryz.prog 126 0 0 = true := by kernel_rfl
theorem tFl126_1_LdU : FldT Tryz.prog 126 1 1 = true := by kernel_rfl
theorem tFl126_2_LdU : FldT Tryz.prog 126 2 2 = true := by kernel_rfl
theorem tFl66_0_LdU : FldT Tryz.prog 66 0 0 = true := by kernel_rfl
theorem tFl66_3_LdU : FldT Tryz.prog 66 3 3 = true := by kernel_rfl
theorem tFl66_4_LdU : FldT Tryz.prog 66 4 4 = true := by kernel_rfl
theorem tNa3_LdU : NoAgg Tryz.prog 3 = true := by kernel_rfl
theorem tNa4_LdU : NoAgg Tryz.prog 4 = true := by kernel_rfl
theorem tNa63_LdU : NoAgg Tryz.prog 63 = true := by kernel_rfl
theorem tNa64_LdU : NoAgg Tryz.prog 64 = true := by kernel_rfl
theorem tSl160_LdU : SlT Tryz.prog 160 4 1 = true := by kernel_rfl
theorem tSl63_LdU : SlT Tryz.prog 63 3 1 = true := by kernel_rfl
theorem tSl64_LdU : SlT Tryz.prog 64 126 3 = true := by kernel_rfl
theorem tSz4_LdU : (Tryz.prog.info? 4).map (·.size) = some 1 := by kernel_rfl
theorem tZr126_LdU : ZeroT Tryz.prog 126 (.agg #[(.int .i64 0), (.int .i64 0), (.int .i64 0)]) := by unfold ZeroT; kernel_rfl

def markL (l : List Int) (i : Nat) : Bool := hasI l (i : Nat)
theorem markL_step {l : List Int} {k : Nat} {t : Int} (h : l[k]? = some t) (h0 : 0 ≤ t) (i : Nat) : markL (l.take (k + 1)) i = if i = t.toNat then true else markL (l.take k) i := by
  unfold markL hasI
  rw [take_snoc h, List.any_append]
  simp only [List.any_cons, List.any_nil, Bool.or_false]
  by_cases e : i = t.toNat
  · rw [if_pos e, decide_eq_true (show t = (i : Int) by omega), Bool.or_true]
  · rw [if_neg e, decide_eq_false (show ¬ t = (i : Int) by omega), Bool.or_false]
structure MkI (a : Aut) (l : List Int) (f : Nat → Bool) : Prop where
  base : ∀ s ∈ l, f s.toNat = true
  snd : ∀ i : Nat, i < a.n.toNat → f i = true → Rch a l (i : Nat)
def ClosF (a : Aut) (f : Nat → Bool) : Prop := ∀ m ∈ a.moves, m.sym < 0 → f m.src.toNat = true → f m.dst.toNat = true
theorem MkI.start {a : Aut} {l : List Int} (hl : InS a l) : MkI a l (markL l) := by
  refine ⟨fun s hs => ?_, fun i _ h => .base (hasI_iff.1 h)⟩
  unfold markL
  rw [hasI_iff, show ((s.toNat : Nat) : Int) = s by have := hl s hs; omega]
  exact hs
def setB (f : Nat → Bool) (i : Nat) : Nat → Bool := fun j => if j = i then true else f j
structure PassB (a : Aut) (l : List Int) (f0 f : Nat → Bool) (fl : Bool) (i : Nat) : Prop where
  mki : MkI a l f
  no : fl = false → f = f0 ∧ ∀ j m, j < i → a.moves[j]? = some m → m.sym < 0 → f m.src.toNat = true → f m.dst.toNat = true
  yes : fl = true → cntF a.n.toNat f < cntF a.n.toNat f0
theorem PassB.start {a : Aut} {l : List Int} {f : Nat → Bool} (h : MkI a l f) : PassB a l f f false 0 := ⟨h, fun _ => ⟨rfl, fun j m hj => by omega⟩, fun h => Bool.noConfusion h⟩
theorem PassB.set {a : Aut} {l : List Int} {f0 f : Nat → Bool} {fl : Bool} {i : Nat} {m : Mv} (hA : AOk a) (hl : InS a l) (h : PassB a l f0 f fl i) (hm : a.moves[i]? = some m) (h1 : m.sym < 0) (h2 : f m.src.toNat = true) (h3 : f m.dst.toNat = false) : PassB a l f0 (setB f m.dst.toNat) true (i + 1) := by
  have hmv := hA.mv m (List.mem_of_getElem? hm)
  refine ⟨⟨fun s hs => ?_, fun j hj hf => ?_⟩, fun h => Bool.noConfusion h, fun _ => ?_⟩
  · unfold setB; split
    · rfl
    · exact h.mki.base s hs
  · unfold setB at hf
    split at hf
    · rename_i e
      have h4 := h.mki.snd m.src.toNat (by omega) h2
      have h5 := Rch.step h4 (List.mem_of_getElem? hm) (by omega) (by omega)
      rw [e, show ((m.dst.toNat : Nat) : Int) = m.dst by omega]; exact h5
    · exact h.mki.snd j hj hf
  · have h4 := cntF_set h3 (n := a.n.toNat) (by omega)
    have h5 : cntF a.n.toNat (setB f m.dst.toNat) + 1 = cntF a.n.toNat f := h4
    cases hfl : fl
    · have := (h.no hfl).1
      rw [this] at h5 ⊢; omega
    · have := h.yes hfl; omega
theorem PassB.skip {a : Aut} {l : List Int} {f0 f : Nat → Bool} {fl : Bool} {i : Nat} {m : Mv} (h : PassB a l f0 f fl i) (hm : a.moves[i]? = some m) (h1 : m.sym < 0 → f m.src.toNat = true → f m.dst.toNat = true) : PassB a l f0 f fl (i + 1) :=
  ⟨h.mki, fun hf => ⟨(h.no hf).1, fun j x hj hx => by
    by_cases e : j = i
    · subst e; rw [hm] at hx; cases hx; exact h1
    · exact (h.no hf).2 j x (by omega) hx⟩, h.yes⟩
theorem PassB.clos {a : Aut} {l : List Int} {f0 f : Nat → Bool} {i : Nat} (h : PassB a l f0 f false i) (hi : a.moves.length ≤ i) : ClosF a f := fun m hm => by
  obtain ⟨j, hj⟩ := List.getElem?_of_mem hm
  exact (h.no rfl).2 j m (by have := lt_of_get hj; omega) hj
theorem PassB.less {a : Aut} {l : List Int} {f0 f : Nat → Bool} {fl : Bool} {i : Nat} (h : PassB a l f0 f fl i) : cntF a.n.toNat f + (if fl then 1 else 0) < cntF a.n.toNat f0 + (if true then 1 else 0) := by
  cases hf : fl
  · have h1 := (h.no hf).1
    rw [h1]; simp
  · have h1 := h.yes hf
    simp; omega
theorem clos_listed {a : Aut} {l : List Int} {f : Nat → Bool} (hA : AOk a) (hl : InS a l) (h : MkI a l f) (hc : ClosF a f) : listedL a.n.toNat f = closL a l := by
  refine srt_ext (listedL_srt _ _) (closL_srt hA.mi hl) fun t => ?_
  rw [listedL_mem, closL_mem hA.mi hl]
  constructor
  · rintro ⟨h1, h2, h3⟩
    have := h.snd t.toNat (by omega) h3
    rwa [show ((t.toNat : Nat) : Int) = t by omega] at this
  · intro h1
    have h2 := rch_in hA.mi hl h1
    refine ⟨h2.1, by omega, ?_⟩
    clear h2
    induction h1 with
    | base h3 => exact h.base _ h3
    | @step s m h3 hm hs hcc ih =>
      subst hs
      exact hc m hm (by omega) ih
set_option maxHeartbeats 2000000 in
theorem r07Closed_e (a : Aut) (l : List Int) (h : AOk a) (hl : InS a l) : AF Tryz.prog 108 [pAut a, pInts l] (· = .own 3 1 (closL a l).length ((closL a l).map pInt)) := by
  have hn0 := h.n0
  have hn1 := h.n1
  have hml := h.ml
  rw [pAut_n h.n0]
  refine AF.of_body 62 Tryz.func108 rfl Tryz.ntmps108 (Nat.le_of_ble_eq_true rfl) ?_
  intro w0 M0 vs hl hv
  obtain ⟨v0, v1, rfl⟩ := len2 hl
  clear hl hv
  refine aC_slen 1 rfl fun hlen => ?_
  refine nav ?_
  (refine aC_region ?_
    <;> refine s_boxa 2 5 fun h2 => ?_
    <;> refine xL 4 q_assign ?_
    <;> refine aL_end (nav ?_) <;> try dsimp only)
  (refine aC_region ?_
    <;> refine xL 10 (q_fldo 2 tFl66_0_LdU) ?_
    <;> (refine yL 11 (q_ldo 2 tNa3_LdU) fun v11 hv11 => ?_; cases hv11)
    <;> refine s_make 12 tEl160_LdU fun h12 ho12 => ?_
    <;> refine xL 5 q_assign ?_
    <;> refine aL_end (nav ?_) <;> try dsimp only)
  rw [show List.replicate a.n.toNat (PV.val (.bool false)) = vec a.n.toNat (fun i => pBool (markL (l.take 0) i)) from vec_const _ _]
  (refine aC_region ?_
    <;> refine xL 6 q_assign ?_
    <;> refine aL_end (nav ?_) <;> try dsimp only)
  refine aC_loop (ι := { k : Nat // k ≤ l.length }) (fun k => ⟨[(1, _, _), (2, _, _), (5, _, _), (6, .int .i64 k.1, pInt k.1)], [(2, _, _), (12, h12, .own 4 1 a.n.toNat (vec a.n.toNat fun i => pBool (markL (l.take k.1) i)))]⟩) (fun k => l.length - k.1) ⟨0, Nat.zero_le _⟩ (fun a w H => H.weaken ⟨rfl, rfl, rfl, rfl, trivial⟩ ⟨rfl, rfl, trivial⟩) ?_
  rintro ⟨k, hk⟩
  dsimp only
  refine nav ?_
  (refine aC_region ?_
    <;> refine xL 13 q_move ?_
    <;> refine xL 14 q_move ?_
    <;> refine xL 15 (q_len tSl63_LdU) ?_
    <;> refine xL 16 q_lss ?_
    <;> refine aL_end (nav ?_) <;> try dsimp only)
  first | refine cCd (fun hb16 => ?_) (fun hb16 => ?_) | refine cC (fun hb16 => ?_) (fun hb16 => ?_)
  · first
    | exact Bool.noConfusion hb16
    | (
     obtain ⟨x, hx⟩ := get_some (show k < l.length by omega)
     have e1 := map_at (f := pInt) hx
     have hx2 := hl x (List.mem_of_getElem? hx)
     have e2 := vec_len a.n.toNat (fun i => pBool (markL (l.take k) i))
     refine nav ?_
     (refine aC_region ?_
       <;> refine xL 19 q_move ?_
       <;> refine xL 20 q_move ?_
       <;> refine xL 21 q_move ?_
       <;> refine xL 22 (q_idxN tSl63_LdU) ?_
       <;> (refine yL 23 (q_ld tNa3_LdU) fun v23 hv23 => ?_; cases hv23)
       <;> refine xL 24 (q_idxo 12 tSl160_LdU) ?_
       <;> refine s_st 12 tNa4_LdU tSz4_LdU ?_
       <;> refine aL_end (nav ?_) <;> try dsimp only)
     (refine aC_region ?_
       <;> refine xL 17 q_move ?_
       <;> refine xL 18 q_add ?_
       <;> refine xL 6 q_assign ?_
       <;> refine aL_end (nav ?_) <;> try dsimp only)
     rw [bools_step (f' := markL (l.take (k + 1))) fun i _ => markL_step hx hx2.1 i]
     refine aN_again (
       ⟨k + 1, lt_of_get hx⟩
       ) (by dsimp only; omega) ⟨rfl, rfl, rfl, rfl, trivial⟩ ⟨rfl, rfl, trivial⟩)
  · first
    | exact Bool.noConfusion hb16
    | (
     rw [show markL (l.take k) = markL l by rw [List.take_of_length_le (by omega)]]
     refine nav ?_
     (refine aC_region ?_
       <;> refine xL 7 q_assign ?_
       <;> refine aL_end (nav ?_) <;> try dsimp only)
     refine aC_loop (ι := { q : (Nat → Bool) × Bool // MkI a l q.1 ∧ (q.2 = false → ClosF a q.1) }) (fun k => ⟨[(1, _, _), (2, _, _), (5, _, _), (7, .bool k.1.2, pBool k.1.2)], [(2, _, _), (12, h12, .own 4 1 a.n.toNat (vec a.n.toNat fun i => pBool (k.1.1 i)))]⟩) (fun k => cntF a.n.toNat k.1.1 + (if k.1.2 then 1 else 0)) ⟨(markL l, true), MkI.start hl, fun h => Bool.noConfusion h⟩ (fun a w H => H.weaken ⟨rfl, rfl, rfl, rfl, trivial⟩ ⟨rfl, rfl, trivial⟩) ?_
     rintro ⟨⟨f0, ag⟩, hMk, hag⟩
     dsimp only
     dsimp only at hMk hag
     refine nav ?_
     (refine aC_region ?_
       <;> refine xL 25 q_move ?_
       <;> refine aL_end (nav ?_) <;> try dsimp only)
     first | refine cCd (fun hb25 => ?_) (fun hb25 => ?_) | refine cC (fun hb25 => ?_) (fun hb25 => ?_)
     · first
       | exact Bool.noConfusion hb25
       | (
        refine nav ?_
        (refine aC_region ?_
          <;> refine xL 7 q_assign ?_
          <;> refine aL_end (nav ?_) <;> try dsimp only)
        (refine aC_region ?_
          <;> refine xL 8 q_assign ?_
          <;> refine aL_end (nav ?_) <;> try dsimp only)
        refine aC_loop (ι := { q : Nat × (Nat → Bool) × Bool // q.1 ≤ a.moves.length ∧ PassB a l f0 q.2.1 q.2.2 q.1 }) (fun k => ⟨[(1, _, _), (2, _, _), (5, _, _), (7, .bool k.1.2.2, pBool k.1.2.2), (8, .int .i64 k.1.1, pInt k.1.1)], [(2, _, _), (12, h12, .own 4 1 a.n.toNat (vec a.n.toNat fun i => pBool (k.1.2.1 i)))]⟩) (fun k => a.moves.length - k.1.1) ⟨(0, f0, false), Nat.zero_le _, PassB.start hMk⟩ (fun a w H => H.weaken ⟨rfl, rfl, rfl, rfl, rfl, trivial⟩ ⟨rfl, rfl, trivial⟩) ?_
        rintro ⟨⟨i, f, fl⟩, hi, hP⟩
        dsimp only
        dsimp only at hi hP
        refine nav ?_
        (refine aC_region ?_
          <;> refine xL 26 q_move ?_
          <;> refine xL 27 (q_fldo 2 tFl66_4_LdU) ?_
          <;> (refine yL 28 (q_ldo 2 tNa64_LdU) fun v28 hv28 => ?_; cases hv28)
          <;> refine xL 29 (q_len tSl64_LdU) ?_
          <;> refine xL 30 q_lss ?_
          <;> refine aL_end (nav ?_) <;> try dsimp only)
        first | refine cCd (fun hb30 => ?_) (fun hb30 => ?_) | refine cC (fun hb30 => ?_) (fun hb30 => ?_)
        · first
          | exact Bool.noConfusion hb30
          | (
           obtain ⟨m, hm⟩ := get_some (show i < a.moves.length by omega)
           have e1 := flat_drop cMv_len a.moves i m hm
           have e2 := flat_fit cMv_len hm
           have hmv := h.mv m (List.mem_of_getElem? hm)
           have e3 := vec_at1 (fun i => pBool (f i)) (show m.src.toNat < a.n.toNat by omega)
           have e4 := vec_at1 (fun i => pBool (f i)) (show m.dst.toNat < a.n.toNat by omega)
           have e5 := vec_len a.n.toNat (fun i => pBool (f i))
           refine nav ?_
           (refine aC_region ?_
             <;> refine xL 33 (q_fldo 2 tFl66_4_LdU) ?_
             <;> (refine yL 34 (q_ldo 2 tNa64_LdU) fun v34 hv34 => ?_; cases hv34)
             <;> refine xL 35 q_move ?_
             <;> refine xL 36 (q_idxN tSl64_LdU) ?_
             <;> (refine yL 37 (q_lda tAgg126_LdU) fun v37 hv37 => ?_; cases hv37)
             <;> refine s_alloc [(.int .i64 0), (.int .i64 0), (.int .i64 0)] 3 9 tZr126_LdU fun h9 => ?_
             <;> refine s_sta 9 tAgg126_LdU ?_
             <;> refine aL_end (nav ?_) <;> try dsimp only)
           (refine aC_region ?_
             <;> refine xL 38 (q_fldo 9 tFl126_2_LdU) ?_
             <;> (refine yL 39 (q_ldo 9 tNa3_LdU) fun v39 hv39 => ?_; cases hv39)
             <;> refine xL 40 q_lss ?_
             <;> refine xL 41 q_move ?_
             <;> (refine bLd 41 (fun hb41 => ?_) (fun hb41 => ?_) <;> (first | refine kL 42 ?_ | refine xL 42 q_move ?_))
             <;> (first | refine kL 43 ?_ | refine xL 43 (q_fldo 9 tFl126_0_LdU) ?_)
             <;> (first | refine kL 44 ?_ | (refine yL 44 (q_ldo 9 tNa3_LdU) fun v44 hv44 => ?_; cases hv44))
             <;> (first | refine kL 45 ?_ | refine xL 45 (q_idxo 12 tSl160_LdU) ?_)
             <;> (first | refine kL 46 ?_ | (refine yL 46 (q_ldo 12 tNa4_LdU) fun v46 hv46 => ?_; cases hv46))
             <;> refine xL 47 q_pick ?_
             <;> refine xL 48 q_move ?_
             <;> (first | refine kL 49 ?_ | (refine bL 48 (fun hb48 => ?_) (fun hb48 => ?_) <;> (first | refine kL 49 ?_ | refine xL 49 q_move ?_)))
             <;> (first | refine kL 50 ?_ | refine xL 50 (q_fldo 9 tFl126_1_LdU) ?_)
             <;> (first | refine kL 51 ?_ | (refine yL 51 (q_ldo 9 tNa3_LdU) fun v51 hv51 => ?_; cases hv51))
             <;> (first | refine kL 52 ?_ | refine xL 52 (q_idxo 12 tSl160_LdU) ?_)
             <;> (first | refine kL 53 ?_ | (refine yL 53 (q_ldo 12 tNa4_LdU) fun v53 hv53 => ?_; cases hv53))
             <;> (first | refine kL 54 ?_ | refine xL 54 q_not ?_)
             <;> refine xL 55 q_pick ?_
             <;> refine aL_end (nav ?_) <;> try dsimp only) <;> (
            first | refine cCd (fun hb55 => ?_) (fun hb55 => ?_) | refine cC (fun hb55 => ?_) (fun hb55 => ?_)
            · first
              | exact Bool.noConfusion hb55
              | (
               refine nav ?_
               (refine aC_region ?_
                 <;> refine xL 56 q_move ?_
                 <;> refine xL 57 (q_fldo 9 tFl126_1_LdU) ?_
                 <;> (refine yL 58 (q_ldo 9 tNa3_LdU) fun v58 hv58 => ?_; cases hv58)
                 <;> refine xL 59 (q_idxo 12 tSl160_LdU) ?_
                 <;> refine s_st 12 tNa4_LdU tSz4_LdU ?_
                 <;> refine aL_end (nav ?_) <;> try dsimp only)
               (refine aC_region ?_
                 <;> refine xL 7 q_assign ?_
                 <;> refine aL_end (nav ?_) <;> try dsimp only)
               (refine aC_region ?_
                 <;> refine xL 31 q_move ?_
                 <;> refine xL 32 q_add ?_
                 <;> refine xL 8 q_assign ?_
                 <;> refine aL_end (nav ?_) <;> try dsimp only)
               try rw [bools_step (f' := setB f m.dst.toNat) fun i _ => rfl]
               first
                 | (exact aN_again (
                     ⟨(i + 1, setB f m.dst.toNat, true), lt_of_get hm, hP.set h hl hm (by simp_all) (by simp_all) (by simp_all)⟩
                     ) (by dsimp only; omega) ⟨rfl, rfl, rfl, rfl, rfl, trivial⟩ ⟨rfl, rfl, trivial⟩)
                 | (exact aN_again (
                     ⟨(i + 1, f, fl), lt_of_get hm, hP.skip hm (fun h1 h2 => by simp_all)⟩
                     ) (by dsimp only; omega) ⟨rfl, rfl, rfl, rfl, rfl, trivial⟩ ⟨rfl, rfl, trivial⟩)
                 | (exact aN_again (
                     ⟨(i + 1, f, fl), lt_of_get hm, hP.skip hm (fun h1 h2 => by omega)⟩
                     ) (by dsimp only; omega) ⟨rfl, rfl, rfl, rfl, rfl, trivial⟩ ⟨rfl, rfl, trivial⟩))
            · first
              | exact Bool.noConfusion hb55
              | (
               refine nav ?_
               (refine aC_region ?_
                 <;> refine xL 31 q_move ?_
                 <;> refine xL 32 q_add ?_
                 <;> refine xL 8 q_assign ?_
                 <;> refine aL_end (nav ?_) <;> try dsimp only)
               try rw [bools_step (f' := setB f m.dst.toNat) fun i _ => rfl]
               first
                 | (exact aN_again (
                     ⟨(i + 1, setB f m.dst.toNat, true), lt_of_get hm, hP.set h hl hm (by simp_all) (by simp_all) (by simp_all)⟩
                     ) (by dsimp only; omega) ⟨rfl, rfl, rfl, rfl, rfl, trivial⟩ ⟨rfl, rfl, trivial⟩)
                 | (exact aN_again (
                     ⟨(i + 1, f, fl), lt_of_get hm, hP.skip hm (fun h1 h2 => by simp_all)⟩
                     ) (by dsimp only; omega) ⟨rfl, rfl, rfl, rfl, rfl, trivial⟩ ⟨rfl, rfl, trivial⟩)
                 | (exact aN_again (
                     ⟨(i + 1, f, fl), lt_of_get hm, hP.skip hm (fun h1 h2 => by omega)⟩
                     ) (by dsimp only; omega) ⟨rfl, rfl, rfl, rfl, rfl, trivial⟩ ⟨rfl, rfl, trivial⟩))))
        · first
          | exact Bool.noConfusion hb30
          | (
           have hms : cntF a.n.toNat f + (if fl then 1 else 0) < cntF a.n.toNat f0 + (if ag then 1 else 0) := by rw [show ag = true from hb25]; exact hP.less
           refine nav ?_
           refine aN_again (
             ⟨(f, fl), hP.mki, fun hf => by dsimp only at hf; subst hf; exact hP.clos (by omega)⟩
             ) (hms) ⟨rfl, rfl, rfl, rfl, trivial⟩ ⟨rfl, rfl, trivial⟩))
     · first
       | exact Bool.noConfusion hb25
       | (
        refine nav ?_
        (refine aC_region ?_
          <;> refine xL 60 q_move ?_
          <;> (refine aL_ent (En.freeze (l := 12) (t := 60) rfl rfl) fun _ => ?_; rw [show share (.own 4 1 a.n.toNat (vec a.n.toNat fun i => pBool (f0 i))) = pBools a.n.toNat f0 by rw [share, shares_eq, vec_map]; rfl]; refine cO 61 (cA Tryz.call134 (r07listed_e a.n.toNat f0 (by omega))) fun v61 ho61 => ?_)
          <;> refine xL 4 q_assign ?_
          <;> refine aL_end (nav ?_) <;> try dsimp only)
        refine ret_own 61 (Tryz.results108) rfl rfl ?_
        rw [clos_listed h hl hMk (hag (by simpa using hb25))]))
theorem r07Closed_n (a : Aut) (l : List Int) (h : AOk a) (hl : InS a l) : AF Tryz.prog 108 [.agg [pInt (a.n.toNat : Nat), pInt a.syms, pInts a.start, pInts a.fin, pMvs a.moves], pInts l] (· = .own 3 1 (closL a l).length ((closL a l).map pInt)) := by
  rw [← pAut_n h.n0]; exact r07Closed_e a l h hl
theorem closL_congr {a : Aut} {l m : List Int} (h : MvIn a) (hl : InS a l) (hm : InS a m) (he : ∀ x, x ∈ l ↔ x ∈ m) : closL a l = closL a m := by
  refine srt_ext (closL_srt h hl) (closL_srt h hm) fun t => ?_
  rw [closL_mem h hl, closL_mem h hm]
  have key : ∀ {l m : List Int}, (∀ x, x ∈ l → x ∈ m) → ∀ {t}, Rch a l t → Rch a m t := fun he t h => by
    induction h with
    | base h1 => exact .base (he _ h1)
    | step _ hm hs hc ih => exact .step ih hm hs hc
  exact ⟨key fun x => (he x).1, key fun x => (he x).2⟩
def ledB (a : Aut) (l : List Int) (c : Int) (k : Nat) (i : Nat) : Bool := (a.moves.take k).any fun m => decide (m.sym = c) && (hasI l m.src && decide (m.dst = (i : Nat)))
theorem ledB_yes {a : Aut} {l : List Int} {c : Int} {k : Nat} {m : Mv} (h : a.moves[k]? = some m) (h0 : 0 ≤ m.dst) (h1 : m.sym = c) (h2 : hasI l m.src = true) (i : Nat) : ledB a l c (k + 1) i = if i = m.dst.toNat then true else ledB a l c k i := by
  unfold ledB
  rw [take_snoc h, List.any_append]
  simp only [List.any_cons, List.any_nil, Bool.or_false]
  rw [decide_eq_true h1, h2]
  by_cases e : i = m.dst.toNat
  · rw [if_pos e, decide_eq_true (show m.dst = (i : Int) by omega)]; simp
  · rw [if_neg e, decide_eq_false (show ¬ m.dst = (i : Int) by omega)]; simp
theorem ledB_no {a : Aut} {l : List Int} {c : Int} {k : Nat} {m : Mv} (h : a.moves[k]? = some m) (h1 : ¬ (m.sym = c ∧ hasI l m.src = true)) : ledB a l c (k + 1) = ledB a l c k := by
  funext i
  unfold ledB
  rw [take_snoc h, List.any_append]
  simp only [List.any_cons, List.any_nil, Bool.or_false]
  by_cases e : m.sym = c
  · have e2 : hasI l m.src = false := by cases hh : hasI l m.src; rfl; exact absurd ⟨e, hh⟩ h1
    rw [e2]; simp
  · rw [decide_eq_false e]; simp
theorem led_next {a : Aut} {l : List Int} {c : Int} {k : Nat} (h : AOk a) (hl : InS a l) (hk : a.moves.length ≤ k) : closL a (listedL a.n.toNat (ledB a l c k)) = nextL a c l := by
  unfold nextL
  refine closL_congr h.mi (fun s hs => by have := listedL_mem.1 hs; have := h.n0; omega) (leads_in h.mi c l) fun t => ?_
  rw [listedL_mem, leads_mem hl]
  unfold ledB
  rw [List.take_of_length_le hk]
  simp only [List.any_eq_true, Bool.and_eq_true, decide_eq_true_eq, hasI_iff]
  constructor
  · rintro ⟨h1, h2, m, hm, h3, h4, h5⟩
    exact ⟨m, hm, h4, h3, by omega⟩
  · rintro ⟨m, hm, h3, h4, rfl⟩
    have := h.mv m hm
    exact ⟨by omega, by omega, m, hm, h4, h3, by omega⟩
set_option maxHeartbeats 2000000 in
theorem r07After_e (a : Aut) (l : List Int) (c : Int) (h : AOk a) (hl : InS a l) : AF Tryz.prog 110 [pAut a, pInts l, pInt c] (· = .own 3 1 (nextL a c l).length ((nextL a c l).map pInt)) := by
  have hn0 := h.n0
  have hn1 := h.n1
  have hml := h.ml
  rw [pAut_n h.n0]
  refine AF.of_body 61 Tryz.func110 rfl Tryz.ntmps110 (Nat.le_of_ble_eq_true rfl) ?_
  intro w0 M0 vs hl hv
  obtain ⟨v0, v1, v2, rfl⟩ := len3 hl
  obtain rfl := hv 2 _ _ rfl rfl
  clear hl hv
  refine aC_slen 1 rfl fun hlen => ?_
  refine nav ?_
  (refine aC_region ?_
    <;> refine s_boxa 3 5 fun h3 => ?_
    <;> refine xL 6 q_assign ?_
    <;> refine aL_end (nav ?_) <;> try dsimp only)
  (refine aC_region ?_
    <;> refine xL 12 (q_fldo 3 tFl66_0_LdU) ?_
    <;> (refine yL 13 (q_ldo 3 tNa3_LdU) fun v13 hv13 => ?_; cases hv13)
    <;> refine s_make 14 tEl160_LdU fun h14 ho14 => ?_
    <;> refine xL 7 q_assign ?_
    <;> refine aL_end (nav ?_) <;> try dsimp only)
  rw [show List.replicate a.n.toNat (PV.val (.bool false)) = vec a.n.toNat (fun i => pBool (markL (l.take 0) i)) from vec_const _ _]
  (refine aC_region ?_
    <;> refine xL 8 q_assign ?_
    <;> refine aL_end (nav ?_) <;> try dsimp only)
  refine aC_loop (ι := { k : Nat // k ≤ l.length }) (fun k => ⟨[(1, _, _), (2, _, _), (3, _, _), (7, _, _), (8, .int .i64 k.1, pInt k.1)], [(3, _, _), (14, h14, .own 4 1 a.n.toNat (vec a.n.toNat fun i => pBool (markL (l.take k.1) i)))]⟩) (fun k => l.length - k.1) ⟨0, Nat.zero_le _⟩ (fun a w H => H.weaken ⟨rfl, rfl, rfl, rfl, rfl, trivial⟩ ⟨rfl, rfl, trivial⟩) ?_
  rintro ⟨k, hk⟩
  dsimp only
  refine nav ?_
  (refine aC_region ?_
    <;> refine xL 15 q_move ?_
    <;> refine xL 16 q_move ?_
    <;> refine xL 17 (q_len tSl63_LdU) ?_
    <;> refine xL 18 q_lss ?_
    <;> refine aL_end (nav ?_) <;> try dsimp only)
  first | refine cCd (fun hb18 => ?_) (fun hb18 => ?_) | refine cC (fun hb18 => ?_) (fun hb18 => ?_)
  · first
    | exact Bool.noConfusion hb18
    | (
     obtain ⟨x, hx⟩ := get_some (show k < l.length by omega)
     have e1 := map_at (f := pInt) hx
     have hx2 := hl x (List.mem_of_getElem? hx)
     have e2 := vec_len a.n.toNat (fun i => pBool (markL (l.take k) i))
     refine nav ?_
     (refine aC_region ?_
       <;> refine xL 21 q_move ?_
       <;> refine xL 22 q_move ?_
       <;> refine xL 23 q_move ?_
       <;> refine xL 24 (q_idxN tSl63_LdU) ?_
       <;> (refine yL 25 (q_ld tNa3_LdU) fun v25 hv25 => ?_; cases hv25)
       <;> refine xL 26 (q_idxo 14 tSl160_LdU) ?_
       <;> refine s_st 14 tNa4_LdU tSz4_LdU ?_
       <;> refine aL_end (nav ?_) <;> try dsimp only)
     (refine aC_region ?_
       <;> refine xL 19 q_move ?_
       <;> refine xL 20 q_add ?_
       <;> refine xL 8 q_assign ?_
       <;> refine aL_end (nav ?_) <;> try dsimp only)
     rw [bools_step (f' := markL (l.take (k + 1))) fun i _ => markL_step hx hx2.1 i]
     refine aN_again (
       ⟨k + 1, lt_of_get hx⟩
       ) (by dsimp only; omega) ⟨rfl, rfl, rfl, rfl, rfl, trivial⟩ ⟨rfl, rfl, trivial⟩)
  · first
    | exact Bool.noConfusion hb18
    | (
     rw [show markL (l.take k) = markL l by rw [List.take_of_length_le (by omega)]]
     refine nav ?_
     (refine aC_region ?_
       <;> refine xL 27 (q_fldo 3 tFl66_0_LdU) ?_
       <;> (refine yL 28 (q_ldo 3 tNa3_LdU) fun v28 hv28 => ?_; cases hv28)
       <;> refine s_make 29 tEl160_LdU fun h29 ho29 => ?_
       <;> refine xL 9 q_assign ?_
       <;> refine aL_end (nav ?_) <;> try dsimp only)
     rw [show List.replicate a.n.toNat (PV.val (.bool false)) = vec a.n.toNat (fun i => pBool (ledB a l c 0 i)) from vec_const _ _]
     (refine aC_region ?_
       <;> refine xL 10 q_assign ?_
       <;> refine aL_end (nav ?_) <;> try dsimp only)
     refine aC_loop (ι := { k : Nat // k ≤ a.moves.length }) (fun k => ⟨[(1, _, _), (2, _, _), (3, _, _), (7, _, _), (9, _, _), (10, .int .i64 k.1, pInt k.1)], [(3, _, _), (14, _, _), (29, h29, .own 4 1 a.n.toNat (vec a.n.toNat fun i => pBool (ledB a l c k.1 i)))]⟩) (fun k => a.moves.length - k.1) ⟨0, Nat.zero_le _⟩ (fun a w H => H.weaken ⟨rfl, rfl, rfl, rfl, rfl, rfl, trivial⟩ ⟨rfl, rfl, rfl, trivial⟩) ?_
     rintro ⟨k8, hk8⟩
     dsimp only
     refine nav ?_
     (refine aC_region ?_
       <;> refine xL 30 q_move ?_
       <;> refine xL 31 (q_fldo 3 tFl66_4_LdU) ?_
       <;> (refine yL 32 (q_ldo 3 tNa64_LdU) fun v32 hv32 => ?_; cases hv32)
       <;> refine xL 33 (q_len tSl64_LdU) ?_
       <;> refine xL 34 q_lss ?_
       <;> refine aL_end (nav ?_) <;> try dsimp only)
     first | refine cCd (fun hb34 => ?_) (fun hb34 => ?_) | refine cC (fun hb34 => ?_) (fun hb34 => ?_)
     · first
       | exact Bool.noConfusion hb34
       | (
        obtain ⟨m, hm⟩ := get_some (show k8 < a.moves.length by omega)
        have e1 := flat_drop cMv_len a.moves k8 m hm
        have e2 := flat_fit cMv_len hm
        have hmv := h.mv m (List.mem_of_getElem? hm)
        have e3 := vec_at1 (fun i => pBool (markL l i)) (show m.src.toNat < a.n.toNat by omega)
        have e5 := vec_len a.n.toNat (fun i => pBool (ledB a l c k8 i))
        have e6 : markL l m.src.toNat = hasI l m.src := by unfold markL; rw [show ((m.src.toNat : Nat) : Int) = m.src by omega]
        refine nav ?_
        (refine aC_region ?_
          <;> refine xL 37 (q_fldo 3 tFl66_4_LdU) ?_
          <;> (refine yL 38 (q_ldo 3 tNa64_LdU) fun v38 hv38 => ?_; cases hv38)
          <;> refine xL 39 q_move ?_
          <;> refine xL 40 (q_idxN tSl64_LdU) ?_
          <;> (refine yL 41 (q_lda tAgg126_LdU) fun v41 hv41 => ?_; cases hv41)
          <;> refine s_alloc [(.int .i64 0), (.int .i64 0), (.int .i64 0)] 3 11 tZr126_LdU fun h11 => ?_
          <;> refine s_sta 11 tAgg126_LdU ?_
          <;> refine aL_end (nav ?_) <;> try dsimp only)
        (refine aC_region ?_
          <;> refine xL 42 (q_fldo 11 tFl126_2_LdU) ?_
          <;> (refine yL 43 (q_ldo 11 tNa3_LdU) fun v43 hv43 => ?_; cases hv43)
          <;> refine xL 44 q_move ?_
          <;> refine xL 45 q_eql ?_
          <;> refine xL 46 q_move ?_
          <;> (refine bLd 46 (fun hb46 => ?_) (fun hb46 => ?_) <;> (first | refine kL 47 ?_ | refine xL 47 q_move ?_))
          <;> (first | refine kL 48 ?_ | refine xL 48 (q_fldo 11 tFl126_0_LdU) ?_)
          <;> (first | refine kL 49 ?_ | (refine yL 49 (q_ldo 11 tNa3_LdU) fun v49 hv49 => ?_; cases hv49))
          <;> (first | refine kL 50 ?_ | refine xL 50 (q_idxo 14 tSl160_LdU) ?_)
          <;> (first | refine kL 51 ?_ | (refine yL 51 (q_ldo 14 tNa4_LdU) fun v51 hv51 => ?_; cases hv51))
          <;> refine xL 52 q_pick ?_
          <;> refine aL_end (nav ?_) <;> try dsimp only) <;> (
         first | refine cCd (fun hb52 => ?_) (fun hb52 => ?_) | refine cC (fun hb52 => ?_) (fun hb52 => ?_)
         · first
           | exact Bool.noConfusion hb52
           | (
            refine nav ?_
            (refine aC_region ?_
              <;> refine xL 53 q_move ?_
              <;> refine xL 54 (q_fldo 11 tFl126_1_LdU) ?_
              <;> (refine yL 55 (q_ldo 11 tNa3_LdU) fun v55 hv55 => ?_; cases hv55)
              <;> refine xL 56 (q_idxo 29 tSl160_LdU) ?_
              <;> refine s_st 29 tNa4_LdU tSz4_LdU ?_
              <;> refine aL_end (nav ?_) <;> try dsimp only)
            (refine aC_region ?_
              <;> refine xL 35 q_move ?_
              <;> refine xL 36 q_add ?_
              <;> refine xL 10 q_assign ?_
              <;> refine aL_end (nav ?_) <;> try dsimp only)
            first | rw [bools_step (f' := ledB a l c (k8 + 1)) fun i _ => ledB_yes hm (by omega) (by first | omega | assumption) (by rw [← e6]; assumption) i] | rw [← ledB_no hm (by rintro ⟨g1, g2⟩; rw [← e6] at g2; first | exact absurd g1 (by assumption) | (rw [g2] at hb52; exact absurd hb52 (by decide)) | (simp_all))]
            refine aN_again (
              ⟨k8 + 1, lt_of_get hm⟩
              ) (by dsimp only; omega) ⟨rfl, rfl, rfl, rfl, rfl, rfl, trivial⟩ ⟨rfl, rfl, rfl, trivial⟩)
         · first
           | exact Bool.noConfusion hb52
           | (
            refine nav ?_
            (refine aC_region ?_
              <;> refine xL 35 q_move ?_
              <;> refine xL 36 q_add ?_
              <;> refine xL 10 q_assign ?_
              <;> refine aL_end (nav ?_) <;> try dsimp only)
            first | rw [bools_step (f' := ledB a l c (k8 + 1)) fun i _ => ledB_yes hm (by omega) (by first | omega | assumption) (by rw [← e6]; assumption) i] | rw [← ledB_no hm (by rintro ⟨g1, g2⟩; rw [← e6] at g2; first | exact absurd g1 (by assumption) | (rw [g2] at hb52; exact absurd hb52 (by decide)) | (simp_all))]
            refine aN_again (
              ⟨k8 + 1, lt_of_get hm⟩
              ) (by dsimp only; omega) ⟨rfl, rfl, rfl, rfl, rfl, rfl, trivial⟩ ⟨rfl, rfl, rfl, trivial⟩)))
     · first
       | exact Bool.noConfusion hb34
       | (
        have hLn := led_next (c := c) h hl (show a.moves.length ≤ k8 by omega)
        refine nav ?_
        (refine aC_draw (fun i => ([] : List Nat).elem i) [3] (by kernel_rfl) ?_
          <;> (refine yD 0 57 rfl (q_ldao 3 tAgg66_LdU) fun v57 hv57 => ?_; cases hv57)
          <;> refine xE 1 58 rfl q_move ?_
          <;> (refine aD_one 2 (by kernel_rfl) ?_)
          <;> (refine aW_run rfl fun w9 M9 N9 DQ back => ?_)
          <;> (refine aL_ent (En.freeze (l := 29) (t := 58) rfl rfl) fun _ => ?_; rw [show share (.own 4 1 a.n.toNat (vec a.n.toNat fun i => pBool (ledB a l c k8 i))) = pBools a.n.toNat (ledB a l c k8) by rw [share, shares_eq, vec_map]; rfl]; refine cO 59 (cA Tryz.call134 (r07listed_e a.n.toNat (ledB a l c k8) (by omega))) fun v59 ho59 => ?_; refine aL_ent (En.freeze (l := 59) (t := 59) rfl rfl) fun _ => ?_; rw [share_ints _ _ _ rfl])
          <;> refine aL_end (back _ (nrm ?_))
          <;> (refine aD_one 3 (by kernel_rfl) ?_)
          <;> (refine aW_run rfl fun w9 M9 N9 DQ back => ?_)
          <;> (refine cO 60 (cA Tryz.call108 (r07Closed_n a (listedL a.n.toNat (ledB a l c k8)) h (fun s hs => by have := listedL_mem.1 hs; omega))) fun v60 ho60 => ?_)
          <;> refine aL_end (back _ (nrm ?_))
          <;> refine xE 4 6 rfl q_assign ?_
          <;> refine aD_end (by kernel_rfl) (nav ?_)
          <;> try dsimp only)
        refine ret_own 60 (Tryz.results110) rfl rfl ?_
        rw [hLn]))
theorem r07final_e (a : Aut) (l : List Int) : AF Tryz.prog 109 [pAut a, pInts l] (· = pBool (accB a l)) := by
  refine AF.of_body 19 Tryz.func109 rfl Tryz.ntmps109 (Nat.le_of_ble_eq_true rfl) ?_
  intro w0 M0 vs hl hv
  obtain ⟨v0, v1, rfl⟩ := len2 hl
  clear hl hv
  refine aC_slen 1 rfl fun hlen => ?_
  refine nav ?_
  (refine aC_region ?_
    <;> refine s_boxa 2 5 fun h2 => ?_
    <;> refine xL 4 q_assign ?_
    <;> refine aL_end (nav ?_) <;> try dsimp only)
  (refine aC_region ?_
    <;> refine xL 5 q_assign ?_
    <;> refine aL_end (nav ?_) <;> try dsimp only)
  refine aC_loop (ι := { k : Nat // k ≤ l.length ∧ ∀ j x, j < k → l[j]? = some x → finB a x = false }) (fun k => ⟨[(1, _, _), (2, _, _), (5, .int .i64 k.1, pInt k.1)], [(2, _, _)]⟩) (fun k => l.length - k.1) ⟨0, by omega, by omega⟩ (fun a w H => H.weaken ⟨rfl, rfl, rfl, trivial⟩ ⟨rfl, trivial⟩) ?_
  rintro ⟨k, hk, hp⟩
  dsimp only
  refine nav ?_
  (refine aC_region ?_
    <;> refine xL 6 q_move ?_
    <;> refine xL 7 q_move ?_
    <;> refine xL 8 (q_len tSl63_LdU) ?_
    <;> refine xL 9 q_lss ?_
    <;> refine aL_end (nav ?_) <;> try dsimp only)
  first | refine cCd (fun hb9 => ?_) (fun hb9 => ?_) | refine cC (fun hb9 => ?_) (fun hb9 => ?_)
  · first
    | exact Bool.noConfusion hb9
    | (
     obtain ⟨x, hx⟩ := get_some (show k < l.length by omega)
     have e1 := map_at (f := pInt) hx
     refine nav ?_
     (refine aC_draw (fun i => ([] : List Nat).elem i) [2] (by kernel_rfl) ?_
       <;> refine xD 0 12 rfl (q_fldo 2 tFl66_3_LdU) ?_
       <;> (refine yD 1 13 rfl (q_ldo 2 tNa63_LdU) fun v13 hv13 => ?_; cases hv13)
       <;> refine xD 2 14 rfl q_move ?_
       <;> refine xE 3 15 rfl q_move ?_
       <;> refine xE 4 16 rfl (q_idxN tSl63_LdU) ?_
       <;> (refine yE 5 17 rfl (q_ld tNa3_LdU) fun v17 hv17 => ?_; cases hv17)
       <;> (refine aD_one 6 (by kernel_rfl) ?_)
       <;> (refine aW_run rfl fun w9 M9 N9 DQ back => ?_)
       <;> (refine cS 18 (cA Tryz.call133 (r07has_e a.fin x)) fun v18 hv18 => ?_; cases hv18)
       <;> refine aL_end (back _ (nrm ?_))
       <;> refine aD_end (by kernel_rfl) (nav ?_)
       <;> try dsimp only)
     first | refine cCd (fun hb18 => ?_) (fun hb18 => ?_) | refine cC (fun hb18 => ?_) (fun hb18 => ?_)
     · first
       | exact Bool.noConfusion hb18
       | (
        refine nav ?_
        (refine aC_region ?_
          <;> refine xL 4 q_assign ?_
          <;> refine aL_end (nav ?_) <;> try dsimp only)
        refine ret_shr (Tryz.results109) rfl ?_
        rw [show accB a l = true from List.any_eq_true.2 ⟨x, List.mem_of_getElem? hx, hb18⟩])
     · first
       | exact Bool.noConfusion hb18
       | (
        refine nav ?_
        (refine aC_region ?_
          <;> refine xL 10 q_move ?_
          <;> refine xL 11 q_add ?_
          <;> refine xL 5 q_assign ?_
          <;> refine aL_end (nav ?_) <;> try dsimp only)
        refine aN_again (
          ⟨k + 1, by omega, fun j z hj hz => by
            by_cases e : j = k
            · subst e; rw [hx] at hz; cases hz
              show hasI a.fin x = false
              simpa using hb18
            · exact hp j z (by omega) hz⟩
          ) (by dsimp only; omega) ⟨rfl, rfl, rfl, trivial⟩ ⟨rfl, trivial⟩))
  · first
    | exact Bool.noConfusion hb9
    | (
     refine nav ?_
     (refine aC_region ?_
       <;> refine xL 4 q_assign ?_
       <;> refine aL_end (nav ?_) <;> try dsimp only)
     refine ret_shr (Tryz.results109) rfl ?_
     rw [show accB a l = false by
       unfold accB
       rw [List.any_eq_false]
       intro z hz
       obtain ⟨j, hj⟩ := List.getElem?_of_mem hz
       rw [hp j z (by have := lt_of_get hj; omega) hj]; simp])
theorem r07near_e (far l : List Int) (h : ∀ s ∈ l, 0 ≤ s ∧ s < far.length) : AF Tryz.prog 111 [pInts far, pInts l] (· = pInt (leastL far l)) := by
  refine AF.of_body 34 Tryz.func111 rfl Tryz.ntmps111 (Nat.le_of_ble_eq_true rfl) ?_
  intro w0 M0 vs hl hv
  obtain ⟨v0, v1, rfl⟩ := len2 hl
  clear hl hv
  refine aC_slen 1 rfl fun hlen => ?_
  refine nav ?_
  (refine aC_region ?_
    <;> refine xL 4 q_assign ?_
    <;> refine aL_end (nav ?_) <;> try dsimp only)
  (refine aC_region ?_
    <;> refine xL 5 q_assign ?_
    <;> refine aL_end (nav ?_) <;> try dsimp only)
  (refine aC_region ?_
    <;> refine xL 6 q_assign ?_
    <;> refine aL_end (nav ?_) <;> try dsimp only)
  refine aC_loop (ι := { k : Nat // k ≤ l.length }) (fun k => ⟨[(0, _, _), (1, _, _), (5, .int .i64 ((l.take k.1).foldl (bestF far) (-1)), pInt ((l.take k.1).foldl (bestF far) (-1))), (6, .int .i64 k.1, pInt k.1)], []⟩) (fun k => l.length - k.1) ⟨0, Nat.zero_le _⟩ (fun a w H => H.weaken ⟨rfl, rfl, rfl, rfl, trivial⟩ trivial) ?_
  rintro ⟨k, hk⟩
  dsimp only
  refine nav ?_
  (refine aC_region ?_
    <;> refine xL 8 q_move ?_
    <;> refine xL 9 q_move ?_
    <;> refine xL 10 (q_len tSl63_LdU) ?_
    <;> refine xL 11 q_lss ?_
    <;> refine aL_end (nav ?_) <;> try dsimp only)
  first | refine cCd (fun hb11 => ?_) (fun hb11 => ?_) | refine cC (fun hb11 => ?_) (fun hb11 => ?_)
  · first
    | exact Bool.noConfusion hb11
    | (
     obtain ⟨x, hx⟩ := get_some (show k < l.length by omega)
     have e1 := map_at (f := pInt) hx
     have hx2 := h x (List.mem_of_getElem? hx)
     obtain ⟨d, hd⟩ := get_some (show x.toNat < far.length by omega)
     have e2 := map_at (f := pInt) hd
     obtain ⟨b, hbE⟩ : ∃ b, b = (l.take k).foldl (bestF far) (-1) := ⟨_, rfl⟩
     have hst : (l.take (k + 1)).foldl (bestF far) (-1) = bestF far b x := by rw [take_snoc hx, List.foldl_append, ← hbE]; rfl
     rw [show bestF far b x = if 0 ≤ d ∧ (b < 0 ∨ d < b) then d else b by unfold bestF; rw [hd]] at hst
     rw [← hbE]
     refine nav ?_
     (refine aC_region ?_
       <;> refine xL 14 q_move ?_
       <;> refine xL 15 q_move ?_
       <;> refine xL 16 q_move ?_
       <;> refine xL 17 (q_idxN tSl63_LdU) ?_
       <;> (refine yL 18 (q_ld tNa3_LdU) fun v18 hv18 => ?_; cases hv18)
       <;> refine xL 19 (q_idx tSl63_LdU) ?_
       <;> (refine yL 20 (q_ld tNa3_LdU) fun v20 hv20 => ?_; cases hv20)
       <;> refine xL 7 q_assign ?_
       <;> refine aL_end (nav ?_) <;> try dsimp only)
     (refine aC_region ?_
       <;> refine xL 21 q_move ?_
       <;> refine xL 22 q_geq ?_
       <;> refine xL 23 q_move ?_
       <;> (refine bLd 23 (fun hb23 => ?_) (fun hb23 => ?_) <;> (first | refine kL 24 ?_ | refine xL 24 q_move ?_))
       <;> (first | refine kL 25 ?_ | refine xL 25 q_lss ?_)
       <;> (first | refine kL 26 ?_ | refine xL 26 q_move ?_)
       <;> (first | refine kL 27 ?_ | (refine bLd 26 (fun hb26 => ?_) (fun hb26 => ?_) <;> (first | refine kL 27 ?_ | refine xL 27 q_move ?_)))
       <;> (first | refine kL 28 ?_ | refine xL 28 q_move ?_)
       <;> (first | refine kL 29 ?_ | refine xL 29 q_lss ?_)
       <;> (first | refine kL 30 ?_ | refine xL 30 q_pick ?_)
       <;> refine xL 31 q_pick ?_
       <;> refine aL_end (nav ?_) <;> try dsimp only) <;> (
      first | refine cCd (fun hb31 => ?_) (fun hb31 => ?_) | refine cC (fun hb31 => ?_) (fun hb31 => ?_)
      · first
        | exact Bool.noConfusion hb31
        | (
         refine nav ?_
         (refine aC_region ?_
           <;> refine xL 32 q_move ?_
           <;> refine xL 5 q_assign ?_
           <;> refine aL_end (nav ?_) <;> try dsimp only)
         (refine aC_region ?_
           <;> refine xL 12 q_move ?_
           <;> refine xL 13 q_add ?_
           <;> refine xL 6 q_assign ?_
           <;> refine aL_end (nav ?_) <;> try dsimp only)
         first | rw [show d = (l.take (k + 1)).foldl (bestF far) (-1) by rw [hst, if_pos (by first | omega | (simp_all; omega))]] | rw [show b = (l.take (k + 1)).foldl (bestF far) (-1) by rw [hst, if_neg (by first | omega | (simp_all; omega))]]
         refine aN_again (
           ⟨k + 1, lt_of_get hx⟩
           ) (by dsimp only; omega) ⟨rfl, rfl, rfl, rfl, trivial⟩ trivial)
      · first
        | exact Bool.noConfusion hb31
        | (
         refine nav ?_
         (refine aC_region ?_
           <;> refine xL 12 q_move ?_
           <;> refine xL 13 q_add ?_
           <;> refine xL 6 q_assign ?_
           <;> refine aL_end (nav ?_) <;> try dsimp only)
         first | rw [show d = (l.take (k + 1)).foldl (bestF far) (-1) by rw [hst, if_pos (by first | omega | (simp_all; omega))]] | rw [show b = (l.take (k + 1)).foldl (bestF far) (-1) by rw [hst, if_neg (by first | omega | (simp_all; omega))]]
         refine aN_again (
           ⟨k + 1, lt_of_get hx⟩
           ) (by dsimp only; omega) ⟨rfl, rfl, rfl, rfl, trivial⟩ trivial)))
  · first
    | exact Bool.noConfusion hb11
    | (
     refine nav ?_
     (refine aC_region ?_
       <;> refine xL 33 q_move ?_
       <;> refine xL 4 q_assign ?_
       <;> refine aL_end (nav ?_) <;> try dsimp only)
     refine ret_shr (Tryz.results111) rfl ?_
     rw [List.take_of_length_le (by omega)]; rfl)
end Go.Proofs.YtebcjijpdhbcdaaGreat
