/-
  Walks: the relation of a graph (package cut): squares, of, at, reach.
  Walks: reach, loops, fits, begin (package cut).
  Walks: the reference's valid graphs (layer 17) and views of graphs (layer 36).
-/
import Derived.Test.YtebcjijpdhbcdaaGreatLa
import Derived.Test.YtebcjijpdhbcdaaGreatLp
import Derived.Test.YtebcjijpdhbcdaaGreatEngb
namespace Go.Proofs.YtebcjijpdhbcdaaGreat
open Go.RowKit Go.Cb Go.En
set_option linter.all false
set_option maxRecDepth 100000



def ixN (l : List ByteArray) (s : ByteArray) : Nat := (idx (fun x => strEq x s) l).toNat
theorem ixN_of {l : List ByteArray} {s : ByteArray} (h : hasStr l s = true) : idx (fun x => strEq x s) l = (ixN l s : Int) ∧ ixN l s < l.length := by
  have h1 := idx_bd (fun x => strEq x s) l
  have h2 : 0 ≤ idx (fun x => strEq x s) l := by
    have := idx_any (fun x => strEq x s) l
    rw [show l.any (fun x => strEq x s) = true from h] at this
    exact of_decide_eq_true this
  unfold ixN
  omega
theorem dfg_parts {g : Dfg} (h : dfgOk g = true) : (cnames g.acts).length ≤ 40 ∧ (∀ c ∈ g.starts, hasStr (cnames g.acts) c.name = true) ∧ (∀ c ∈ g.ends, hasStr (cnames g.acts) c.name = true) ∧ (∀ f ∈ g.follows, hasStr (cnames g.acts) f.src = true ∧ hasStr (cnames g.acts) f.dst = true) := by
  unfold dfgOk alphaB ascB at h
  simp only [Bool.and_eq_true, List.all_eq_true, decide_eq_true_eq] at h
  obtain ⟨⟨⟨⟨⟨⟨⟨h1, h2⟩, h3⟩, h4⟩, h5⟩, h6⟩, h7⟩, h8⟩ := h
  refine ⟨h1.1.1, fun c hc => h2.2 _ (List.mem_map.2 ⟨c, hc, rfl⟩), fun c hc => h3.2 _ (List.mem_map.2 ⟨c, hc, rfl⟩), fun f hf => ?_⟩
  have := h7 f hf
  unfold flwOk at this
  simp only [Bool.and_eq_true] at this
  exact ⟨this.1.2, this.2⟩
end Go.Proofs.YtebcjijpdhbcdaaGreat

namespace Go.Proofs.YtebcjijpdhbcdaaGreat
open Go.RowKit Go.Cb Go.En
set_option linter.all false
set_option maxRecDepth 100000



end Go.Proofs.YtebcjijpdhbcdaaGreat

namespace Go.Proofs.YtebcjijpdhbcdaaGreat
open Go.RowKit Go.Cb Go.En
set_option linter.all false
set_option maxRecDepth 100000

theorem tAgg47_LbH : AggT Tryz.prog 47 3 = true := by kernel_rfl
theorem tEl51_LbH : ElT Tryz.prog 51 9 1 16 (.string ByteArray.empty) := ⟨Tryz.underlying51, by kernel_rfl, rfl, by decide⟩
theorem tFl28_0_LbH : FldT Tryz.prog 28 0 0 = true := by kernel_rfl
theorem tFl28_1_LbH : FldT Tryz.prog 28 1 1 = true := by kernel_rfl
theorem tFl28_2_LbH : FldT Tryz.prog 28 2 2 = true := by kernel_rfl
theorem tFl28_3_LbH : FldT Tryz.prog 28 3 3 = true := by kernel_rfl
theorem tFl44_0_LbH : FldT Tryz.prog 44 0 0 = true := by kernel_rfl
theorem tFl44_1_LbH : FldT Tryz.prog 44 1 1 = true := by kernel_rfl
theorem tFl47_0_LbH : FldT Tryz.prog 47 0 0 = true := by kernel_rfl
theorem tFl47_1_LbH : FldT Tryz.prog 47 1 1 = true := by kernel_rfl
theorem tFl47_2_LbH : FldT Tryz.prog 47 2 2 = true := by kernel_rfl
theorem tNa25_LbH : NoAgg Tryz.prog 25 = true := by kernel_rfl
theorem tNa26_LbH : NoAgg Tryz.prog 26 = true := by kernel_rfl
theorem tNa3_LbH : NoAgg Tryz.prog 3 = true := by kernel_rfl
theorem tNa9_LbH : NoAgg Tryz.prog 9 = true := by kernel_rfl
theorem tSl25_LbH : SlT Tryz.prog 25 44 2 = true := by kernel_rfl
theorem tSl26_LbH : SlT Tryz.prog 26 47 3 = true := by kernel_rfl
theorem tZr47_LbH : ZeroT Tryz.prog 47 (.agg #[(.string ByteArray.empty), (.string ByteArray.empty), (.int .i64 0)]) := by unfold ZeroT; kernel_rfl

theorem r17names_e (l : List Cnt) (hl0 : l.length ≤ 1000000) : AF Tryz.prog 86 [pCnts l] (· = pStrs (cnames l)) := by
  refine AF.of_body 20 Tryz.func86 rfl Tryz.ntmps86 (Nat.le_of_ble_eq_true rfl) ?_
  intro w0 M0 vs hl hv
  obtain ⟨v0, rfl⟩ := len1 hl
  clear hl hv
  refine nav ?_
  (refine aC_region ?_
    <;> refine xL 2 q_assign ?_
    <;> refine aL_end (nav ?_) <;> try dsimp only)
  (refine aC_region ?_
    <;> refine xL 3 q_assign ?_
    <;> refine aL_end (nav ?_) <;> try dsimp only)
  (refine aC_region ?_
    <;> refine xL 4 q_assign ?_
    <;> refine aL_end (nav ?_) <;> try dsimp only)
  refine aC_ent (nilOwn 200 9 1 rfl) fun _ => ?_
  refine aC_loop (ι := { x : Nat × Value // x.1 ≤ l.length }) (fun k => ⟨[(0, _, _), (3, k.1.2, .val k.1.2), (4, .int .i64 k.1.1, pInt k.1.1)], [(200, k.1.2, .own 9 1 k.1.1 ((cnames (l.take k.1.1)).map pStr))]⟩) (fun k => l.length - k.1.1) ⟨(0, .slice none 0 0), by omega⟩ (fun a w H => H.weaken ⟨rfl, rfl, rfl, trivial⟩ ⟨rfl, trivial⟩) ?_
  rintro ⟨⟨k, h3⟩, hk⟩
  dsimp only
  dsimp only at hk
  refine nav ?_
  (refine aC_region ?_
    <;> refine xL 5 q_move ?_
    <;> refine xL 6 q_move ?_
    <;> refine xL 7 (q_len tSl25_LbH) ?_
    <;> refine xL 8 q_lss ?_
    <;> refine aL_end (nav ?_) <;> try dsimp only)
  first | refine cCd (fun hb8 => ?_) (fun hb8 => ?_) | refine cC (fun hb8 => ?_) (fun hb8 => ?_)
  · first
    | exact Bool.noConfusion hb8
    | (
     obtain ⟨x, hx⟩ := get_some (show k < l.length by omega)
     have e1 : (l.flatMap cCnt)[k * 2 + 0]? = some (pStr x.name) := flat_at cCnt_len hx (by decide)
     have e3 : ((cnames (l.take k)).map pStr).length = k := by simp [cnames]; omega
     refine nav ?_
     (refine aC_region ?_
       <;> refine xL 11 q_move ?_
       <;> refine xL 12 q_move ?_
       <;> refine xL 13 q_move ?_
       <;> refine xL 14 (q_idxN tSl25_LbH) ?_
       <;> refine xL 15 (q_fld tFl44_0_LbH) ?_
       <;> (refine yL 16 (q_ld tNa9_LbH) fun v16 hv16 => ?_; cases hv16)
       <;> refine s_lit1 (kk := 1) 17 tEl51_LbH fun h17 ho17 => ?_
       <;> refine s_app 200 17 18 tEl51_LbH fun h18 ho18 => ?_
       <;> refine xL 3 q_assign ?_
       <;> refine aL_end (nav ?_) <;> try dsimp only)
     (refine aC_region ?_
       <;> refine xL 9 q_move ?_
       <;> refine xL 10 q_add ?_
       <;> refine xL 4 q_assign ?_
       <;> refine aL_end (nav ?_) <;> try dsimp only)
     refine aN_ent (relabel (l := 18) 200 rfl rfl) fun _ => ?_
     rw [show (cnames (l.take k)).map pStr ++ [pStr x.name] = (cnames (l.take (k + 1))).map pStr by rw [cnames_take hx, List.map_append]; rfl]
     refine aN_again (
       ⟨(k + 1, h18), by show k + 1 ≤ l.length; omega⟩
       ) (by dsimp only; omega) ⟨rfl, rfl, rfl, trivial⟩ ⟨rfl, trivial⟩)
  · first
    | exact Bool.noConfusion hb8
    | (
     refine nav ?_
     (refine aC_region ?_
       <;> refine xL 19 q_move ?_
       <;> refine xL 2 q_assign ?_
       <;> refine aL_end (nav ?_) <;> try dsimp only)
     refine aR_ent (En.freeze (l := 200) (t := 2) rfl rfl) fun _ => ?_
     refine ret_shr (Tryz.results86) rfl ?_
     obtain rfl : k = l.length := by omega
     rw [List.take_length, share_strs]
     unfold pStrs cnames; rw [List.length_map])
theorem r17number_e (n : Int) : AF Tryz.prog 75 [pInt n] (· = pBool (countedB n)) := by
  refine AF.of_body 9 Tryz.func75 rfl Tryz.ntmps75 (Nat.le_of_ble_eq_true rfl) ?_
  intro w0 M0 vs hl hv
  obtain ⟨v0, rfl⟩ := len1 hl
  obtain rfl := hv 0 _ _ rfl rfl
  clear hl hv
  refine nav ?_
  (refine aC_region ?_
    <;> refine xL 2 q_assign ?_
    <;> refine aL_end (nav ?_) <;> try dsimp only)
  (refine aC_region ?_
    <;> refine xL 3 q_move ?_
    <;> refine xL 4 q_geq ?_
    <;> refine xL 5 q_move ?_
    <;> (refine bLd 5 (fun hb5 => ?_) (fun hb5 => ?_) <;> (first | refine kL 6 ?_ | refine xL 6 q_move ?_))
    <;> (first | refine kL 7 ?_ | refine xL 7 q_leq ?_)
    <;> refine xL 8 q_pick ?_
    <;> refine xL 2 q_assign ?_
    <;> refine aL_end (nav ?_) <;> try dsimp only) <;> (
   refine ret_shr (Tryz.results75) rfl (bool_val ?_)
   simp only [countedB, Bool.and_eq_true, decide_eq_true_eq, true_iff, false_iff, Bool.false_eq_true] <;> omega)
def countsB (l : List Cnt) (acts : List ByteArray) : Bool := l.all (fun c => countedB c.n && hasStr acts c.name) && chainB (fun a b => strLt a.name b.name) l
theorem ix_none {l : List ByteArray} {s : ByteArray} (h : idx (fun x => strEq x s) l < 0) : hasStr l s = false := by
  have := idx_any (fun x => strEq x s) l
  unfold hasStr; rw [← this]; exact decide_eq_false (by omega)
theorem ix_some {l : List ByteArray} {s : ByteArray} (h : ¬ idx (fun x => strEq x s) l < 0) : hasStr l s = true := by
  have := idx_any (fun x => strEq x s) l
  unfold hasStr; rw [← this]; exact decide_eq_true (by omega)
theorem r17counts_e (l : List Cnt) (acts : List ByteArray) : AF Tryz.prog 88 [pCnts l, pStrs acts] (· = pBool (countsB l acts)) := by
  refine AF.of_body 47 Tryz.func88 rfl Tryz.ntmps88 (Nat.le_of_ble_eq_true rfl) ?_
  intro w0 M0 vs hl hv
  obtain ⟨v0, v1, rfl⟩ := len2 hl
  clear hl hv
  refine aC_slen 0 rfl fun hlen => ?_
  refine nav ?_
  (refine aC_region ?_
    <;> refine xL 4 q_assign ?_
    <;> refine aL_end (nav ?_) <;> try dsimp only)
  (refine aC_region ?_
    <;> refine xL 5 q_assign ?_
    <;> refine aL_end (nav ?_) <;> try dsimp only)
  refine aC_loop (ι := { k : Nat // k ≤ l.length ∧ ∀ j x, j < k → l[j]? = some x → (countedB x.n && hasStr acts x.name) = true ∧ ∀ y, 1 ≤ j → l[j - 1]? = some y → strLt y.name x.name = true }) (fun k => ⟨[(0, _, _), (1, _, _), (5, .int .i64 k.1, pInt k.1)], []⟩) (fun k => l.length - k.1) ⟨0, by omega, by omega⟩ (fun a w H => H.weaken ⟨rfl, rfl, rfl, trivial⟩ trivial) ?_
  rintro ⟨k, hk, hp⟩
  dsimp only
  refine nav ?_
  (refine aC_region ?_
    <;> refine xL 6 q_move ?_
    <;> refine xL 7 q_move ?_
    <;> refine xL 8 (q_len tSl25_LbH) ?_
    <;> refine xL 9 q_lss ?_
    <;> refine aL_end (nav ?_) <;> try dsimp only)
  first | refine cCd (fun hb9 => ?_) (fun hb9 => ?_) | refine cC (fun hb9 => ?_) (fun hb9 => ?_)
  · first
    | exact Bool.noConfusion hb9
    | (
     obtain ⟨x, hx⟩ := get_some (show k < l.length by omega)
     obtain ⟨y, hy⟩ := get_some (show k - 1 < l.length by omega)
     have e1 : (l.flatMap cCnt)[k * 2 + 0]? = some (pStr x.name) := flat_at cCnt_len hx (by decide)
     have e2 : (l.flatMap cCnt)[k * 2 + 1]? = some (pInt x.n) := flat_at cCnt_len hx (by decide)
     have e3 : (l.flatMap cCnt)[((k : Int) - 1).toNat * 2 + 0]? = some (pStr y.name) := by rw [show ((k : Int) - 1).toNat * 2 + 0 = (k - 1) * 2 + 0 by omega]; exact flat_at cCnt_len hy (by decide)
     refine nav ?_
     (refine aC_draw (fun i => ([] : List Nat).elem i) [] (by kernel_rfl) ?_
       <;> refine xD 0 12 rfl q_move ?_
       <;> refine xE 1 13 rfl q_move ?_
       <;> refine xE 2 14 rfl (q_idxN tSl25_LbH) ?_
       <;> refine xE 3 15 rfl (q_fld tFl44_1_LbH) ?_
       <;> (refine yE 4 16 rfl (q_ld tNa3_LbH) fun v16 hv16 => ?_; cases hv16)
       <;> (refine aD_one 5 (by kernel_rfl) ?_)
       <;> (refine aW_run rfl fun w9 M9 N9 DQ back => ?_)
       <;> (refine cS 17 (cA Tryz.call75 (r17number_e x.n)) fun v17 hv17 => ?_; cases hv17)
       <;> refine aL_end (back _ (nrm ?_))
       <;> refine xE 6 18 rfl q_not ?_
       <;> refine xE 7 19 rfl q_move ?_
       <;> (refine bD 19 (fun hb19 => ?_) (fun hb19 => ?_) <;> (first | refine kD 8 20 rfl ?_ | refine xD 8 20 rfl q_move ?_))
       <;> (first | refine kD 9 21 rfl ?_ | refine xD 9 21 rfl q_move ?_)
       <;> (first | refine kD 10 22 rfl ?_ | refine xD 10 22 rfl q_move ?_)
       <;> (first | refine kD 11 23 rfl ?_ | refine xD 11 23 rfl (q_idxN tSl25_LbH) ?_)
       <;> (first | refine kD 12 24 rfl ?_ | refine xD 12 24 rfl (q_fld tFl44_0_LbH) ?_)
       <;> (first | refine kD 13 25 rfl ?_ | (refine yD 13 25 rfl (q_ld tNa9_LbH) fun v25 hv25 => ?_; cases hv25))
       <;> (refine aD_one 14 (by kernel_rfl) ?_)
       <;> (refine aW_run rfl fun w9 M9 N9 DQ back => ?_)
       <;> (first | refine kL 26 ?_ | (refine cS 26 (cA Tryz.call89 (rIndex_e acts x.name)) fun v26 hv26 => ?_; cases hv26))
       <;> refine aL_end (back _ (nrm ?_))
       <;> (first | refine kD 15 27 rfl ?_ | refine xD 15 27 rfl q_lss ?_)
       <;> refine xE 16 28 rfl q_pick ?_
       <;> refine xE 17 29 rfl q_move ?_
       <;> (first | refine kD 18 30 rfl ?_ | (refine bDd 29 (fun hb29 => ?_) (fun hb29 => ?_) <;> (first | refine kD 18 30 rfl ?_ | refine xD 18 30 rfl q_move ?_)))
       <;> (first | refine kD 19 31 rfl ?_ | refine xD 19 31 rfl q_gtr ?_)
       <;> (first | refine kD 20 32 rfl ?_ | refine xD 20 32 rfl q_move ?_)
       <;> (first | refine kD 21 33 rfl ?_ | (refine bDd 32 (fun hb32 => ?_) (fun hb32 => ?_) <;> (first | refine kD 21 33 rfl ?_ | refine xD 21 33 rfl q_move ?_)))
       <;> (first | refine kD 22 34 rfl ?_ | refine xD 22 34 rfl q_move ?_)
       <;> (first | refine kD 23 35 rfl ?_ | refine xD 23 35 rfl q_sub ?_)
       <;> (first | refine kD 24 36 rfl ?_ | refine xD 24 36 rfl (q_idx tSl25_LbH) ?_)
       <;> (first | refine kD 25 37 rfl ?_ | refine xD 25 37 rfl (q_fld tFl44_0_LbH) ?_)
       <;> (first | refine kD 26 38 rfl ?_ | (refine yD 26 38 rfl (q_ld tNa9_LbH) fun v38 hv38 => ?_; cases hv38))
       <;> (first | refine kD 27 39 rfl ?_ | refine xD 27 39 rfl q_move ?_)
       <;> (first | refine kD 28 40 rfl ?_ | refine xD 28 40 rfl q_move ?_)
       <;> (first | refine kD 29 41 rfl ?_ | refine xD 29 41 rfl (q_idxN tSl25_LbH) ?_)
       <;> (first | refine kD 30 42 rfl ?_ | refine xD 30 42 rfl (q_fld tFl44_0_LbH) ?_)
       <;> (first | refine kD 31 43 rfl ?_ | (refine yD 31 43 rfl (q_ld tNa9_LbH) fun v43 hv43 => ?_; cases hv43))
       <;> (first | refine kD 32 44 rfl ?_ | refine xD 32 44 rfl q_sgeq ?_)
       <;> (first | refine kD 33 45 rfl ?_ | refine xD 33 45 rfl q_pick ?_)
       <;> refine xE 34 46 rfl q_pick ?_
       <;> refine aD_end (by kernel_rfl) (nav ?_)
       <;> try dsimp only) <;> (
      first | refine cCd (fun hb46 => ?_) (fun hb46 => ?_) | refine cC (fun hb46 => ?_) (fun hb46 => ?_)
      · first
        | exact Bool.noConfusion hb46
        | (
         refine nav ?_
         (refine aC_region ?_
           <;> refine xL 4 q_assign ?_
           <;> refine aL_end (nav ?_) <;> try dsimp only)
         refine ret_shr (Tryz.results88) rfl ?_
         unfold countsB
         first
           | rw [all_stop hx (show (countedB x.n && hasStr acts x.name) = false by rw [show countedB x.n = false by simpa using hb19]; rfl)]; rfl
           | rw [all_stop hx (show (countedB x.n && hasStr acts x.name) = false by rw [ix_none hb29]; simp)]; rfl
           | rw [chainB_stop (by omega) hy hx (by simpa [strLt] using hb46)]; simp)
      · first
        | exact Bool.noConfusion hb46
        | (
         refine nav ?_
         (refine aC_region ?_
           <;> refine xL 10 q_move ?_
           <;> refine xL 11 q_add ?_
           <;> refine xL 5 q_assign ?_
           <;> refine aL_end (nav ?_) <;> try dsimp only)
         refine aN_again (
           ⟨k + 1, by omega, fun j z hj hz => by
             by_cases e : j = k
             · subst e; rw [hx] at hz; cases hz
               refine ⟨by rw [show countedB x.n = true by simpa using hb19, ix_some hb29]; rfl, fun y' h1 hy' => ?_⟩
               rw [hy] at hy'; cases hy'
               first | omega | simpa [strLt] using hb46
             · exact hp j z (by omega) hz⟩
           ) (by dsimp only; omega) ⟨rfl, rfl, rfl, trivial⟩ trivial)))
  · first
    | exact Bool.noConfusion hb9
    | (
     refine nav ?_
     (refine aC_region ?_
       <;> refine xL 4 q_assign ?_
       <;> refine aL_end (nav ?_) <;> try dsimp only)
     refine ret_shr (Tryz.results88) rfl ?_
     have h1 : l.all (fun c => countedB c.n && hasStr acts c.name) = true := all_end fun j x hj => (hp j x (by have := lt_of_get hj; omega) hj).1
     have h2 : chainB (fun a b : Cnt => strLt a.name b.name) l = true := chainB_end fun j x y h1 hy hx => (hp j x (by have := lt_of_get hx; omega) hx).2 y h1 hy
     unfold countsB; rw [h1, h2]; rfl)
theorem chain_map {α β : Type} {r : β → β → Bool} {f : α → β} : ∀ l : List α, chainB r (l.map f) = chainB (fun a b => r (f a) (f b)) l
  | [] => rfl
  | [a] => rfl
  | a :: b :: l => by rw [List.map_cons, List.map_cons, chainB, chainB, ← List.map_cons, chain_map (b :: l)]
theorem hasStr_self {l : List ByteArray} {s : ByteArray} (h : s ∈ l) : hasStr l s = true := by unfold hasStr; rw [List.any_eq_true]; exact ⟨s, h, strEq_iff.2 rfl⟩
theorem countsB_eq (l : List Cnt) (acts : List ByteArray) : countsB l acts = (ascB (cnames l) acts && l.all fun c => countedB c.n) := by
  unfold countsB ascB cnames
  rw [chain_map, List.all_map, Bool.eq_iff_iff]
  simp only [Bool.and_eq_true, List.all_eq_true, Function.comp_def]
  constructor
  · rintro ⟨h1, h2⟩; exact ⟨⟨h2, fun x hx => (h1 x hx).2⟩, fun x hx => (h1 x hx).1⟩
  · rintro ⟨⟨h1, h2⟩, h3⟩; exact ⟨fun x hx => ⟨h3 x hx, h2 x hx⟩, h1⟩
theorem counts_acts {l : List Cnt} (h : alphaB (cnames l) = true) : countsB l (cnames l) = l.all fun c => countedB c.n := by
  rw [countsB_eq]
  have : ascB (cnames l) (cnames l) = true := by
    unfold ascB
    unfold alphaB at h
    simp only [Bool.and_eq_true] at h
    rw [h.2, Bool.true_and, List.all_eq_true]
    exact fun x hx => hasStr_self hx
  rw [this, Bool.true_and]
theorem flwCmp_bad1 {y x : Flw} (h : (!(strLt y.src x.src || strEq y.src x.src)) = true) : flwLt y x = false := by
  unfold flwLt flwCmp
  rw [cmpStr_gt h]; rfl
theorem flwCmp_bad2 {y x : Flw} (h : strEq y.src x.src = true) (h2 : strLt y.dst x.dst = false) : flwLt y x = false := by
  unfold flwLt flwCmp
  rw [if_pos (cmpStr_zero.2 (strEq_iff.1 h))]
  refine decide_eq_false fun h3 => ?_
  rw [cmpStr_neg, h2] at h3; cases h3
theorem flwCmp_ok1 {y x : Flw} (h : (!(strLt y.src x.src || strEq y.src x.src)) = false) (h2 : strEq y.src x.src = false) : flwLt y x = true := by
  rw [h2, Bool.or_false, Bool.not_eq_false'] at h
  unfold flwLt flwCmp
  rw [cmpStr_lt h]; rfl
theorem flwCmp_ok2 {y x : Flw} (h : strEq y.src x.src = true) (h2 : strLt y.dst x.dst = true) : flwLt y x = true := by
  unfold flwLt flwCmp
  rw [if_pos (cmpStr_zero.2 (strEq_iff.1 h)), cmpStr_lt h2]; rfl
set_option maxHeartbeats 1000000 in
theorem r17Valid_e (g : Dfg) (hf : fitD g) (ha : g.acts.length ≤ 1000000) : AF Tryz.prog 37 [pDfg g] (· = pBool (dfgOk g)) := by
  refine AF.of_body 101 Tryz.func37 rfl Tryz.ntmps37 (Nat.le_of_ble_eq_true rfl) ?_
  intro w0 M0 vs hl hv
  obtain ⟨v0, rfl⟩ := len1 hl
  clear hl hv
  refine nav ?_
  (refine aC_region ?_
    <;> refine s_boxa 1 4 fun h1 => ?_
    <;> refine xL 2 q_assign ?_
    <;> refine aL_end (nav ?_) <;> try dsimp only)
  (refine aC_region ?_
    <;> refine xL 6 (q_fldo 1 tFl28_0_LbH) ?_
    <;> (refine yL 7 (q_ldo 1 tNa25_LbH) fun v7 hv7 => ?_; cases hv7)
    <;> (refine cS 8 (cA Tryz.call86 (r17names_e g.acts ha)) fun v8 hv8 => ?_; cases hv8)
    <;> refine xL 3 q_assign ?_
    <;> refine aL_end (nav ?_) <;> try dsimp only)
  (refine aC_region ?_
    <;> refine xL 9 q_move ?_
    <;> (refine cS 10 (cA Tryz.call87 (rAlphabet_e (cnames g.acts) (fun s hs => by obtain ⟨c, hc, rfl⟩ := List.mem_map.1 hs; exact (hf.1.2 c hc).1))) fun v10 hv10 => ?_; cases hv10)
    <;> refine xL 11 q_not ?_
    <;> refine xL 12 q_move ?_
    <;> (refine bL 12 (fun hb12 => ?_) (fun hb12 => ?_) <;> (first | refine kL 13 ?_ | refine xL 13 (q_fldo 1 tFl28_0_LbH) ?_))
    <;> (first | refine kL 14 ?_ | (refine yL 14 (q_ldo 1 tNa25_LbH) fun v14 hv14 => ?_; cases hv14))
    <;> (first | refine kL 15 ?_ | refine xL 15 q_move ?_)
    <;> (first | refine kL 16 ?_ | (refine cS 16 (cA Tryz.call88 (r17counts_e g.acts (cnames g.acts))) fun v16 hv16 => ?_; cases hv16))
    <;> (first | refine kL 17 ?_ | refine xL 17 q_not ?_)
    <;> refine xL 18 q_pick ?_
    <;> refine xL 19 q_move ?_
    <;> (first | refine kL 20 ?_ | (refine bL 19 (fun hb19 => ?_) (fun hb19 => ?_) <;> (first | refine kL 20 ?_ | refine xL 20 (q_fldo 1 tFl28_1_LbH) ?_)))
    <;> (first | refine kL 21 ?_ | (refine yL 21 (q_ldo 1 tNa25_LbH) fun v21 hv21 => ?_; cases hv21))
    <;> (first | refine kL 22 ?_ | refine xL 22 q_move ?_)
    <;> (first | refine kL 23 ?_ | (refine cS 23 (cA Tryz.call88 (r17counts_e g.starts (cnames g.acts))) fun v23 hv23 => ?_; cases hv23))
    <;> (first | refine kL 24 ?_ | refine xL 24 q_not ?_)
    <;> refine xL 25 q_pick ?_
    <;> refine xL 26 q_move ?_
    <;> (first | refine kL 27 ?_ | (refine bL 26 (fun hb26 => ?_) (fun hb26 => ?_) <;> (first | refine kL 27 ?_ | refine xL 27 (q_fldo 1 tFl28_2_LbH) ?_)))
    <;> (first | refine kL 28 ?_ | (refine yL 28 (q_ldo 1 tNa25_LbH) fun v28 hv28 => ?_; cases hv28))
    <;> (first | refine kL 29 ?_ | refine xL 29 q_move ?_)
    <;> (first | refine kL 30 ?_ | (refine cS 30 (cA Tryz.call88 (r17counts_e g.ends (cnames g.acts))) fun v30 hv30 => ?_; cases hv30))
    <;> (first | refine kL 31 ?_ | refine xL 31 q_not ?_)
    <;> refine xL 32 q_pick ?_
    <;> refine aL_end (nav ?_) <;> try dsimp only) <;> (
   first | refine cCd (fun hb32 => ?_) (fun hb32 => ?_) | refine cC (fun hb32 => ?_) (fun hb32 => ?_)
   · first
     | exact Bool.noConfusion hb32
     | (
      refine nav ?_
      (refine aC_region ?_
        <;> refine xL 2 q_assign ?_
        <;> refine aL_end (nav ?_) <;> try dsimp only)
      refine ret_shr (Tryz.results37) rfl ?_
      rw [show dfgOk g = false from ?_]
      rw [← Bool.not_eq_true]; intro hd
      unfold dfgOk at hd
      simp only [Bool.and_eq_true] at hd
      obtain ⟨⟨⟨⟨⟨⟨⟨h1, h2⟩, h3⟩, h4⟩, h5⟩, h6⟩, h7⟩, h8⟩ := hd
      first
        | (simp [h1] at hb12; done)
        | (simp [counts_acts h1, h4] at hb19; done)
        | (simp [countsB_eq, h2, h5] at hb26; done)
        | (simp [countsB_eq, h3, h6] at hb32; done))
   · first
     | exact Bool.noConfusion hb32
     | (
      refine nav ?_
      (refine aC_region ?_
        <;> refine xL 4 q_assign ?_
        <;> refine aL_end (nav ?_) <;> try dsimp only)
      have h1 : alphaB (cnames g.acts) = true := by simpa using hb12
      have h4 : g.acts.all (fun c => countedB c.n) = true := by rw [← counts_acts h1]; simpa using hb19
      have h25 : ascB (cnames g.starts) (cnames g.acts) = true ∧ g.starts.all (fun c => countedB c.n) = true := by
        have : countsB g.starts (cnames g.acts) = true := by simpa using hb26
        rw [countsB_eq, Bool.and_eq_true] at this; exact this
      have h36 : ascB (cnames g.ends) (cnames g.acts) = true ∧ g.ends.all (fun c => countedB c.n) = true := by
        have : countsB g.ends (cnames g.acts) = true := by simpa using hb32
        rw [countsB_eq, Bool.and_eq_true] at this; exact this
      have hfl := hf.2.2.2.1
      refine aC_loop (ι := { k : Nat // k ≤ g.follows.length ∧ ∀ j x, j < k → g.follows[j]? = some x → flwOk (cnames g.acts) x = true ∧ ∀ y, 1 ≤ j → g.follows[j - 1]? = some y → flwLt y x = true }) (fun k => ⟨[(1, _, _), (3, _, _), (4, .int .i64 k.1, pInt k.1)], [(1, _, _)]⟩) (fun k => g.follows.length - k.1) ⟨0, by omega, by omega⟩ (fun a w H => H.weaken ⟨rfl, rfl, rfl, trivial⟩ ⟨rfl, trivial⟩) ?_
      rintro ⟨k, hk, hp⟩
      dsimp only
      refine nav ?_
      (refine aC_region ?_
        <;> refine xL 33 q_move ?_
        <;> refine xL 34 (q_fldo 1 tFl28_3_LbH) ?_
        <;> (refine yL 35 (q_ldo 1 tNa26_LbH) fun v35 hv35 => ?_; cases hv35)
        <;> refine xL 36 (q_len tSl26_LbH) ?_
        <;> refine xL 37 q_lss ?_
        <;> refine aL_end (nav ?_) <;> try dsimp only)
      first | refine cCd (fun hb37 => ?_) (fun hb37 => ?_) | refine cC (fun hb37 => ?_) (fun hb37 => ?_)
      · first
        | exact Bool.noConfusion hb37
        | (
         obtain ⟨x, hx⟩ := get_some (show k < g.follows.length by omega)
         obtain ⟨y, hy⟩ := get_some (show k - 1 < g.follows.length by omega)
         have e1 := flat_drop cFlw_len g.follows k x hx
         have e2 := flat_fit cFlw_len hx
         have e3 : (g.follows.flatMap cFlw)[((k : Int) - 1).toNat * 3 + 0]? = some (pStr y.src) := by rw [show ((k : Int) - 1).toNat * 3 + 0 = (k - 1) * 3 + 0 by omega]; exact flat_at cFlw_len hy (by decide)
         have e4 : (g.follows.flatMap cFlw)[((k : Int) - 1).toNat * 3 + 1]? = some (pStr y.dst) := by rw [show ((k : Int) - 1).toNat * 3 + 1 = (k - 1) * 3 + 1 by omega]; exact flat_at cFlw_len hy (by decide)
         refine nav ?_
         (refine aC_region ?_
           <;> refine xL 40 (q_fldo 1 tFl28_3_LbH) ?_
           <;> (refine yL 41 (q_ldo 1 tNa26_LbH) fun v41 hv41 => ?_; cases hv41)
           <;> refine xL 42 q_move ?_
           <;> refine xL 43 (q_idxN tSl26_LbH) ?_
           <;> (refine yL 44 (q_lda tAgg47_LbH) fun v44 hv44 => ?_; cases hv44)
           <;> refine s_alloc [(.string ByteArray.empty), (.string ByteArray.empty), (.int .i64 0)] 3 5 tZr47_LbH fun h5 => ?_
           <;> refine s_sta 5 tAgg47_LbH ?_
           <;> refine aL_end (nav ?_) <;> try dsimp only)
         (refine aC_region ?_
           <;> refine xL 45 (q_fldo 5 tFl47_2_LbH) ?_
           <;> (refine yL 46 (q_ldo 5 tNa3_LbH) fun v46 hv46 => ?_; cases hv46)
           <;> (refine cS 47 (cA Tryz.call75 (r17number_e x.n)) fun v47 hv47 => ?_; cases hv47)
           <;> refine xL 48 q_not ?_
           <;> refine xL 49 q_move ?_
           <;> (refine bL 49 (fun hb49 => ?_) (fun hb49 => ?_) <;> (first | refine kL 50 ?_ | refine xL 50 q_move ?_))
           <;> (first | refine kL 51 ?_ | refine xL 51 (q_fldo 5 tFl47_0_LbH) ?_)
           <;> (first | refine kL 52 ?_ | (refine yL 52 (q_ldo 5 tNa9_LbH) fun v52 hv52 => ?_; cases hv52))
           <;> (first | refine kL 53 ?_ | (refine cS 53 (cA Tryz.call89 (rIndex_e (cnames g.acts) x.src)) fun v53 hv53 => ?_; cases hv53))
           <;> (first | refine kL 54 ?_ | refine xL 54 q_lss ?_)
           <;> refine xL 55 q_pick ?_
           <;> refine xL 56 q_move ?_
           <;> (first | refine kL 57 ?_ | (refine bLd 56 (fun hb56 => ?_) (fun hb56 => ?_) <;> (first | refine kL 57 ?_ | refine xL 57 q_move ?_)))
           <;> (first | refine kL 58 ?_ | refine xL 58 (q_fldo 5 tFl47_1_LbH) ?_)
           <;> (first | refine kL 59 ?_ | (refine yL 59 (q_ldo 5 tNa9_LbH) fun v59 hv59 => ?_; cases hv59))
           <;> (first | refine kL 60 ?_ | (refine cS 60 (cA Tryz.call89 (rIndex_e (cnames g.acts) x.dst)) fun v60 hv60 => ?_; cases hv60))
           <;> (first | refine kL 61 ?_ | refine xL 61 q_lss ?_)
           <;> refine xL 62 q_pick ?_
           <;> refine aL_end (nav ?_) <;> try dsimp only) <;> (
          first | refine cCd (fun hb62 => ?_) (fun hb62 => ?_) | refine cC (fun hb62 => ?_) (fun hb62 => ?_)
          · first
            | exact Bool.noConfusion hb62
            | (
             refine nav ?_
             (refine aC_region ?_
               <;> refine xL 2 q_assign ?_
               <;> refine aL_end (nav ?_) <;> try dsimp only)
             refine ret_shr (Tryz.results37) rfl ?_
             rw [dfg_no (.inr (.inr (.inr (.inr (.inr (.inr (.inl (all_stop hx (show flwOk (cnames g.acts) x = false from ?_)))))))))]
             unfold flwOk
             first
               | rw [show countedB x.n = false by simpa using hb49]; rfl
               | rw [ix_none hb56]; simp
               | rw [ix_none hb62]; simp)
          · first
            | exact Bool.noConfusion hb62
            | (
             refine nav ?_
             have hok : flwOk (cnames g.acts) x = true := by unfold flwOk; rw [show countedB x.n = true by simpa using hb49, ix_some hb56, ix_some hb62]; rfl
             (refine aC_draw (fun i => ([] : List Nat).elem i) [1, 5] (by kernel_rfl) ?_
               <;> refine xE 0 63 rfl q_move ?_
               <;> refine xE 1 64 rfl q_gtr ?_
               <;> refine xE 2 65 rfl q_move ?_
               <;> (refine bDd 65 (fun hb65 => ?_) (fun hb65 => ?_) <;> (first | refine kD 3 66 rfl ?_ | refine xD 3 66 rfl (q_fldo 1 tFl28_3_LbH) ?_))
               <;> (first | refine kD 4 67 rfl ?_ | (refine yD 4 67 rfl (q_ldo 1 tNa26_LbH) fun v67 hv67 => ?_; cases hv67))
               <;> (first | refine kD 5 68 rfl ?_ | refine xD 5 68 rfl q_move ?_)
               <;> (first | refine kD 6 69 rfl ?_ | refine xD 6 69 rfl q_sub ?_)
               <;> (first | refine kD 7 70 rfl ?_ | refine xD 7 70 rfl (q_idx tSl26_LbH) ?_)
               <;> (first | refine kD 8 71 rfl ?_ | refine xD 8 71 rfl (q_fld tFl47_0_LbH) ?_)
               <;> (first | refine kD 9 72 rfl ?_ | (refine yD 9 72 rfl (q_ld tNa9_LbH) fun v72 hv72 => ?_; cases hv72))
               <;> (first | refine kD 10 73 rfl ?_ | refine xD 10 73 rfl (q_fldo 5 tFl47_0_LbH) ?_)
               <;> (first | refine kD 11 74 rfl ?_ | (refine yD 11 74 rfl (q_ldo 5 tNa9_LbH) fun v74 hv74 => ?_; cases hv74))
               <;> (first | refine kD 12 75 rfl ?_ | refine xD 12 75 rfl q_sgtr ?_)
               <;> (first | refine kD 13 76 rfl ?_ | refine xD 13 76 rfl q_move ?_)
               <;> (first | refine kD 14 77 rfl ?_ | (refine bD 76 (fun hb76 => ?_) (fun hb76 => ?_) <;> (first | refine kD 14 77 rfl ?_ | refine xD 14 77 rfl (q_fldo 1 tFl28_3_LbH) ?_)))
               <;> (first | refine kD 15 78 rfl ?_ | (refine yD 15 78 rfl (q_ldo 1 tNa26_LbH) fun v78 hv78 => ?_; cases hv78))
               <;> (first | refine kD 16 79 rfl ?_ | refine xD 16 79 rfl q_move ?_)
               <;> (first | refine kD 17 80 rfl ?_ | refine xD 17 80 rfl q_sub ?_)
               <;> (first | refine kD 18 81 rfl ?_ | refine xD 18 81 rfl (q_idx tSl26_LbH) ?_)
               <;> (first | refine kD 19 82 rfl ?_ | refine xD 19 82 rfl (q_fld tFl47_0_LbH) ?_)
               <;> (first | refine kD 20 83 rfl ?_ | (refine yD 20 83 rfl (q_ld tNa9_LbH) fun v83 hv83 => ?_; cases hv83))
               <;> (first | refine kD 21 84 rfl ?_ | refine xD 21 84 rfl (q_fldo 5 tFl47_0_LbH) ?_)
               <;> (first | refine kD 22 85 rfl ?_ | (refine yD 22 85 rfl (q_ldo 5 tNa9_LbH) fun v85 hv85 => ?_; cases hv85))
               <;> (first | refine kD 23 86 rfl ?_ | refine xD 23 86 rfl q_seql ?_)
               <;> (first | refine kD 24 87 rfl ?_ | refine xD 24 87 rfl q_move ?_)
               <;> (first | refine kD 25 88 rfl ?_ | (refine bD 87 (fun hb87 => ?_) (fun hb87 => ?_) <;> (first | refine kD 25 88 rfl ?_ | refine xD 25 88 rfl (q_fldo 1 tFl28_3_LbH) ?_)))
               <;> (first | refine kD 26 89 rfl ?_ | (refine yD 26 89 rfl (q_ldo 1 tNa26_LbH) fun v89 hv89 => ?_; cases hv89))
               <;> (first | refine kD 27 90 rfl ?_ | refine xD 27 90 rfl q_move ?_)
               <;> (first | refine kD 28 91 rfl ?_ | refine xD 28 91 rfl q_sub ?_)
               <;> (first | refine kD 29 92 rfl ?_ | refine xD 29 92 rfl (q_idx tSl26_LbH) ?_)
               <;> (first | refine kD 30 93 rfl ?_ | refine xD 30 93 rfl (q_fld tFl47_1_LbH) ?_)
               <;> (first | refine kD 31 94 rfl ?_ | (refine yD 31 94 rfl (q_ld tNa9_LbH) fun v94 hv94 => ?_; cases hv94))
               <;> (first | refine kD 32 95 rfl ?_ | refine xD 32 95 rfl (q_fldo 5 tFl47_1_LbH) ?_)
               <;> (first | refine kD 33 96 rfl ?_ | (refine yD 33 96 rfl (q_ldo 5 tNa9_LbH) fun v96 hv96 => ?_; cases hv96))
               <;> (first | refine kD 34 97 rfl ?_ | refine xD 34 97 rfl q_sgeq ?_)
               <;> (first | refine kD 35 98 rfl ?_ | refine xD 35 98 rfl q_pick ?_)
               <;> (first | refine kD 36 99 rfl ?_ | refine xD 36 99 rfl q_pick ?_)
               <;> refine xE 37 100 rfl q_pick ?_
               <;> refine aD_end (by kernel_rfl) (nav ?_)
               <;> try dsimp only) <;> (
              first | refine cCd (fun hb100 => ?_) (fun hb100 => ?_) | refine cC (fun hb100 => ?_) (fun hb100 => ?_)
              · first
                | exact Bool.noConfusion hb100
                | (
                 refine nav ?_
                 (refine aC_region ?_
                   <;> refine xL 2 q_assign ?_
                   <;> refine aL_end (nav ?_) <;> try dsimp only)
                 refine ret_shr (Tryz.results37) rfl ?_
                 rw [dfg_no (.inr (.inr (.inr (.inr (.inr (.inr (.inr (chainB_stop (by omega) hy hx (show flwLt y x = false from ?_)))))))))]
                 first
                   | exact flwCmp_bad1 hb76
                   | exact flwCmp_bad2 hb87 (by simpa [strLt] using hb100))
              · first
                | exact Bool.noConfusion hb100
                | (
                 refine nav ?_
                 (refine aC_region ?_
                   <;> refine xL 38 q_move ?_
                   <;> refine xL 39 q_add ?_
                   <;> refine xL 4 q_assign ?_
                   <;> refine aL_end (nav ?_) <;> try dsimp only)
                 refine aN_again (
                   ⟨k + 1, by omega, fun j z hj hz => by
                     by_cases e : j = k
                     · subst e; rw [hx] at hz; cases hz
                       refine ⟨hok, fun y' h1 hy' => ?_⟩
                       rw [hy] at hy'; cases hy'
                       first
                         | omega
                         | exact flwCmp_ok2 hb87 (by simpa [strLt] using hb100)
                         | exact flwCmp_ok1 hb76 hb87
                     · exact hp j z (by omega) hz⟩
                   ) (by dsimp only; omega) ⟨rfl, rfl, rfl, trivial⟩ ⟨rfl, trivial⟩)))))
      · first
        | exact Bool.noConfusion hb37
        | (
         refine nav ?_
         (refine aC_region ?_
           <;> refine xL 2 q_assign ?_
           <;> refine aL_end (nav ?_) <;> try dsimp only)
         refine ret_shr (Tryz.results37) rfl ?_
         have h7 : g.follows.all (flwOk (cnames g.acts)) = true := all_end fun j x hj => (hp j x (by have := lt_of_get hj; omega) hj).1
         have h8 : chainB flwLt g.follows = true := chainB_end fun j x y h1 hy hx => (hp j x (by have := lt_of_get hx; omega) hx).2 y h1 hy
         unfold dfgOk; rw [h1, h25.1, h25.2, h36.1, h36.2, h4, h7, h8]; rfl)))
end Go.Proofs.YtebcjijpdhbcdaaGreat
