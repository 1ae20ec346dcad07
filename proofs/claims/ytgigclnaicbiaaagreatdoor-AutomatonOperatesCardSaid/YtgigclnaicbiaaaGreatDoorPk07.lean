/-
  Plain laws: what the operations accept, as the law tells it: cut in two, cut in parts, divided among both. No program in sight.
  The engine: a struct that lies in cells and two values are handed back. No program in sight.
  The engine: a struct is handed back beside what is owned. No program in sight.
  The engine: the end of an owned row as a slice of its own. No program in sight.
  The engine: ways that split meet again behind what splits them; shifts and bits. No program in sight.
  The engine: a slot's value, read otherwise. No program in sight.
  The closure of the law AutomatonOperates: which results it lets pass.
  Walks: automata: moves in order are kept once each.
  Walks: automata: what an operation made, moves more than once among them.
  Walks: automata: two automata side by side.
  Walks: automata: Union.
  Walks: automata: Shuffle.
  Walks: automata: Concat.
  Walks: automata: Reverse.
  Walks: automata: Product.
  The law AutomatonOperates: the operations are those on languages.
-/
import Derived.Test.YtgigclnaicbiaaaGreatDoorPk06
import Derived.Test.YtgigclnaicbiaaaGreatDoorPk03
import Derived.Test.YtgigclnaicbiaaaGreatDoorPk05
import Derived.Test.YtgigclnaicbiaaaGreatDoorPk04
namespace Go.Proofs.YtgigclnaicbiaaaGreatDoor
open Go.RowKit Go.Cb Go.En
set_option linter.all false
set_option maxRecDepth 100000
theorem accX_fine {a : Aut} {w : List Int} (h : autOk a = true) (hl : w.length ≤ 200) (hw : InW a.syms w) : accX a w = (accA a w, 0) := by
 unfold accX
 rw [if_neg (by rw [h]; decide), if_neg (by omega), if_neg]
 · rfl
 · intro h1
   obtain ⟨c, hc, h2⟩ := List.any_eq_true.1 h1
   have := hw c hc
   simp at h2
   omega
theorem accX_in {a : Aut} {w : List Int} (h : (accX a w).2 = 0) : autOk a = true ∧ w.length ≤ 200 ∧ InW a.syms w ∧ accX a w = (accA a w, 0) := by
 have hok : autOk a = true := by
  cases e : autOk a with
  | true => rfl
  | false => unfold accX at h; rw [if_pos e] at h; cases h
 have hl : w.length ≤ 200 := by
  unfold accX at h
  rw [if_neg (by rw [hok]; decide)] at h
  split at h
  · cases h
  · omega
 have hw : InW a.syms w := fun c hc => by
  unfold accX at h
  rw [if_neg (by rw [hok]; decide), if_neg (by omega)] at h
  split at h
  · cases h
  · rename_i h1
    have h2 : ¬ ((decide (c < 0) || decide (a.syms ≤ c)) = true) := fun h3 => h1 (List.any_eq_true.2 ⟨c, hc, h3⟩)
    simp at h2
    omega
 exact ⟨hok, hl, hw, accX_fine hok hl hw⟩
def RightR (a b : Aut) (w : List Int) (r : Except Int Aut) (want : Bool) : Prop := (∃ C, r = .ok C ∧ accX C w = (want, 0)) ∨ r = .error 13 ∨ (r = .error 29 ∧ a.syms ≠ b.syms)
theorem right_of {a b : Aut} {w : List Int} {r : Except Int Aut} {want : Bool} {m : Int} {L : List Int → Prop} (hl : w.length ≤ 200) (hw : InW m w) (h : errR r ≠ 13 → ∃ C, r = .ok C ∧ Res C m L) (hL : L w ↔ want = true) : RightR a b w r want := by
 by_cases he : errR r = 13
 · cases r with
   | ok C => cases he
   | error e => exact .inr (.inl (by rw [show e = 13 from he]))
 · obtain ⟨C, hC, hR⟩ := h he
   refine .inl ⟨C, hC, ?_⟩
   rw [accX_fine hR.valid hl (by rw [hR.syms]; exact hw)]
   have : accA C w = want := by rw [Bool.eq_iff_iff, hR.acc w hw]; exact hL
   rw [this]
theorem fit_29 {a b : Aut} (ha : autOk a = true) (hb : autOk b = true) (hs : a.syms ≠ b.syms) : fitX a b = 29 := by unfold fitX; rw [if_neg (by rw [ha, hb]; simp), if_pos hs]
section
variable {a b : Aut} {w : List Int}
theorem right_min (ha : autOk a = true) (hl : w.length ≤ 200) (hw : InW a.syms w) : RightR a b w (minX a) (accA a w) := right_of hl hw (minX_res ha) Iff.rfl
theorem right_comp (ha : autOk a = true) (hl : w.length ≤ 200) (hw : InW a.syms w) : RightR a b w (compX a) (!accA a w) := right_of hl hw (compX_res ha) (by cases accA a w <;> simp)
theorem right_prod {op : Int} (ho : ¬ (op < 1 ∨ 4 < op)) (ha : autOk a = true) (hb : autOk b = true) (hl : w.length ≤ 200) (hw : InW a.syms w) : RightR a b w (prodX a b op) (decB op (accA a w) (accA b w)) := by
 by_cases hs : a.syms = b.syms
 · exact right_of hl hw (prodX_res ho ha hb hs) Iff.rfl
 · refine .inr (.inr ⟨?_, hs⟩)
   unfold prodX; rw [fit_29 ha hb hs]; rfl
theorem right_union (ha : autOk a = true) (hb : autOk b = true) (hl : w.length ≤ 200) (hw : InW a.syms w) : RightR a b w (unionX a b) (accA a w || accA b w) := by
 by_cases hs : a.syms = b.syms
 · exact right_of hl hw (unionX_res ha hb hs) (by rw [Bool.or_eq_true])
 · refine .inr (.inr ⟨?_, hs⟩)
   unfold unionX; rw [fit_29 ha hb hs]; rfl
def cutB (a b : Aut) (w : List Int) (k : Nat) : Bool := (List.range k).any fun j => accA a (w.take j) && accA b (w.drop j)
theorem cutB_snoc (a b : Aut) (w : List Int) (k : Nat) : cutB a b w (k + 1) = (cutB a b w k || (accA a (w.take k) && accA b (w.drop k))) := by unfold cutB; rw [List.range_succ, List.any_append]; simp
theorem right_cat (ha : autOk a = true) (hb : autOk b = true) (hl : w.length ≤ 200) (hw : InW a.syms w) : RightR a b w (catX a b) (cutB a b w (w.length + 1)) := by
 by_cases hs : a.syms = b.syms
 · refine right_of hl hw (catX_res ha hb hs) ?_
   unfold cutB
   rw [List.any_eq_true]
   constructor
   · rintro ⟨u, v, rfl, h1, h2⟩
     refine ⟨u.length, List.mem_range.2 (by rw [List.length_append]; omega), ?_⟩
     rw [List.take_left' rfl, List.drop_left' rfl, h1, h2]; rfl
   · rintro ⟨j, _, h⟩
     rw [Bool.and_eq_true] at h
     exact ⟨w.take j, w.drop j, (List.take_append_drop j w).symm, h.1, h.2⟩
 · refine .inr (.inr ⟨?_, hs⟩)
   unfold catX; rw [fit_29 ha hb hs]; rfl
def partB (a : Aut) (w : List Int) (i k : Nat) : Bool := accA a ((w.drop i).take (k - i))
def stB (a : Aut) (w : List Int) : Nat → List Bool
 | 0 => []
 | k + 1 => stB a w k ++ [decide (k = 0) || (List.range k).any fun i => (stB a w k).getD i false && partB a w i k]
theorem stB_len (a : Aut) (w : List Int) : ∀ k, (stB a w k).length = k
 | 0 => rfl
 | k + 1 => by rw [stB, List.length_append, stB_len a w k]; rfl
theorem stB_old (a : Aut) (w : List Int) {i : Nat} : ∀ {k : Nat}, i < k → (stB a w k).getD i false = (stB a w (i + 1)).getD i false
 | 0, h => by omega
 | k + 1, h => by
   by_cases e : i = k
   · subst e; rfl
   · rw [stB, List.getD_eq_getElem?_getD, List.getElem?_append_left (by rw [stB_len]; omega), ← List.getD_eq_getElem?_getD, stB_old a w (by omega)]
def stF (a : Aut) (w : List Int) (k : Nat) : Bool := (stB a w (k + 1)).getD k false
def anyF (a : Aut) (w : List Int) (k i : Nat) : Bool := decide (k = 0) || (List.range i).any fun j => stF a w j && partB a w j k
theorem stF_eq (a : Aut) (w : List Int) (k : Nat) : stF a w k = anyF a w k k := by
 unfold stF anyF
 rw [stB, List.getD_eq_getElem?_getD, List.getElem?_append_right (by rw [stB_len]; exact Nat.le_refl _), stB_len, Nat.sub_self]
 show (decide (k = 0) || (List.range k).any fun i => (stB a w k).getD i false && partB a w i k) = _
 congr 1
 rw [Bool.eq_iff_iff, List.any_eq_true, List.any_eq_true]
 constructor
 · rintro ⟨i, hi, h⟩
   refine ⟨i, hi, ?_⟩
   rw [stB_old a w (List.mem_range.1 hi)] at h; exact h
 · rintro ⟨i, hi, h⟩
   refine ⟨i, hi, ?_⟩
   rw [stB_old a w (List.mem_range.1 hi)]; exact h
theorem anyF_snoc (a : Aut) (w : List Int) (k i : Nat) : anyF a w k (i + 1) = (anyF a w k i || (stF a w i && partB a w i k)) := by
 unfold anyF
 rw [List.range_succ, List.any_append, ← Bool.or_assoc]; simp
theorem star_last {L : List Int → Prop} {w : List Int} (h : Star L w) : w = [] ∨ ∃ u v, v ≠ [] ∧ w = u ++ v ∧ Star L u ∧ L v := by
 induction h with
 | nil => exact .inl rfl
 | @app u v h1 h2 ih =>
   rcases ih with rfl | ⟨u', v', h3, rfl, h4, h5⟩
   · cases u with
     | nil => exact .inl rfl
     | cons c u => exact .inr ⟨[], c :: u, List.cons_ne_nil _ _, by simp, .nil, h1⟩
   · exact .inr ⟨u ++ u', v', h3, by rw [List.append_assoc], .app h1 h4, h5⟩
theorem stF_iff (a : Aut) (w : List Int) : ∀ (k : Nat), k ≤ w.length → (stF a w k = true ↔ Star (fun u => accA a u = true) (w.take k)) := fun k => by
 induction k using Nat.strongRecOn with
 | ind k ih =>
   intro hk
   rw [stF_eq]
   unfold anyF
   rw [Bool.or_eq_true, decide_eq_true_eq, List.any_eq_true]
   constructor
   · rintro (rfl | ⟨i, hi, h⟩)
     · exact .nil
     · have hi := List.mem_range.1 hi
       rw [Bool.and_eq_true] at h
       have h1 := (ih i hi (by omega)).1 h.1
       have h2 : Star (fun u => accA a u = true) ((w.drop i).take (k - i)) := by
        have := Star.app (L := fun u => accA a u = true) h.2 .nil
        rw [List.append_nil] at this; exact this
       have e : w.take k = w.take i ++ (w.drop i).take (k - i) := by
        have := List.take_add (l := w) (i := i) (j := k - i)
        rw [show i + (k - i) = k by omega] at this
        exact this
       rw [e]
       exact star_app h1 h2
   · intro h
     rcases star_last h with h0 | ⟨u, v, hv, e, h1, h2⟩
     · left
       have h5 : (w.take k).length = 0 := by rw [h0]; rfl
       rw [List.length_take] at h5
       omega
     · right
       have hl := congrArg List.length e
       rw [List.length_take, List.length_append, Nat.min_eq_left hk] at hl
       have hvl : 0 < v.length := List.length_pos_iff.2 hv
       have eu : w.take u.length = u := by
        have := congrArg (List.take u.length) e
        rw [List.take_take, List.take_left' rfl, Nat.min_eq_left (by omega)] at this
        exact this
       have ev : (w.drop u.length).take (k - u.length) = v := by
        have := congrArg (List.drop u.length) e
        rw [List.drop_left' rfl, List.drop_take] at this
        exact this
       refine ⟨u.length, List.mem_range.2 (by omega), ?_⟩
       rw [Bool.and_eq_true]
       refine ⟨(ih u.length (by omega) (by omega)).2 (by rw [eu]; exact h1), ?_⟩
       unfold partB
       rw [ev]; exact h2
theorem right_star (ha : autOk a = true) (hl : w.length ≤ 200) (hw : InW a.syms w) : RightR a b w (starX a) (stF a w w.length) := by
 refine right_of hl hw (starX_res ha) ?_
 rw [stF_iff a w _ (Nat.le_refl _), List.take_length]
theorem right_rev (ha : autOk a = true) (hl : w.length ≤ 200) (hw : InW a.syms w) : RightR a b w (revX a) (accA a w.reverse) := right_of hl hw (revX_res ha) Iff.rfl
def stV (a : Aut) (w : List Int) (k i : Nat) (j : Nat) : Bool := if j < k then stF a w j else if j = k then anyF a w k i else decide (j = 0)
theorem stV_zero (a : Aut) (w : List Int) (j : Nat) : decide (j = 0) = stV a w 0 0 j := by
 unfold stV
 rw [if_neg (by omega)]
 split
 · rename_i h; subst h; rfl
 · rfl
theorem stV_next (a : Aut) (w : List Int) (k j : Nat) : stV a w k k j = stV a w (k + 1) 0 j := by
 unfold stV
 by_cases h1 : j < k
 · rw [if_pos h1, if_pos (by omega)]
 · rw [if_neg h1]
   by_cases h2 : j = k
   · subst h2; rw [if_pos rfl, if_pos (by omega), stF_eq]
   · rw [if_neg h2, if_neg (by omega)]
     split
     · rename_i h3; subst h3; rfl
     · rfl
theorem stV_set (a : Aut) (w : List Int) (k i j : Nat) : (if j = k then stV a w k i k || (stV a w k i i && partB a w i k) else stV a w k i j) = if i < k then stV a w k (i + 1) j else (if j = k then stV a w k i k || (stV a w k i i && partB a w i k) else stV a w k i j) := by
 split
 · rename_i h
   split
   · rename_i hik
     subst h
     unfold stV
     rw [if_neg (by omega), if_pos rfl, if_pos hik, if_neg (by omega), if_pos rfl, anyF_snoc]
   · rfl
 · rename_i h
   split
   · unfold stV
     split
     · rfl
     · rfl
   · rfl
def oneL (s : Nat) (k : Nat) (l : List Int) : List Int := ((l.zipIdx k).filter fun p => decide (s / 2 ^ p.2 % 2 = 1)).map (·.1)
def twoL (s : Nat) (k : Nat) (l : List Int) : List Int := ((l.zipIdx k).filter fun p => !decide (s / 2 ^ p.2 % 2 = 1)).map (·.1)
theorem oneL_snoc {s : Nat} {l : List Int} {k : Nat} {x : Int} (h : l[k]? = some x) : oneL s 0 (l.take (k + 1)) = oneL s 0 (l.take k) ++ (if s / 2 ^ k % 2 = 1 then [x] else []) := by
 unfold oneL
 rw [take_snoc h, List.zipIdx_append, List.filter_append, List.map_append]
 congr 1
 rw [List.length_take, Nat.min_eq_left (Nat.le_of_lt (lt_of_get h)), Nat.zero_add]
 rw [show [x].zipIdx k = [(x, k)] from rfl, List.filter_cons, List.filter_nil]
 dsimp only
 by_cases hc : s / 2 ^ k % 2 = 1
 · rw [if_pos (by simpa using hc), if_pos hc]; rfl
 · rw [if_neg (by simpa using hc), if_neg hc]; rfl
theorem twoL_snoc {s : Nat} {l : List Int} {k : Nat} {x : Int} (h : l[k]? = some x) : twoL s 0 (l.take (k + 1)) = twoL s 0 (l.take k) ++ (if s / 2 ^ k % 2 = 1 then [] else [x]) := by
 unfold twoL
 rw [take_snoc h, List.zipIdx_append, List.filter_append, List.map_append]
 congr 1
 rw [List.length_take, Nat.min_eq_left (Nat.le_of_lt (lt_of_get h)), Nat.zero_add]
 rw [show [x].zipIdx k = [(x, k)] from rfl, List.filter_cons, List.filter_nil]
 dsimp only
 by_cases hc : s / 2 ^ k % 2 = 1
 · rw [if_neg (by simp [hc]), if_pos hc]; rfl
 · rw [if_pos (by simp [hc]), if_neg hc]; rfl
theorem zip_half {p : Nat → Bool} {q : Nat → Bool} (h : ∀ k, p (k + 1) = q k) : ∀ (l : List Int) (k : Nat), ((l.zipIdx (k + 1)).filter fun x => p x.2).map (·.1) = ((l.zipIdx k).filter fun x => q x.2).map (·.1)
 | [], _ => rfl
 | x :: l, k => by
   rw [List.zipIdx_cons, List.zipIdx_cons, List.filter_cons, List.filter_cons]
   dsimp only
   rw [h k]
   split
   · rw [List.map_cons, List.map_cons, zip_half h l (k + 1)]
   · rw [zip_half h l (k + 1)]
theorem half_bit (s k : Nat) : s / 2 ^ (k + 1) = s / 2 / 2 ^ k := by rw [Nat.pow_succ, Nat.mul_comm, Nat.div_div_eq_div_mul]
theorem oneL_cons (s : Nat) (c : Int) (l : List Int) : oneL s 0 (c :: l) = (if s % 2 = 1 then [c] else []) ++ oneL (s / 2) 0 l := by
 have h := zip_half (p := fun k => decide (s / 2 ^ k % 2 = 1)) (q := fun k => decide (s / 2 / 2 ^ k % 2 = 1)) (fun k => by rw [half_bit]) l 0
 unfold oneL
 rw [List.zipIdx_cons, List.filter_cons]
 dsimp only
 rw [Nat.pow_zero, Nat.div_one]
 by_cases hc : s % 2 = 1
 · rw [if_pos (by simpa using hc), if_pos hc, List.map_cons, h]; rfl
 · rw [if_neg (by simpa using hc), if_neg hc, h]; rfl
theorem twoL_cons (s : Nat) (c : Int) (l : List Int) : twoL s 0 (c :: l) = (if s % 2 = 1 then [] else [c]) ++ twoL (s / 2) 0 l := by
 have h := zip_half (p := fun k => !decide (s / 2 ^ k % 2 = 1)) (q := fun k => !decide (s / 2 / 2 ^ k % 2 = 1)) (fun k => by rw [half_bit]) l 0
 unfold twoL
 rw [List.zipIdx_cons, List.filter_cons]
 dsimp only
 rw [Nat.pow_zero, Nat.div_one]
 by_cases hc : s % 2 = 1
 · rw [if_neg (by simp [hc]), if_pos hc, h]; rfl
 · rw [if_pos (by simp [hc]), if_neg hc, List.map_cons, h]; rfl
theorem mix_of : ∀ (w : List Int) (s : Nat), Mix w (oneL s 0 w) (twoL s 0 w)
 | [], _ => .nil
 | c :: w, s => by
   rw [oneL_cons, twoL_cons]
   by_cases hc : s % 2 = 1
   · rw [if_pos hc, if_pos hc]; exact .one c (mix_of w (s / 2))
   · rw [if_neg hc, if_neg hc]; exact .two c (mix_of w (s / 2))
theorem of_mix {w u v : List Int} (h : Mix w u v) : ∃ s, s < 2 ^ w.length ∧ oneL s 0 w = u ∧ twoL s 0 w = v := by
 induction h with
 | nil => exact ⟨0, by decide, rfl, rfl⟩
 | one c _ ih =>
   obtain ⟨s, h1, h2, h3⟩ := ih
   refine ⟨2 * s + 1, by rw [List.length_cons, Nat.pow_succ]; omega, ?_, ?_⟩
   · rw [oneL_cons, if_pos (by omega), show (2 * s + 1) / 2 = s by omega, h2]; rfl
   · rw [twoL_cons, if_pos (by omega), show (2 * s + 1) / 2 = s by omega, h3]; rfl
 | two c _ ih =>
   obtain ⟨s, h1, h2, h3⟩ := ih
   refine ⟨2 * s, by rw [List.length_cons, Nat.pow_succ]; omega, ?_, ?_⟩
   · rw [oneL_cons, if_neg (by omega), show 2 * s / 2 = s by omega, h2]; rfl
   · rw [twoL_cons, if_neg (by omega), show 2 * s / 2 = s by omega, h3]; rfl
def mixB (a b : Aut) (w : List Int) (k : Nat) : Bool := (List.range k).any fun s => accA a (oneL s 0 w) && accA b (twoL s 0 w)
theorem mixB_snoc (a b : Aut) (w : List Int) (k : Nat) : mixB a b w (k + 1) = (mixB a b w k || (accA a (oneL k 0 w) && accA b (twoL k 0 w))) := by unfold mixB; rw [List.range_succ, List.any_append]; simp
theorem right_shuf (ha : autOk a = true) (hb : autOk b = true) (hl : w.length ≤ 200) (hw : InW a.syms w) : RightR a b w (shufX a b) (mixB a b w (2 ^ w.length)) := by
 by_cases hs : a.syms = b.syms
 · refine right_of hl hw (shufX_res ha hb hs) ?_
   unfold mixB
   rw [List.any_eq_true]
   constructor
   · rintro ⟨u, v, hm, h1, h2⟩
     obtain ⟨s, h3, rfl, rfl⟩ := of_mix hm
     exact ⟨s, List.mem_range.2 h3, by rw [h1, h2]; rfl⟩
   · rintro ⟨s, _, h⟩
     rw [Bool.and_eq_true] at h
     exact ⟨_, _, mix_of w s, h.1, h.2⟩
 · refine .inr (.inr ⟨?_, hs⟩)
   unfold shufX; rw [fit_29 ha hb hs]; rfl
theorem oneL_in {m : Int} (hw : InW m w) (s : Nat) : InW m (oneL s 0 w) ∧ InW m (twoL s 0 w) := InW.mix (mix_of w s) hw
theorem mix_len {w u v : List Int} (h : Mix w u v) : u.length + v.length = w.length := by
 induction h with
 | nil => rfl
 | one c _ ih => rw [List.length_cons, List.length_cons]; omega
 | two c _ ih => rw [List.length_cons, List.length_cons]; omega
theorem InW.take {m : Int} (hw : InW m w) (k : Nat) : InW m (w.take k) := fun c hc => hw c (List.mem_of_mem_take hc)
theorem InW.drop {m : Int} (hw : InW m w) (k : Nat) : InW m (w.drop k) := fun c hc => hw c (List.mem_of_mem_drop hc)
end
end Go.Proofs.YtgigclnaicbiaaaGreatDoor
namespace Go.En
open Go.RowKit Go.Cb
set_option linter.all false
section
variable {P : Program} {c : Ctx} {sL hP : List (Nat × Ent)}
end
section
variable {P : Program} {c : Ctx} {sL hP : List (Nat × Ent)}
theorem ret_hc {fn : Func} {R : Value → PV → List (Nat × Ent) → Prop} {t ty k e k' n : Nat} {h : Value} {q : PV} {cs : List PV} (l : Nat) (H' : List (Nat × Ent)) (hT : AggT P ty k = true) (hr : fn.results = #[.cell t ty]) (ht : lk sL t = some (padd (sbase h) 0, q)) (hl : lk hP l = some (h, .own e k' n cs)) (hp : k ≤ cs.length) (hk : 0 < k) (hsh : (cs.take k).all isSh = true) (hsub : Sub H' hP) (hR : ∀ V : Value, R V (.agg (cs.take k)) H') : aR c (bodyPost P fn (RetH c R)) (⟨sL, hP⟩ : St) := fun a w ⟨F, H⟩ => by
 obtain ⟨V, A, h0, h1, h2⟩ := cell_run H hT ht hl hp hk hsh
 have H2 : HoldsF c (⟨sL, H'⟩ : St) F a w := H.less (fun _ _ h => h) fun t x hx => hsub.lk hx
 have hM : ∀ b, b < w.heap.size → mof c H' F b → mof c hP F b := fun b _ hb => by
  rcases hb with hb | ⟨l, x, h1, h2⟩
  · exact .inl hb
  · exact .inr ⟨l, x, hsub.lk h1, h2⟩
 refine ⟨H.df, V, ?_, V, .agg (cs.take k), H', F, rfl, hR _, H2.toHeapF, h2.anti hM⟩
 simp only [results, hr]
 simp at h0
 simp [h0, h1]
end
section
variable {P : Program} {st : St} {o : Oper}
theorem y_idx_slc {t e k e' k' n a : Nat} {x y : Operand} {h : Value} {p q : PV} {cs : List PV} {kd : IntKind} {i : Int} (l : Nat) (hT : SlT P t e k = true) (ho : o.op = .indexAddr t x y) (hx : ev st.slots x = some (slc h a n k, p)) (hy : ev st.slots y = some (.int kd i, q)) (hl : lk st.heap l = some (h, .own e' k' n cs)) (h0 : 0 ≤ i) (h1 : (a : Int) + i < n) {m : Nat} (hm : m = (a + i.toNat) * k) :
 YE P st o (· = padd (sbase h) m) (.val (padd (sbase h) m)) :=
 .exact fun M F w' w H => by
  subst hm
  have hv := (H.ev hx).1
  have hi := (H.ev hy).1
  obtain ⟨g, cap, rfl, hc, _⟩ := own_hdr (H.tr l _ _ hl) (by omega)
  refine ⟨.val _, ?_⟩
  have hca : cap ≠ a := by omega
  simp only [slc, hca, if_false, Option.map_some, add_none, Nat.zero_add] at hv
  simp [execOp, ho, hv, hi, run_indexAt hT h0 (show i < ((n - a : Nat) : Int) by omega), sbase, padd, Nat.add_mul]
theorem y_len_slc {t e k e' k' n a : Nat} {x : Operand} {h : Value} {p : PV} {cs : List PV} (l : Nat) (hT : SlT P t e k = true) (ho : o.op = .call { callee := .builtin .len, args := #[x], argTypes := #[t] }) (hx : ev st.slots x = some (slc h a n k, p)) (hl : lk st.heap l = some (h, .own e' k' n cs)) {m : Nat} (hm : m = n - a) : YE P st o (· = .int .i64 m) (.val (.int .i64 m)) :=
 .exact fun M F w' w H => by
  subst hm
  have hv := (H.ev hx).1
  obtain ⟨xs, Fs, hrow, hlen, _⟩ := (H.tr l _ _ hl).row
  rcases row_form hrow with ⟨rfl, rfl, _⟩ | ⟨g, cap, rfl, h1, h2, h3⟩
  · exact ⟨.val _, by simp [execOp, ho, hv, resolve, invoke, builtin, Builtin.len_, run_underlying (SlT.und hT), goInt, slc]⟩
  · exact ⟨.val _, by simp [execOp, ho, hv, resolve, invoke, builtin, Builtin.len_, run_underlying (SlT.und hT), goInt, slc]⟩
end
section
variable {P : Program} {c : Ctx} {Q : Exit → Act → World → Prop} {sL hP : List (Nat × Ent)}
theorem aC_mid2 {ι : Type} {x y z : Code} (S : ι → St) (h : aC P c x (Exit.then (y.wp P (Exit.then (fun a w => ∃ i, Holds c (S i) a w) Q)) (Exit.then (fun a w => ∃ i, Holds c (S i) a w) Q)) (⟨sL, hP⟩ : St)) (k : ∀ i, aC P c z Q (S i)) : aC P c x (Exit.then ((y.seq z).wp P Q) Q) (⟨sL, hP⟩ : St) := fun a w H =>
 wp_mono (h a w H) fun e a' w' hq => by
  cases e with
  | normal =>
    refine wp_seq (wp_mono (show y.wp P _ a' w' from hq) fun e2 a2 w2 hq2 => ?_)
    cases e2 with
    | normal => obtain ⟨i, hi⟩ := hq2; exact k i a2 w2 hi
    | _ => exact hq2
  | _ => exact hq
end
section
variable {P : Program} {st : St} {o : Oper} {x y : Operand} {q q' : PV} {t t' : TypeId}
theorem q_shl {a b c : Int} (hb : 0 ≤ b) (hc : IntKind.wrap .i64 (a * 2 ^ (min b.toNat 64)) = c) (ho : o.op = .binOp .shl t x y t' := by exact rfl) (hx : ev st.slots x = some (.int .i64 a, q) := by exact rfl) (hy : ev st.slots y = some (.int .i64 b, q') := by exact rfl) : YE P st o (· = .int .i64 c) (.val (.int .i64 c)) :=
 y2 hx hy fun ρ w h3 h4 => by
  subst hc
  have hb' : ¬ b < 0 := by omega
  simp [execOp, ho, h3, h4, eqGuard, binOp, Op.shift, hb']
  rfl
theorem q_shr {a b c : Int} (hb : 0 ≤ b) (hc : a.fdiv (2 ^ (min b.toNat 64)) = c) (ho : o.op = .binOp .shr t x y t' := by exact rfl) (hx : ev st.slots x = some (.int .i64 a, q) := by exact rfl) (hy : ev st.slots y = some (.int .i64 b, q') := by exact rfl) : YE P st o (· = .int .i64 c) (.val (.int .i64 c)) :=
 y2 hx hy fun ρ w h3 h4 => by
  subst hc
  have hb' : ¬ b < 0 := by omega
  simp [execOp, ho, h3, h4, eqGuard, binOp, Op.shift, hb']
  rfl
theorem q_and {a b c : Int} (hc : IntKind.wrap .i64 ((BitVec.ofInt 64 a &&& BitVec.ofInt 64 b).toNat : Nat) = c) (ho : o.op = .binOp .and t x y t' := by exact rfl) (hx : ev st.slots x = some (.int .i64 a, q) := by exact rfl) (hy : ev st.slots y = some (.int .i64 b, q') := by exact rfl) : YE P st o (· = .int .i64 c) (.val (.int .i64 c)) :=
 y2 hx hy fun ρ w h3 h4 => by
  subst hc
  simp [execOp, ho, h3, h4, eqGuard, binOp, Op.intBits]
  rfl
theorem and_one {a : Nat} (h : a < 128) : IntKind.wrap .i64 ((BitVec.ofInt 64 (a : Int) &&& BitVec.ofInt 64 1).toNat : Nat) = ((a % 2 : Nat) : Int) := by
 have key : ∀ a : Fin 128, IntKind.wrap .i64 ((BitVec.ofInt 64 ((a : Nat) : Int) &&& BitVec.ofInt 64 1).toNat : Nat) = (((a : Nat) % 2 : Nat) : Int) := by decide
 exact key ⟨a, h⟩
theorem shl_one {n : Nat} (h : n ≤ 7) : IntKind.wrap .i64 (1 * 2 ^ (min ((n : Int)).toNat 64)) = ((2 ^ n : Nat) : Int) := by
 have key : ∀ n : Fin 8, IntKind.wrap .i64 (1 * 2 ^ (min (((n : Nat) : Int)).toNat 64)) = ((2 ^ (n : Nat) : Nat) : Int) := by decide
 exact key ⟨n, by omega⟩
theorem shr_nat {a n : Nat} (h : n ≤ 7) : (a : Int).fdiv (2 ^ (min ((n : Int)).toNat 64)) = ((a / 2 ^ n : Nat) : Int) := by
 rw [Int.toNat_natCast, Nat.min_eq_left (by omega)]
 rw [Int.fdiv_eq_ediv_of_nonneg _ (by exact Int.pow_nonneg (by decide))]
 rfl
end
theorem rslot {sL hP : List (Nat × Ent)} {t : Nat} {v : Value} {p p' : PV} (hl : lk sL t = some (v, p)) (hr : Rr p p') : EntE (⟨sL, hP⟩ : St) (fun _ : Unit => ⟨put t (v, p') sL, hP⟩) := fun c a w ⟨F, H⟩ => by
 refine ⟨(), F, H.toHeapF, fun s u r hs => ?_, H.size, H.df⟩
 rcases lk_put hs with ⟨rfl, e1⟩ | ⟨_, hs'⟩
 · cases e1
   exact ⟨(H.sl t _ _ hl).1, hr _ _ _ (H.sl t _ _ hl).2⟩
 · exact H.sl s u r hs'
end Go.En
namespace Go.Proofs.YtgigclnaicbiaaaGreatDoor
open Go.RowKit Go.Cb Go.En
set_option linter.all false
set_option maxRecDepth 100000
theorem rr_rawA : Rr rawZ (pAut autZ) := Rr.agg rfl fun i p p' h1 h2 => by
 match i with
 | 0 => cases h1; cases h2; exact Rr.rfl' _
 | 1 => cases h1; cases h2; exact Rr.rfl' _
 | 2 => cases h1; cases h2; exact Rr.nil
 | 3 => cases h1; cases h2; exact Rr.nil
 | 4 => cases h1; cases h2; exact Rr.nil
 | i + 5 => simp at h1
def cA5 (a : Aut) : List PV := [pInt a.n, pInt a.syms, pInts a.start, pInts a.fin, pMvs a.moves]
theorem none07_e : AF Tryz.prog 50 [pAut autZ] (· = pBool true) := by
 refine AF.of_body 6 Tryz.func50 rfl Tryz.ntmps50 (Nat.le_of_ble_eq_true rfl) ?_
 intro w0 M0 vs hl hv
 obtain ⟨v0, rfl⟩ := len1 hl
 clear hl hv
 refine nav ?_
 (refine aC_region ?_ <;> refine s_boxa 1 5 fun h1 => ?_ <;> refine xL 2 q_assign ?_ <;> refine aL_end (nav ?_) <;> try dsimp only)
 (refine aC_region ?_ <;> (refine yL 3 (q_ldao 1 tAgg25_LdS) fun v3 hv3 => ?_; cases hv3) <;> refine xL 4 (q_build tSt25_LfD) ?_ <;> (refine aL_ent (rslot (t := 4) (p' := pAut autZ) rfl rr_rawA) fun _ => ?_; refine cS 5 (cA Tryz.call20 (r07Same_self autZ (by decide))) fun v5 hv5 => ?_; cases hv5) <;> refine xL 2 q_assign ?_ <;> refine aL_end (nav ?_) <;> try dsimp only)
 exact ret_shr Tryz.results50 rfl rfl
theorem autOp1_ok (a b X : Aut) (w : List Int) (want : Bool) (hX : accX X w = (want, 0)) : AF Tryz.prog 49 [pAut X, pInt 0, pBool want, .sptr 0 (cA5 a), .sptr 0 (cA5 b), .sptr 0 [pInts w]] (· = pBool true) := by
 have ht := takes07_e X w
 rw [hX] at ht
 refine AF.of_body 43 Tryz.func49 rfl Tryz.ntmps49 (Nat.le_of_ble_eq_true rfl) ?_
 intro w0 M0 vs hl hv
 obtain ⟨v0, v1, v2, v3, v4, v5, rfl⟩ := len6 hl
 obtain rfl := hv 1 _ _ rfl rfl
 obtain rfl := hv 2 _ _ rfl rfl
 clear hl hv
 refine nav ?_
 (refine aC_region ?_ <;> refine s_boxa 6 5 fun h6 => ?_ <;> refine xL 9 q_assign ?_ <;> refine aL_end (nav ?_) <;> try dsimp only)
 (refine aC_region ?_ <;> refine xL 12 q_move ?_ <;> refine xL 13 q_neqV ?_ <;> refine aL_end (nav ?_) <;> try dsimp only)
 refine cCf ?_
 refine nav ?_
 (refine aC_region ?_ <;> (refine yL 32 (q_ldao 6 tAgg25_LdS) fun v32 hv32 => ?_; cases hv32) <;> (refine yL 33 (q_ld tNa22_LdI) fun v33 hv33 => ?_; cases hv33) <;> (refine cP 34 (cA Tryz.call39 (ht)) fun va34 vb34 hva34 hvb34 => ?_; cases hva34; cases hvb34) <;> refine xL 31 q_move ?_ <;> refine xL 35 q_extract ?_ <;> refine xL 36 q_extract ?_ <;> refine xL 10 q_assign ?_ <;> refine xL 11 q_assign ?_ <;> refine aL_end (nav ?_) <;> try dsimp only)
 (refine aC_region ?_ <;> refine xL 37 q_move ?_ <;> refine xL 38 q_move ?_ <;> refine xL 39 q_move ?_ <;> refine xL 40 q_move ?_ <;> refine xL 41 (q_beql Tryz.underlying4) ?_ <;> refine xL 42 q_pick ?_ <;> refine xL 9 q_assign ?_ <;> refine aL_end (nav ?_) <;> try dsimp only) <;> (
  refine ret_shr (Tryz.results49) rfl ?_
  cases want <;> rfl)
theorem autOp1_13 (a b : Aut) (w : List Int) (want : Bool) : AF Tryz.prog 49 [pAut autZ, pInt 13, pBool want, .sptr 0 (cA5 a), .sptr 0 (cA5 b), .sptr 0 [pInts w]] (· = pBool true) := by
 refine AF.of_body 43 Tryz.func49 rfl Tryz.ntmps49 (Nat.le_of_ble_eq_true rfl) ?_
 intro w0 M0 vs hl hv
 obtain ⟨v0, v1, v2, v3, v4, v5, rfl⟩ := len6 hl
 obtain rfl := hv 1 _ _ rfl rfl
 obtain rfl := hv 2 _ _ rfl rfl
 clear hl hv
 refine nav ?_
 (refine aC_region ?_ <;> refine s_boxa 6 5 fun h6 => ?_ <;> refine xL 9 q_assign ?_ <;> refine aL_end (nav ?_) <;> try dsimp only)
 (refine aC_region ?_ <;> refine xL 12 q_move ?_ <;> refine xL 13 q_neq ?_ <;> refine aL_end (nav ?_) <;> try dsimp only)
 refine cCt ?_
 refine nav ?_
 (refine aC_region ?_ <;> refine xL 14 q_move ?_ <;> refine xL 15 q_eql ?_ <;> refine xL 16 q_move ?_ <;> (refine yL 17 (q_ldao 6 tAgg25_LdS) fun v17 hv17 => ?_; cases hv17) <;> (refine cS 18 (cA Tryz.call50 (none07_e)) fun v18 hv18 => ?_; cases hv18) <;> refine xL 19 q_pick ?_ <;> refine xL 20 q_move ?_ <;> refine kL 21 ?_ <;> refine kL 22 ?_ <;> refine kL 23 ?_ <;> refine kL 24 ?_ <;> refine kL 25 ?_ <;> refine kL 26 ?_ <;> refine kL 27 ?_ <;> refine kL 28 ?_ <;> refine kL 29 ?_ <;> refine xL 30 q_pick ?_ <;> refine xL 9 q_assign ?_ <;> refine aL_end (nav ?_) <;> try dsimp only) <;> (
  exact ret_shr (Tryz.results49) rfl rfl)
theorem autOp1_29 (a b X : Aut) (w : List Int) (want : Bool) (hs : a.syms ≠ b.syms) : AF Tryz.prog 49 [pAut X, pInt 29, pBool want, .sptr 0 (cA5 a), .sptr 0 (cA5 b), .sptr 0 [pInts w]] (· = pBool true) := by
 refine AF.of_body 43 Tryz.func49 rfl Tryz.ntmps49 (Nat.le_of_ble_eq_true rfl) ?_
 intro w0 M0 vs hl hv
 obtain ⟨v0, v1, v2, v3, v4, v5, rfl⟩ := len6 hl
 obtain rfl := hv 1 _ _ rfl rfl
 obtain rfl := hv 2 _ _ rfl rfl
 clear hl hv
 refine nav ?_
 (refine aC_region ?_ <;> refine s_boxa 6 5 fun h6 => ?_ <;> refine xL 9 q_assign ?_ <;> refine aL_end (nav ?_) <;> try dsimp only)
 (refine aC_region ?_ <;> refine xL 12 q_move ?_ <;> refine xL 13 q_neq ?_ <;> refine aL_end (nav ?_) <;> try dsimp only)
 refine cCt ?_
 refine nav ?_
 (refine aC_region ?_ <;> refine xL 14 q_move ?_ <;> refine xL 15 q_eql ?_ <;> refine xL 16 q_move ?_ <;> refine kL 17 ?_ <;> refine kL 18 ?_ <;> refine xL 19 q_pick ?_ <;> refine xL 20 q_move ?_ <;> refine xL 21 q_move ?_ <;> refine xL 22 q_eql ?_ <;> refine xL 23 q_move ?_ <;> refine xL 24 (q_fld tFl25_1_LdI) ?_ <;> (refine yL 25 (q_ld tNa3_LbB) fun v25 hv25 => ?_; cases hv25) <;> refine xL 26 (q_fld tFl25_1_LdI) ?_ <;> (refine yL 27 (q_ld tNa3_LbB) fun v27 hv27 => ?_; cases hv27) <;> refine xL 28 q_neq ?_ <;> refine xL 29 q_pick ?_ <;> refine xL 30 q_pick ?_ <;> refine xL 9 q_assign ?_ <;> refine aL_end (nav ?_) <;> try dsimp only) <;> (
  refine ret_shr (Tryz.results49) rfl ?_
  rw [decide_eq_true hs])
theorem autOp1_e (a b : Aut) (w : List Int) (r : Except Int Aut) (want : Bool) (h : RightR a b w r want) : AF Tryz.prog 49 [pAut (autR r), pInt (errR r), pBool want, .sptr 0 (cA5 a), .sptr 0 (cA5 b), .sptr 0 [pInts w]] (· = pBool true) := by
 rcases h with ⟨C, rfl, hC⟩ | rfl | ⟨rfl, hs⟩
 · exact autOp1_ok a b C w want hC
 · exact autOp1_13 a b w want
 · exact autOp1_29 a b autZ w want hs
theorem setL_row (L : List Mv) (k : Nat) (x : Mv) (h : k < L.length) : setL (L.flatMap cMv) (k * 3) (cMv x) = (L.set k x).flatMap cMv := by
 have e : L = L.take k ++ [L[k]] ++ L.drop (k + 1) := by
  rw [List.append_assoc, List.singleton_append, List.getElem_cons_drop, List.take_append_drop]
 have e2 : L.set k x = L.take k ++ [x] ++ L.drop (k + 1) := by
  rw [List.set_eq_take_append_cons_drop, if_pos h, List.append_assoc]; rfl
 rw [e2]
 conv => lhs; rw [e]
 simp only [List.flatMap_append, List.flatMap_singleton]
 exact setL_at (α := Int) (cMv x) _ _ _ _ (by rw [flat_len cMv_len, List.length_take, Nat.min_eq_left (Nat.le_of_lt h)]) rfl
theorem le_nt {x y : Mv} (h : ¬ mvCmp x y < 0) : y = x ∨ mvLt y x = true := by
 rw [mvCmp_lt] at h
 cases h2 : mvLt y x with
 | true => exact .inr rfl
 | false => exact .inl (mvLt_tri h2 (by simpa using h))
theorem mk_one {l : List Mv} (h : 1 ≤ l.length) : mkM (l.take 1) = l.take 1 := by
 cases l with
 | nil => simp at h
 | cons x l => rfl
theorem mk_same {l : List Mv} {p : Nat} {x y : Mv} (hy : l[p]? = some y) (hx : l[p + 1]? = some x) (he : eqM x y = true) : mkM (l.take (p + 1 + 1)) = mkM (l.take (p + 1)) := by
 have e := eqM_iff.1 he
 subst e
 refine ascM_ext (mkM_asc _) (mkM_asc _) fun z => ?_
 rw [mkM_mem, mkM_mem, take_snoc hx, List.mem_append, List.mem_singleton]
 exact ⟨fun h => h.elim id fun h => by subst h; rw [take_snoc hy]; exact List.mem_append_right _ (List.mem_singleton.2 rfl), .inl⟩
theorem mk_new {l : List Mv} (hs : Sorted l) {p : Nat} {x y : Mv} (hy : l[p]? = some y) (hx : l[p + 1]? = some x) (he : eqM x y = false) : mkM (l.take (p + 1 + 1)) = mkM (l.take (p + 1)) ++ [x] := by
 have hyx : mvLt y x = true := by
  rcases le_nt (hs p (p + 1) y x (by omega) hy hx) with h | h
  · subst h; rw [eqM_iff.2 rfl] at he; cases he
  · exact h
 refine (mkM_eq ?_ fun z => ?_).symm
 · refine List.pairwise_append.2 ⟨mkM_asc _, List.pairwise_singleton .., fun z hz w hw => ?_⟩
   rw [List.mem_singleton.1 hw]
   rw [mkM_mem] at hz
   obtain ⟨i, hi⟩ := List.getElem?_of_mem hz
   have hi' := lt_of_get hi
   rw [List.length_take] at hi'
   rw [List.getElem?_take_of_lt (by omega)] at hi
   by_cases e : i = p
   · subst e; rw [hi] at hy; cases hy; exact hyx
   · rcases le_nt (hs i p z y (by omega) hi hy) with h | h
     · subst h; exact hyx
     · exact mvLt_tr h hyx
 · rw [List.mem_append, mkM_mem, List.mem_singleton, take_snoc hx, List.mem_append, List.mem_singleton]
theorem slc_one {hv : Value} (h : hv.oneCell' = true) (i j k : Nat) : (slc hv i j k).oneCell' = true := by
 unfold slc; split
 · rfl
 · exact h
set_option maxHeartbeats 2000000 in
theorem compactMv_e (l : List Mv) (hl : l.length ≤ 1000000) (hs : Sorted l) (hv : Value) (hvo : hv.oneCell' = true) : AFh False Tryz.prog 117 [(0, hv, .val hv)] [(1000, hv, .own 72 3 l.length (l.flatMap cMv))] (fun v q h => v.oneCell' = true ∧ q = .val v ∧ h = [(1000, v, .own 72 3 (mkM l).length ((mkM l).flatMap cMv))]) := by
 refine AFh.of_body 61 Tryz.func117 rfl Tryz.ntmps117 (Nat.le_of_ble_eq_true rfl) rfl ?_
 intro w0 M0 N0
 refine nav ?_
 (refine aC_region ?_ <;> refine xL 2 q_assign ?_ <;> refine aL_end (nav ?_) <;> try dsimp only)
 (refine aC_region ?_ <;> refine xL 6 q_move ?_ <;> refine xL 7 (q_leno 1000 tSl23_LdI) ?_ <;> refine xL 8 q_lss ?_ <;> refine aL_end (nav ?_) <;> try dsimp only)
 (first | refine cCd ?_ ?_ | refine cC ?_ ?_) <;> intro hb8
 · first
   | exact Bool.noConfusion hb8
   | (
    refine nav ?_
    (refine aC_region ?_ <;> refine xL 9 q_move ?_ <;> refine xL 2 q_assign ?_ <;> refine aL_end (nav ?_) <;> try dsimp only)
    refine ret_h [(1000, hv, PV.own 72 3 l.length (l.flatMap cMv))] (Tryz.results117) rfl ⟨rfl, trivial⟩ ⟨hvo, rfl, ?_⟩
    have hm : mkM l = l := by
     match l, hl, hb8 with
     | [], _, _ => rfl
     | [_], _, _ => rfl
     | _ :: _ :: _, _, h => simp at h; omega
    rw [hm])
 · first
   | exact Bool.noConfusion hb8
   | (
    refine nav ?_
    (refine aC_region ?_ <;> refine xL 3 q_assign ?_ <;> refine aL_end (nav ?_) <;> try dsimp only)
    refine aC_loop (ι := { k : Nat // 1 ≤ k ∧ k ≤ l.length ∧ mkM (l.take k) = l.take k }) (fun k => ⟨[(0, _, _), (3, .int .i64 k.1, pInt k.1)], [(1000, _, _)]⟩) (fun k => l.length - k.1) ⟨1, Nat.le_refl _, by omega, mk_one (by omega)⟩ (fun a w H => H.weaken ⟨rfl, rfl, trivial⟩ ⟨rfl, trivial⟩) ?_
    rintro ⟨k1, hk1, hk, hmk⟩
    dsimp only
    obtain ⟨k, rfl⟩ : ∃ k, k1 = k + 1 := ⟨k1 - 1, by omega⟩
    refine nav ?_
    (refine aC_region ?_ <;> refine xL 10 q_move ?_ <;> refine xL 11 q_move ?_ <;> refine xL 12 (q_leno 1000 tSl23_LdI) ?_ <;> refine xL 13 q_lss ?_ <;> refine aL_end (nav ?_) <;> try dsimp only)
    (first | refine cCd ?_ ?_ | refine cC ?_ ?_) <;> intro hb13
    · first
      | exact Bool.noConfusion hb13
      | (
       obtain ⟨x, hx⟩ := get_some (show k + 1 < l.length by omega)
       obtain ⟨y, hy⟩ := get_some (show k < l.length by omega)
       have e1 := flat_drop cMv_len l (k + 1) x hx
       have e2 := flat_fit cMv_len hx
       have e3 : ((l.flatMap cMv).drop ((((k + 1 : Nat) : Int) - 1).toNat * 3)).take 3 = cMv y := by rw [show (((k + 1 : Nat) : Int) - 1).toNat * 3 = k * 3 by omega]; exact flat_drop cMv_len l k y hy
       have e4 := flat_fit cMv_len hy
       have hlt : k + 1 < l.length := lt_of_get hx
       refine nav ?_
       (refine aC_draw (fun i => ([] : List Nat).elem i) [1000] (by kernel_rfl) ?_ <;> refine xD 0 16 rfl q_move ?_ <;> refine xD 1 17 rfl q_move ?_ <;> refine xD 2 18 rfl (q_idxoN 1000 tSl23_LdI) ?_ <;> (refine yD 3 19 rfl (q_ldao 1000 tAgg72_LdI) fun v19 hv19 => ?_; cases hv19) <;> refine xD 4 20 rfl q_move ?_ <;> refine xE 5 21 rfl q_move ?_ <;> refine xE 6 22 rfl q_sub ?_ <;> refine xE 7 23 rfl (q_idxo 1000 tSl23_LdI) ?_ <;> (refine yE 8 24 rfl (q_ldao 1000 tAgg72_LdI) fun v24 hv24 => ?_; cases hv24) <;> refine xE 9 25 rfl ((q_eqS (us := vMv x) (us' := vMv y) uMvS hMvS gMvS (eqMv_runG x y) rfl rfl)) ?_ <;> refine aD_end (by kernel_rfl) (nav ?_) <;> try dsimp only)
       (first | refine cCd ?_ ?_ | refine cC ?_ ?_) <;> intro hb25
       · first
         | exact Bool.noConfusion hb25
         | (
          have hsm := mk_same hy hx (by simpa using hb25)
          have hl1 : (mkM (l.take (k + 1 + 1))).length = k + 1 := by rw [hsm, hmk, List.length_take]; omega
          refine nav ?_
          (refine aC_region ?_ <;> refine xL 26 q_move ?_ <;> refine xL 27 q_move ?_ <;> refine xL 28 (y_slc_own (i := k + 1) (j := l.length) 1000 tSl23_LdI rfl rfl rfl rfl rfl (Nat.le_of_lt hlt) (Nat.le_refl _)) ?_ <;> refine xL 4 q_assign ?_ <;> refine aL_end (nav ?_) <;> try dsimp only)
          (refine aC_region ?_ <;> refine xL 5 q_assign ?_ <;> refine aL_end (nav ?_) <;> try dsimp only)
          refine aC_loop (ι := { q : Nat × Nat × List Mv // 1 ≤ q.1 ∧ k + 1 + q.1 ≤ l.length ∧ q.2.1 = (mkM (l.take (k + 1 + q.1))).length ∧ q.2.2.length = l.length ∧ q.2.2.take q.2.1 = mkM (l.take (k + 1 + q.1)) ∧ q.2.1 ≤ k + q.1 ∧ ∀ i, k + q.1 ≤ i → q.2.2[i]? = l[i]? }) (fun k => ⟨[(0, _, _), (4, _, _), (3, .int .i64 k.1.2.1, pInt k.1.2.1), (5, .int .i64 k.1.1, pInt k.1.1)], [(1000, hv, .own 72 3 l.length (k.1.2.2.flatMap cMv))]⟩) (fun k => l.length - k.1.1) ⟨(1, k + 1, l), Nat.le_refl _, by dsimp only; omega, hl1.symm, rfl, by dsimp only; rw [hsm, hmk], Nat.le_refl _, fun i _ => rfl⟩ (fun a w H => H.weaken ⟨rfl, rfl, rfl, rfl, trivial⟩ ⟨rfl, trivial⟩) ?_
          rintro ⟨⟨j, K, L⟩, hj1, hj, hK, hLl, hLt, hKj, hLr⟩
          dsimp only
          dsimp only at hj1 hj hK hLl hLt hKj hLr
          obtain ⟨j', rfl⟩ : ∃ j', j = j' + 1 := ⟨j - 1, by omega⟩
          have hK2 : (K : Int) ≤ 1000000 := by omega
          rw [show k + 1 + (j' + 1) = k + 1 + j' + 1 from rfl] at hK hLt
          refine nav ?_
          (refine aC_region ?_ <;> refine xL 29 q_move ?_ <;> refine xL 30 q_move ?_ <;> refine xL 31 ((y_len_slc (a := k + 1) (m := l.length - (k + 1)) 1000 tSl23_LdI rfl rfl rfl rfl)) ?_ <;> refine xL 32 q_lss ?_ <;> refine aL_end (nav ?_) <;> try dsimp only)
          (first | refine cCd ?_ ?_ | refine cC ?_ ?_) <;> intro hb32
          · first
            | exact Bool.noConfusion hb32
            | (
             obtain ⟨u, hu⟩ := get_some (show k + 1 + (j' + 1) < l.length by omega)
             obtain ⟨v, hv2⟩ := get_some (show k + 1 + j' < l.length by omega)
             have hu' : L[k + 1 + (j' + 1)]? = some u := by rw [hLr _ (by omega)]; exact hu
             have hv' : L[k + 1 + j']? = some v := by rw [hLr _ (by omega)]; exact hv2
             have g1 := flat_drop cMv_len L _ u hu'
             have g2 := flat_fit cMv_len hu'
             have g3 := flat_drop cMv_len L _ v hv'
             have g4 := flat_fit cMv_len hv'
             have g5 : K < L.length := by omega
             have g6 : K * 3 + 3 ≤ (L.flatMap cMv).length := by rw [flat_len cMv_len]; omega
             refine nav ?_
             (refine aC_draw (fun i => ([] : List Nat).elem i) [1000] (by kernel_rfl) ?_ <;> refine xD 0 35 rfl q_move ?_ <;> refine xD 1 36 rfl q_move ?_ <;> refine xD 2 37 rfl ((y_idx_slc (a := k + 1) (m := (k + 1 + (j' + 1)) * 3) 1000 tSl23_LdI rfl rfl rfl rfl (by omega) (by omega) (by omega))) ?_ <;> (refine yD 3 38 rfl (q_ldao 1000 tAgg72_LdI) fun v38 hv38 => ?_; cases hv38) <;> refine xD 4 39 rfl q_move ?_ <;> refine xE 5 40 rfl q_move ?_ <;> refine xE 6 41 rfl q_sub ?_ <;> refine xE 7 42 rfl ((y_idx_slc (a := k + 1) (m := (k + 1 + j') * 3) 1000 tSl23_LdI rfl rfl rfl rfl (by omega) (by omega) (by omega))) ?_ <;> (refine yE 8 43 rfl (q_ldao 1000 tAgg72_LdI) fun v43 hv43 => ?_; cases hv43) <;> refine xE 9 44 rfl ((q_neS (us := vMv u) (us' := vMv v) uMvS hMvS gMvS (eqMv_runG u v) rfl rfl)) ?_ <;> refine aD_end (by kernel_rfl) (nav ?_) <;> try dsimp only)
             (first | refine cCd ?_ ?_ | refine cC ?_ ?_) <;> intro hb44
             · first
               | exact Bool.noConfusion hb44
               | (
                have hnw2 := mk_new hs hv2 hu (by simpa using hb44)
                have hset := setL_row L K u g5
                have hlen2 : K + 1 = (mkM (l.take (k + 1 + j' + 1 + 1))).length := by rw [hnw2, List.length_append, List.length_singleton, hK]
                have htk2 : (L.set K u).take (K + 1) = mkM (l.take (k + 1 + j' + 1 + 1)) := by
                 rw [hnw2, ← hLt, List.take_set, take_snoc (List.getElem?_eq_getElem g5), List.set_append_right _ _ (by rw [List.length_take]; omega), List.length_take, Nat.min_eq_left (by omega), Nat.sub_self]; rfl
                refine nav ?_
                (refine aC_region ?_ <;> refine xL 45 q_move ?_ <;> refine xL 46 q_move ?_ <;> refine xL 47 q_move ?_ <;> refine xL 48 q_move ?_ <;> refine xL 49 ((y_idx_slc (a := k + 1) (m := (k + 1 + (j' + 1)) * 3) 1000 tSl23_LdI rfl rfl rfl rfl (by omega) (by omega) (by omega))) ?_ <;> (refine yL 50 (q_ldao 1000 tAgg72_LdI) fun v50 hv50 => ?_; cases hv50) <;> refine xL 51 (q_idxoN 1000 tSl23_LdI) ?_ <;> refine s_sta 1000 tAgg72_LdI ?_ <;> refine aL_end (nav ?_) <;> try dsimp only)
                (refine aC_region ?_ <;> refine xL 52 q_move ?_ <;> refine xL 53 q_add ?_ <;> refine xL 3 q_assign ?_ <;> refine aL_end (nav ?_) <;> try dsimp only)
                (refine aC_region ?_ <;> refine xL 33 q_move ?_ <;> refine xL 34 q_add ?_ <;> refine xL 5 q_assign ?_ <;> refine aL_end (nav ?_) <;> try dsimp only)
                try rw [hset]
                first
                 | (exact aN_again (
                     ⟨(j' + 1 + 1, K + 1, L.set K u), by dsimp only; omega, by dsimp only; omega, hlen2, by dsimp only; rw [List.length_set]; exact hLl, htk2, by dsimp only; omega, fun i hi => by dsimp only at hi ⊢; rw [List.getElem?_set_ne (by omega)]; exact hLr i (by omega)⟩
                     ) (by dsimp only; omega) ⟨rfl, rfl, rfl, rfl, trivial⟩ ⟨rfl, trivial⟩)
                 | (exact aN_again (
                     ⟨(j' + 1 + 1, K, L), by dsimp only; omega, by dsimp only; omega, hK.trans (by rw [show k + 1 + (j' + 1 + 1) = k + 1 + j' + 1 + 1 by omega, hsm2]), hLl, hLt.trans (by rw [show k + 1 + (j' + 1 + 1) = k + 1 + j' + 1 + 1 by omega, hsm2]), by dsimp only; omega, fun i hi => hLr i (by dsimp only at hi; omega)⟩
                     ) (by dsimp only; omega) ⟨rfl, rfl, rfl, rfl, trivial⟩ ⟨rfl, trivial⟩))
             · first
               | exact Bool.noConfusion hb44
               | (
                have hsm2 := mk_same hv2 hu (by simpa using hb44)
                refine nav ?_
                (refine aC_region ?_ <;> refine xL 33 q_move ?_ <;> refine xL 34 q_add ?_ <;> refine xL 5 q_assign ?_ <;> refine aL_end (nav ?_) <;> try dsimp only)
                try rw [hset]
                first
                 | (exact aN_again (
                     ⟨(j' + 1 + 1, K + 1, L.set K u), by dsimp only; omega, by dsimp only; omega, hlen2, by dsimp only; rw [List.length_set]; exact hLl, htk2, by dsimp only; omega, fun i hi => by dsimp only at hi ⊢; rw [List.getElem?_set_ne (by omega)]; exact hLr i (by omega)⟩
                     ) (by dsimp only; omega) ⟨rfl, rfl, rfl, rfl, trivial⟩ ⟨rfl, trivial⟩)
                 | (exact aN_again (
                     ⟨(j' + 1 + 1, K, L), by dsimp only; omega, by dsimp only; omega, hK.trans (by rw [show k + 1 + (j' + 1 + 1) = k + 1 + j' + 1 + 1 by omega, hsm2]), hLl, hLt.trans (by rw [show k + 1 + (j' + 1 + 1) = k + 1 + j' + 1 + 1 by omega, hsm2]), by dsimp only; omega, fun i hi => hLr i (by dsimp only at hi; omega)⟩
                     ) (by dsimp only; omega) ⟨rfl, rfl, rfl, rfl, trivial⟩ ⟨rfl, trivial⟩)))
          · first
            | exact Bool.noConfusion hb32
            | (
             have hall : l.take (k + 1 + j' + 1) = l := List.take_of_length_le (by omega)
             rw [hall] at hK hLt
             have hKl : K ≤ l.length := by omega
             refine nav ?_
             (refine aC_region ?_ <;> refine xL 54 q_move ?_ <;> refine xL 55 q_move ?_ <;> refine xL 56 (y_slc_own (i := K) (j := l.length) 1000 tSl23_LdI rfl rfl rfl rfl rfl hKl (Nat.le_refl _)) ?_ <;> (refine aL_clear 1000 tEl23_LdR (by decide) rfl rfl rfl rfl rfl hKl ?_; intro cs2 hcs1 hcs2) <;> refine aL_end (nav ?_) <;> try dsimp only)
             (refine aC_region ?_ <;> refine xL 57 q_move ?_ <;> refine xL 58 q_move ?_ <;> refine xL 59 (y_slc_own (i := 0) (j := K) 1000 tSl23_LdI rfl rfl rfl rfl rfl (Nat.zero_le _) hKl) ?_ <;> refine xL 2 q_assign ?_ <;> refine aL_end (nav ?_) <;> try dsimp only)
             refine aR_ent (trim (l := 1000) K rfl hKl) fun _ => ?_
             refine ret_h [(1000, slc hv 0 K 3, PV.own 72 3 K (cs2.take (K * 3)))] (Tryz.results117) rfl ⟨rfl, trivial⟩ ⟨slc_one hvo _ _ _, rfl, ?_⟩
             rw [hcs2, ← hLt, flat_takeG cMv_len]
             rw [show (L.take K).length = K by rw [List.length_take]; omega]))
       · first
         | exact Bool.noConfusion hb25
         | (
          have hnw := mk_new hs hy hx (by simpa using hb25)
          rw [hmk, ← take_snoc hx] at hnw
          refine nav ?_
          (refine aC_region ?_ <;> refine xL 14 q_move ?_ <;> refine xL 15 q_add ?_ <;> refine xL 3 q_assign ?_ <;> refine aL_end (nav ?_) <;> try dsimp only)
          refine aN_again (
           ⟨k + 1 + 1, by omega, by omega, hnw⟩
           ) (by dsimp only; omega) ⟨rfl, rfl, trivial⟩ ⟨rfl, trivial⟩))
    · first
      | exact Bool.noConfusion hb13
      | (
       refine nav ?_
       (refine aC_region ?_ <;> refine xL 60 q_move ?_ <;> refine xL 2 q_assign ?_ <;> refine aL_end (nav ?_) <;> try dsimp only)
       refine ret_h [(1000, hv, PV.own 72 3 l.length (l.flatMap cMv))] (Tryz.results117) rfl ⟨rfl, trivial⟩ ⟨hvo, rfl, ?_⟩
       rw [List.take_of_length_le (show l.length ≤ k + 1 by omega)] at hmk
       rw [hmk]))
theorem mk_perm {l m : List Mv} (h : l.Perm m) : mkM l = mkM m := mkM_eq (mkM_asc l) fun x => by rw [mkM_mem]; exact h.mem_iff
theorem aMade_d (a : Aut) (hl : a.moves.length ≤ 1000000) (V hM : Value) (hMo : hM.oneCell' = true) {p0 p1 p2 p3 p4 : PV} {E : Int} (h5 : R5 p0 p1 p2 p3 p4) (hr : AF Tryz.prog 83 [pAut (mkA a)] (· = .tup [.agg [p0, p1, p2, p3, p4], pInt E])) : AFh False Tryz.prog 88 [(0, V, .agg [pInt a.n, pInt a.syms, pInts a.start, pInts a.fin, .val hM])] [(1000, hM, .own 72 3 a.moves.length (a.moves.flatMap cMv))] (fun v q h => (∃ V1 : Value, v = .tuple [V1, .int .i64 E].toArray) ∧ q = .tup [.agg [p0, p1, p2, p3, p4], pInt E] ∧ h = []) := by
 obtain ⟨o0, o1, o2, o3, o4⟩ := h5.o
 refine AFh.of_body 15 Tryz.func88 rfl Tryz.ntmps88 (Nat.le_of_ble_eq_true rfl) rfl ?_
 intro w0 M0 N0
 have hone : En.one (PV.val hM) = true := hMo
 refine nav ?_
 (refine aC_region ?_ <;> refine s_boxa 1 5 fun h1 => ?_ <;> refine s_alloc [(.int .i64 0), (.int .i64 0), (.slice none 0 0), (.slice none 0 0), (.slice none 0 0)] 5 2 tZr25_LfD fun h2 => ?_ <;> refine xL 3 q_assign ?_ <;> refine aL_end (nav ?_) <;> try dsimp only)
 (refine aC_region ?_ <;> refine xL 4 (q_fldo 1 tFl25_4_LdI) ?_ <;> (refine yL 5 (q_ldo 1 tNa23_LdI) fun v5 hv5 => ?_; cases hv5) <;> (rcases Nat.eq_zero_or_pos a.moves.length with h0 | h0 <;> first | (refine aL_ent (recast (l := 1000) (p' := .own 72 3 0 []) rfl (by rw [List.eq_nil_of_length_eq_zero h0]; rfl)) fun _ => ?_; refine aL_sort0 (l := 1000) sortMv_none rfl rfl (Nat.le_of_ble_eq_true rfl) rfl (Tryz.call116) rfl rfl rfl ?_; obtain ⟨rows', hperm, hord⟩ : ∃ rows' : List Mv, rows'.Perm a.moves ∧ Sorted rows' := ⟨[], by rw [List.eq_nil_of_length_eq_zero h0], fun i j x y _ h => by simp at h⟩; refine aL_ent (recast (l := 1000) (p' := .own 72 3 rows'.length (rows'.flatMap cMv)) rfl (by rw [List.eq_nil_of_length_eq_zero (hperm.length_eq.trans h0)]; rfl)) fun _ => ?_) | (refine aL_sort (l := 1000) (β := Mv) (f := cMv) (cmp := mvCmp) (rows := a.moves) sortMv_c cMv_len (by decide) (fun _ => rfl) mvCmp_irr mvCmp_tr mvCmp_nt (fun x y M W u v _ _ hu hv => mv_exact2 x y M W u v hu hv) h0 (by omega) rfl rfl (Nat.le_of_ble_eq_true rfl) rfl (Tryz.call116) rfl rfl rfl (fun rows' hperm hord => ?_); refine aL_ent (recast (l := 1000) (p' := .own 72 3 rows'.length (rows'.flatMap cMv)) rfl (by rw [hperm.length_eq])) fun _ => ?_)) <;> refine aL_end (nav ?_) <;> try dsimp only) <;> (
  (refine aC_region ?_ <;> refine xL 7 (q_fldo 1 tFl25_4_LdI) ?_ <;> (refine yL 8 (q_ldo 1 tNa23_LdI) fun v8 hv8 => ?_; cases hv8) <;> (refine aL_heap [(1000, hM, PV.own 72 3 rows'.length (rows'.flatMap cMv)), (1, _, _), (2, _, _)] ⟨rfl, rfl, rfl, trivial⟩ ?_; refine aL_ch [1, 2] 9 (Tryz.call117) (compactMv_e rows' (by have := hperm.length_eq; omega) hord hM hMo) ?_; rintro v9 _ _ ⟨hv9, rfl, rfl⟩; refine aL_ent (recast (l := 1000) (p' := .own 72 3 (mkM a.moves).length ((mkM a.moves).flatMap cMv)) rfl (by rw [mk_perm hperm])) fun _ => ?_; have hone9 : En.one (PV.val v9) = true := hv9) <;> refine xL 10 (q_fldo 1 tFl25_4_LdI) ?_ <;> refine s_st 1 tNa23_LdI tSz23_LdR ?_ <;> refine aL_end (nav ?_) <;> try dsimp only)
  refine aC_ent (freezeCell (l := 1) (l' := 1000) (j := 4) rfl rfl rfl rfl) fun _ => ?_
  rw [share_mvl _ _ _ rfl]
  (refine aC_region ?_ <;> (refine yL 11 (q_ldao 1 tAgg25_LdS) fun v11 hv11 => ?_; cases hv11) <;> (refine cP 12 (cA Tryz.call83 hr) (fun va12 vb12 hva12 hvb12 => ?_) (hsh := h5.t E); cases hvb12) <;> refine xL 13 q_extract ?_ <;> refine xL 14 q_extract ?_ <;> refine s_sta 2 tAgg25_LdS ?_ <;> refine xL 3 q_assign ?_ <;> refine aL_end (nav ?_) <;> try dsimp only)
  exact ret_hcs (k := 5) 2 [] (by kernel_rfl) (Tryz.results88) rfl rfl rfl (Nat.le_of_ble_eq_true rfl) (by decide) h5.s trivial fun V => ⟨⟨V, rfl⟩, rfl, rfl⟩)
theorem aShifted_e (l : List Int) (n : Int) (hl : l.length ≤ 1000000) (hn : 0 ≤ n ∧ n ≤ 1000000) (hb : ∀ x ∈ l, 0 ≤ x ∧ x ≤ 1000000) : AF Tryz.prog 87 [pInts l, pInt n] (· = .own 3 1 (addI n l).length ((addI n l).map pInt)) := by
 refine AF.of_body 22 Tryz.func87 rfl Tryz.ntmps87 (Nat.le_of_ble_eq_true rfl) ?_
 intro w0 M0 vs hl hv
 obtain ⟨v0, v1, rfl⟩ := len2 hl
 obtain rfl := hv 1 _ _ rfl rfl
 clear hl hv
 refine aC_slen 0 rfl fun hlen => ?_
 refine nav ?_
 (refine aC_region ?_ <;> refine xL 4 q_assign ?_ <;> refine aL_end (nav ?_) <;> try dsimp only)
 (refine aC_region ?_ <;> refine xL 5 q_assign ?_ <;> refine aL_end (nav ?_) <;> try dsimp only)
 refine aC_ent (nilOwn 200 3 1 rfl) fun _ => ?_
 (refine aC_region ?_ <;> refine xL 8 q_move ?_ <;> refine xL 9 (q_len tSl22_LbB) ?_ <;> refine xL 10 q_move ?_ <;> refine aL_end (nav ?_) <;> try dsimp only)
 refine aC_loop (ι := { q : Nat × Value // q.1 ≤ l.length ∧ q.2.oneCell' = true }) (fun k => ⟨[(1, _, _), (8, _, _), (9, _, _), (5, k.1.2, .val k.1.2), (10, .int .i64 k.1.1, pInt k.1.1)], [(200, k.1.2, .own 3 1 (addI n (l.take k.1.1)).length ((addI n (l.take k.1.1)).map pInt))]⟩) (fun k => l.length - k.1.1) ⟨(0, .slice none 0 0), Nat.zero_le _, rfl⟩ (fun a w H => H.weaken ⟨rfl, rfl, rfl, rfl, rfl, trivial⟩ ⟨rfl, trivial⟩) ?_
 rintro ⟨⟨k, hO⟩, hk, hOo⟩
 dsimp only
 dsimp only at hk hOo
 have hal : (addI n (l.take k)).length ≤ 1000000 := by rw [addI_len, List.length_take]; omega
 refine nav ?_
 (refine aC_region ?_ <;> refine xL 11 q_lss ?_ <;> refine aL_end (nav ?_) <;> try dsimp only)
 (first | refine cCd ?_ ?_ | refine cC ?_ ?_) <;> intro hb11
 · first
   | exact Bool.noConfusion hb11
   | (
    obtain ⟨x, hx⟩ := get_some (show k < l.length by omega)
    have e1 := map_at (f := pInt) hx
    have hxb := hb x (List.mem_of_getElem? hx)
    refine nav ?_
    (refine aC_region ?_ <;> refine xL 12 (q_idxN tSl22_LbB) ?_ <;> (refine yL 13 (q_ld tNa3_LbB) fun v13 hv13 => ?_; cases hv13) <;> refine xL 7 q_assign ?_ <;> refine aL_end (nav ?_) <;> try dsimp only)
    (refine aC_region ?_ <;> refine xL 14 q_move ?_ <;> refine xL 15 q_move ?_ <;> refine xL 16 q_move ?_ <;> refine xL 17 q_add ?_ <;> refine s_lit1 (kk := 1) 18 tEl22_LdI fun h18 ho18 => ?_ <;> (refine s_app 200 18 19 tEl22_LdI fun h19 ho19 => ?_; refine aL_ent (relabel (l := 19) 200 rfl rfl) fun _ => ?_; refine aL_ent (recast (l := 200) rfl ((own_ints _ (addI n (l.take k)) (x + n)).trans (by rw [← addI_snoc n hx]))) fun _ => ?_) <;> refine xL 5 q_assign ?_ <;> refine aL_end (nav ?_) <;> try dsimp only)
    (refine aC_region ?_ <;> refine xL 20 q_add ?_ <;> refine xL 10 q_move ?_ <;> refine aL_end (nav ?_) <;> try dsimp only)
    refine aN_again (
     ⟨(k + 1, h19), lt_of_get hx, ho19⟩
     ) (by dsimp only; omega) ⟨rfl, rfl, rfl, rfl, rfl, trivial⟩ ⟨rfl, trivial⟩)
 · first
   | exact Bool.noConfusion hb11
   | (
    rw [List.take_of_length_le (show l.length ≤ k by omega)]
    refine nav ?_
    (refine aC_region ?_ <;> refine xL 21 q_move ?_ <;> refine xL 4 q_assign ?_ <;> refine aL_end (nav ?_) <;> try dsimp only)
    exact ret_own 200 (Tryz.results87) rfl rfl rfl)
def bsM (a b : Aut) : List Mv := a.moves ++ addM a.n b.moves
theorem bsM_len {a b : Aut} (ha : AOk a) (hb : AOk b) : (bsM a b).length ≤ 40000 := by
 unfold bsM
 rw [List.length_append, addM_len]
 have := ha.ml; have := hb.ml; omega
set_option maxHeartbeats 2000000 in
theorem aBeside_e (a b : Aut) (ha : AOk a) (hb : AOk b) (V V' : Value) : AFh False Tryz.prog 93 [(0, V, pAut a), (1, V', pAut b)] [] (fun v q h => ∃ hM : Value, hM.oneCell' = true ∧ q = .agg [pInt (a.n + b.n), pInt a.syms, .val (.slice none 0 0), .val (.slice none 0 0), .val hM] ∧ h = [(1000, hM, .own 72 3 (bsM a b).length ((bsM a b).flatMap cMv))]) := by
 have hn0 := ha.n0
 have hn1 := ha.n1
 have hm0 := hb.n0
 have hm1 := hb.n1
 have hal := ha.ml
 have hbl := hb.ml
 refine AFh.of_body 46 Tryz.func93 rfl Tryz.ntmps93 (Nat.le_of_ble_eq_true rfl) rfl ?_
 intro w0 M0 N0
 refine nav ?_
 (refine aC_region ?_ <;> refine s_boxa 2 5 fun h2 => ?_ <;> refine s_boxa 3 5 fun h3 => ?_ <;> refine s_alloc [(.int .i64 0), (.int .i64 0), (.slice none 0 0), (.slice none 0 0), (.slice none 0 0)] 5 4 tZr25_LfD fun h4 => ?_ <;> refine aL_end (nav ?_) <;> try dsimp only)
 refine aC_mid (fun x : { x : Value × Value // x.1.oneCell' = true } => ⟨[(2, padd (sbase h2) 0, .val (padd (sbase h2) 0)), (3, padd (sbase h3) 0, .val (padd (sbase h3) 0)), (4, padd (sbase h4) 0, .val (padd (sbase h4) 0)), (5, padd (sbase x.1.2) 0, .val (padd (sbase x.1.2) 0))], [(2, h2, .own 25 5 1 [pInt a.n, pInt a.syms, pInts a.start, pInts a.fin, pMvs a.moves]), (3, h3, .own 25 5 1 [pInt b.n, pInt b.syms, pInts b.start, pInts b.fin, pMvs b.moves]), (4, h4, .own 25 5 1 [pInt 0, pInt 0, .val (.slice none 0 0), .val (.slice none 0 0), .val (.slice none 0 0)]), (5, x.1.2, .own 25 5 1 [pInt (a.n + b.n), pInt a.syms, .val (.slice none 0 0), .val (.slice none 0 0), .val x.1.1]), (17, x.1.1, .own 72 3 a.moves.length (a.moves.flatMap cMv))]⟩) ?_ ?_
 · (refine aC_draw (fun i => ([] : List Nat).elem i) [2, 3] (by kernel_rfl) ?_ <;> refine xD 0 8 rfl (q_fldo 2 tFl25_0_LdI) ?_ <;> (refine yD 1 9 rfl (q_ldo 2 tNa3_LbB) fun v9 hv9 => ?_; cases hv9) <;> refine xD 2 10 rfl (q_fldo 3 tFl25_0_LdI) ?_ <;> (refine yD 3 11 rfl (q_ldo 3 tNa3_LbB) fun v11 hv11 => ?_; cases hv11) <;> refine xD 4 12 rfl q_add ?_ <;> refine xD 5 13 rfl (q_fldo 2 tFl25_1_LdI) ?_ <;> (refine yD 6 14 rfl (q_ldo 2 tNa3_LbB) fun v14 hv14 => ?_; cases hv14) <;> refine xD 7 15 rfl (q_fldo 2 tFl25_4_LdI) ?_ <;> (refine yD 8 16 rfl (q_ldo 2 tNa23_LdI) fun v16 hv16 => ?_; cases hv16) <;> (refine aD_two 9 11 (by kernel_rfl) ?_ ?_; rotate_right; (focus ((refine aW_run rfl fun w9 M9 N9 DQ back => ?_) <;> refine s_alloc [(.int .i64 0), (.int .i64 0), (.slice none 0 0), (.slice none 0 0), (.slice none 0 0)] 5 5 tZr25_LfD fun h5 => ?_ <;> refine aL_end (back _ (nrm ?_)) <;> (refine aD_one 9 (by kernel_rfl) ?_) <;> (refine aW_run rfl fun w9 M9 N9 DQ back => ?_) <;> refine cO 17 (cA Tryz.call96 (cloneMv_e a.moves (by omega))) fun v17 ho17 => ?_ <;> refine aL_end (back _ (nrm ?_)) <;> refine xE 10 18 rfl (q_build tSt25_LfD) ?_ <;> (refine aD_one 12 (by kernel_rfl) ?_) <;> (refine aW_run rfl fun w9 M9 N9 DQ back => ?_) <;> (refine s_sta 5 (m := 5) (by kernel_rfl) ?_ (h1 := by show (List.all [pInt (a.n + b.n), pInt a.syms, PV.val (.slice none 0 0), PV.val (.slice none 0 0), PV.val v17] En.one) = true; simp only [List.all_cons, List.all_nil, Bool.and_true, Bool.and_eq_true]; exact ⟨rfl, rfl, rfl, rfl, ho17⟩)) <;> refine aL_end (back _ (nrm ?_)))); rotate_right; (focus ((refine aW_run rfl fun w9 M9 N9 DQ back => ?_) <;> refine cO 17 (cA Tryz.call96 (cloneMv_e a.moves (by omega))) fun v17 ho17 => ?_ <;> refine aL_end (back _ (nrm ?_)) <;> refine xD 10 18 rfl (q_build tSt25_LfD) ?_ <;> (refine aD_one 11 (by kernel_rfl) ?_) <;> (refine aW_run rfl fun w9 M9 N9 DQ back => ?_) <;> refine s_alloc [(.int .i64 0), (.int .i64 0), (.slice none 0 0), (.slice none 0 0), (.slice none 0 0)] 5 5 tZr25_LfD fun h5 => ?_ <;> refine aL_end (back _ (nrm ?_)) <;> (refine aD_one 12 (by kernel_rfl) ?_) <;> (refine aW_run rfl fun w9 M9 N9 DQ back => ?_) <;> (refine s_sta 5 (m := 5) (by kernel_rfl) ?_ (h1 := by show (List.all [pInt (a.n + b.n), pInt a.syms, PV.val (.slice none 0 0), PV.val (.slice none 0 0), PV.val v17] En.one) = true; simp only [List.all_cons, List.all_nil, Bool.and_true, Bool.and_eq_true]; exact ⟨rfl, rfl, rfl, rfl, ho17⟩)) <;> refine aL_end (back _ (nrm ?_))))) <;> refine aD_end (by kernel_rfl) (nav ?_) <;> try dsimp only) <;> (
    exact aN_join ⟨(v17, h5), ho17⟩ ⟨rfl, rfl, rfl, rfl, trivial⟩ ⟨rfl, rfl, rfl, rfl, rfl, trivial⟩)
 · rintro ⟨⟨v17, h5⟩, ho17⟩
   dsimp only at ho17 ⊢
   refine aC_ent (relabel (l := 17) 301 rfl rfl) fun _ => ?_
   refine aC_ent (recast (l := 301) (p' := .own 72 3 (a.moves ++ addM a.n (b.moves.take 0)).length ((a.moves ++ addM a.n (b.moves.take 0)).flatMap cMv)) rfl (by rw [show addM a.n (b.moves.take 0) = [] from rfl, List.append_nil])) fun _ => ?_
   refine nav ?_
   (refine aC_region ?_ <;> refine xL 19 (q_fldo 3 tFl25_4_LdI) ?_ <;> (refine yL 20 (q_ldo 3 tNa23_LdI) fun v20 hv20 => ?_; cases hv20) <;> refine xL 21 (q_len tSl23_LdI) ?_ <;> refine xL 22 q_move ?_ <;> refine aL_end (nav ?_) <;> try dsimp only)
   refine aC_loop (ι := { q : Nat × Value // q.1 ≤ b.moves.length ∧ q.2.oneCell' = true }) (fun k => ⟨[(2, _, _), (3, _, _), (4, _, _), (5, _, _), (20, _, _), (21, _, _), (22, .int .i64 k.1.1, pInt k.1.1)], [(2, _, _), (3, _, _), (4, _, _), (5, h5, .own 25 5 1 [pInt (a.n + b.n), pInt a.syms, .val (.slice none 0 0), .val (.slice none 0 0), .val k.1.2]), (301, k.1.2, .own 72 3 (a.moves ++ addM a.n (b.moves.take k.1.1)).length ((a.moves ++ addM a.n (b.moves.take k.1.1)).flatMap cMv))]⟩) (fun k => b.moves.length - k.1.1) ⟨(0, v17), Nat.zero_le _, ho17⟩ (fun a w H => H.weaken ⟨rfl, rfl, rfl, rfl, rfl, rfl, rfl, trivial⟩ ⟨rfl, rfl, rfl, rfl, rfl, trivial⟩) ?_
   rintro ⟨⟨k, hM⟩, hk, hMo⟩
   dsimp only
   dsimp only at hk hMo
   have hl1 : (a.moves ++ addM a.n (b.moves.take k)).length ≤ 50000 := by rw [List.length_append, addM_len, List.length_take]; omega
   have q5 : En.one (PV.val hM) = true := hMo
   refine nav ?_
   (refine aC_region ?_ <;> refine xL 23 q_lss ?_ <;> refine aL_end (nav ?_) <;> try dsimp only)
   (first | refine cCd ?_ ?_ | refine cC ?_ ?_) <;> intro hb23
   · first
     | exact Bool.noConfusion hb23
     | (
      obtain ⟨x, hx⟩ := get_some (show k < b.moves.length by omega)
      have e1 := flat_drop cMv_len b.moves k x hx
      have e2 := flat_fit cMv_len hx
      have hxb := hb.mv x (List.mem_of_getElem? hx)
      refine nav ?_
      (refine aC_region ?_ <;> refine xL 24 (q_idxN tSl23_LdI) ?_ <;> (refine yL 25 (q_lda tAgg72_LdI) fun v25 hv25 => ?_; cases hv25) <;> refine s_alloc [(.int .i64 0), (.int .i64 0), (.int .i64 0)] 3 7 tZr72_LdI fun h7 => ?_ <;> refine s_sta 7 tAgg72_LdI ?_ <;> refine aL_end (nav ?_) <;> try dsimp only)
      (refine aC_region ?_ <;> refine xL 26 (q_fldo 5 tFl25_4_LdI) ?_ <;> (refine yL 27 (q_ldo 5 tNa23_LdI) fun v27 hv27 => ?_; cases hv27) <;> refine xL 28 (q_fldo 7 tFl72_0_LdI) ?_ <;> (refine yL 29 (q_ldo 7 tNa3_LbB) fun v29 hv29 => ?_; cases hv29) <;> refine xL 30 (q_fldo 2 tFl25_0_LdI) ?_ <;> (refine yL 31 (q_ldo 2 tNa3_LbB) fun v31 hv31 => ?_; cases hv31) <;> refine xL 32 q_add ?_ <;> refine xL 33 (q_fldo 7 tFl72_1_LdI) ?_ <;> (refine yL 34 (q_ldo 7 tNa3_LbB) fun v34 hv34 => ?_; cases hv34) <;> refine xL 35 (q_fldo 2 tFl25_0_LdI) ?_ <;> (refine yL 36 (q_ldo 2 tNa3_LbB) fun v36 hv36 => ?_; cases hv36) <;> refine xL 37 q_add ?_ <;> refine xL 38 (q_fldo 7 tFl72_2_LdI) ?_ <;> (refine yL 39 (q_ldo 7 tNa3_LbB) fun v39 hv39 => ?_; cases hv39) <;> refine xL 40 (q_build tSt72_LfD) ?_ <;> refine s_lit1a 41 tEl23_LdR fun h41 ho41 => ?_ <;> (refine s_app 301 41 42 tEl23_LdR fun h42 ho42 => ?_; refine aL_ent (relabel (l := 42) 301 rfl rfl) fun _ => ?_; refine aL_ent (recast (l := 301) rfl ((snoc_mv _ (a.moves ++ addM a.n (b.moves.take k)) ⟨x.src + a.n, x.dst + a.n, x.sym⟩).trans (by rw [List.append_assoc, ← addM_snoc a.n hx]))) fun _ => ?_) <;> refine xL 43 (q_fldo 5 tFl25_4_LdI) ?_ <;> refine s_st 5 tNa23_LdI tSz23_LdR ?_ <;> refine aL_end (nav ?_) <;> try dsimp only)
      (refine aC_region ?_ <;> refine xL 44 q_add ?_ <;> refine xL 22 q_move ?_ <;> refine aL_end (nav ?_) <;> try dsimp only)
      refine aN_again (
       ⟨(k + 1, h42), lt_of_get hx, ho42⟩
       ) (by dsimp only; omega) ⟨rfl, rfl, rfl, rfl, rfl, rfl, rfl, trivial⟩ ⟨rfl, rfl, rfl, rfl, rfl, trivial⟩)
   · first
     | exact Bool.noConfusion hb23
     | (
      rw [List.take_of_length_le (show b.moves.length ≤ k by omega)]
      refine aC_ent (relabel (l := 301) 1000 rfl rfl) fun _ => ?_
      refine nav ?_
      (refine aC_region ?_ <;> (refine yL 45 (q_ldao (k := 5) (ps := [pInt (a.n + b.n), pInt a.syms, PV.val (.slice none 0 0), PV.val (.slice none 0 0), PV.val hM]) 5 (by kernel_rfl)) fun v45 hv45 => ?_; cases hv45) <;> refine s_sta 4 tAgg25_LdS ?_ <;> refine aL_end (nav ?_) <;> try dsimp only)
      exact ret_hc (k := 5) 4 [(1000, hM, PV.own 72 3 (bsM a b).length ((bsM a b).flatMap cMv))] (by kernel_rfl) (Tryz.results93) rfl rfl (Nat.le_of_ble_eq_true rfl) (by decide) rfl ⟨rfl, trivial⟩ fun V => ⟨hM, hMo, rfl, rfl⟩)
theorem ints_one (l : List Int) : (l.map pInt).all En.one = true := by rw [List.all_eq_true]; intro p hp; obtain ⟨z, _, rfl⟩ := List.mem_map.1 hp; rfl
theorem ints_len1 (l : List Int) : (l.map pInt).length = l.length * 1 := by rw [List.length_map, Nat.mul_one]
theorem ints_app (e : Nat) (l m : List Int) : PV.own e 1 (l.length + m.length) (l.map pInt ++ m.map pInt) = .own e 1 (l ++ m).length ((l ++ m).map pInt) := by rw [List.map_append, List.length_append]
theorem fit_vok {a b : Aut} (h : fitX a b = 0) : VOk a ∧ VOk b ∧ a.syms = b.syms := by
 obtain ⟨h1, h2, h3⟩ := fit_zero h
 exact ⟨vok_of h1, vok_of h2, h3⟩
theorem aUnion_bad (a b : Aut) (e : Int) (he : ¬ e = 0) (hf : AF Tryz.prog 70 [pAut a, pAut b] (· = pInt e)) : AF Tryz.prog 40 [pAut a, pAut b] (· = .tup [rawZ, pInt e]) := by
 refine AF.of_body 42 Tryz.func40 rfl Tryz.ntmps40 (Nat.le_of_ble_eq_true rfl) ?_
 intro w0 M0 vs hl hv
 obtain ⟨v0, v1, rfl⟩ := len2 hl
 clear hl hv
 refine nav ?_
 (refine aC_region ?_ <;> refine s_boxa 2 5 fun h2 => ?_ <;> refine s_boxa 3 5 fun h3 => ?_ <;> refine s_alloc [(.int .i64 0), (.int .i64 0), (.slice none 0 0), (.slice none 0 0), (.slice none 0 0)] 5 4 tZr25_LfD fun h4 => ?_ <;> refine xL 5 q_assign ?_ <;> refine aL_end (nav ?_) <;> try dsimp only)
 (refine aC_region ?_ <;> (refine yL 8 (q_ldao 2 tAgg25_LdS) fun v8 hv8 => ?_; cases hv8) <;> (refine yL 9 (q_ldao 3 tAgg25_LdS) fun v9 hv9 => ?_; cases hv9) <;> (refine cS 10 (cA Tryz.call70 (hf)) fun v10 hv10 => ?_; cases hv10) <;> refine xL 6 q_assign ?_ <;> refine aL_end (nav ?_) <;> try dsimp only)
 (refine aC_region ?_ <;> refine xL 11 q_move ?_ <;> refine xL 12 q_neq ?_ <;> refine aL_end (nav ?_) <;> try dsimp only)
 (first | refine cCd ?_ ?_ | refine cC ?_ ?_) <;> intro hb12
 · refine nav ?_
   (refine aC_region ?_ <;> refine xL 13 (q_build tSt25_LfD) ?_ <;> refine xL 14 q_move ?_ <;> refine s_sta 4 tAgg25_LdS ?_ <;> refine xL 5 q_assign ?_ <;> refine aL_end (nav ?_) <;> try dsimp only)
   exact ret_cs (k := 5) 4 (by kernel_rfl) (Tryz.results40) rfl rfl rfl (Nat.le_of_ble_eq_true rfl) (by decide) rfl rfl
 · exact absurd (by simpa using hb12) he
set_option maxHeartbeats 2000000 in
theorem aUnion_g (a b : Aut) (hf0 : fitX a b = 0) {p0 p1 p2 p3 p4 : PV} {E : Int} (r5 : R5 p0 p1 p2 p3 p4) (hr : AF Tryz.prog 83 [pAut (mkA (unionA a b))] (· = .tup [.agg [p0, p1, p2, p3, p4], pInt E])) : AF Tryz.prog 40 [pAut a, pAut b] (· = .tup [.agg [p0, p1, p2, p3, p4], pInt E]) := by
 obtain ⟨o0, o1, o2, o3, o4⟩ := r5.o
 obtain ⟨ha, hb, hs⟩ := fit_vok hf0
 have hf := aFit_e a b
 rw [hf0] at hf
 have hn0 := ha.n0
 have hn1 := ha.n1
 have k1 := ha.sl
 have k2 := hb.sl
 have k3 := ha.fl
 have k4 := hb.fl
 have m1 := hb.n1
 have kml := bsM_len ha.toAOk hb.toAOk
 have l1 := addI_len a.n b.start
 have l2 := addI_len a.n b.fin
 refine AF.of_body 42 Tryz.func40 rfl Tryz.ntmps40 (Nat.le_of_ble_eq_true rfl) ?_
 intro w0 M0 vs hl hv
 obtain ⟨v0, v1, rfl⟩ := len2 hl
 clear hl hv
 refine nav ?_
 (refine aC_region ?_ <;> refine s_boxa 2 5 fun h2 => ?_ <;> refine s_boxa 3 5 fun h3 => ?_ <;> refine s_alloc [(.int .i64 0), (.int .i64 0), (.slice none 0 0), (.slice none 0 0), (.slice none 0 0)] 5 4 tZr25_LfD fun h4 => ?_ <;> refine xL 5 q_assign ?_ <;> refine aL_end (nav ?_) <;> try dsimp only)
 (refine aC_region ?_ <;> (refine yL 8 (q_ldao 2 tAgg25_LdS) fun v8 hv8 => ?_; cases hv8) <;> (refine yL 9 (q_ldao 3 tAgg25_LdS) fun v9 hv9 => ?_; cases hv9) <;> (refine cS 10 (cA Tryz.call70 (hf)) fun v10 hv10 => ?_; cases hv10) <;> refine xL 6 q_assign ?_ <;> refine aL_end (nav ?_) <;> try dsimp only)
 (refine aC_region ?_ <;> refine xL 11 q_move ?_ <;> refine xL 12 q_neq ?_ <;> refine aL_end (nav ?_) <;> try dsimp only)
 (first | refine cCd ?_ ?_ | refine cC ?_ ?_) <;> intro hb12
 · first | omega | exact absurd rfl hb12 | exact Bool.noConfusion hb12
 · refine nav ?_
   (refine aC_region ?_ <;> (refine yL 15 (q_ldao 2 tAgg25_LdS) fun v15 hv15 => ?_; cases hv15) <;> (refine yL 16 (q_ldao 3 tAgg25_LdS) fun v16 hv16 => ?_; cases hv16) <;> (refine aL_ch [2, 3, 4] 17 (Tryz.call93) (aBeside_e a b ha.toAOk hb.toAOk _ _) ?_; rintro V17 _ _ ⟨hM, hMo, rfl, rfl⟩; have qM : En.one (PV.val hM) = true := hMo) <;> refine s_alloc [(.int .i64 0), (.int .i64 0), (.slice none 0 0), (.slice none 0 0), (.slice none 0 0)] 5 7 tZr25_LfD fun h7 => ?_ <;> refine s_sta 7 tAgg25_LdS ?_ <;> refine aL_end (nav ?_) <;> try dsimp only)
   (refine aC_draw (fun i => ([] : List Nat).elem i) [2, 3] (by kernel_rfl) ?_ <;> refine xD 0 18 rfl (q_fldo 2 tFl25_2_LdI) ?_ <;> (refine yD 1 19 rfl (q_ldo 2 tNa22_LdI) fun v19 hv19 => ?_; cases hv19) <;> refine xD 3 21 rfl (q_fldo 3 tFl25_2_LdI) ?_ <;> (refine yD 4 22 rfl (q_ldo 3 tNa22_LdI) fun v22 hv22 => ?_; cases hv22) <;> refine xD 5 23 rfl (q_fldo 2 tFl25_0_LdI) ?_ <;> (refine yD 6 24 rfl (q_ldo 2 tNa3_LbB) fun v24 hv24 => ?_; cases hv24) <;> (refine aD_one 2 (by kernel_rfl) ?_) <;> (refine aW_run rfl fun w9 M9 N9 DQ back => ?_) <;> refine cO 20 (cA Tryz.call51 (cloneIntW_e a.start (by omega))) fun v20 ho20 => ?_ <;> refine aL_end (back _ (nrm ?_)) <;> (refine aD_one 7 (by kernel_rfl) ?_) <;> (refine aW_run rfl fun w9 M9 N9 DQ back => ?_) <;> (refine cO 25 (cA Tryz.call87 (aShifted_e b.start a.n (by omega) (by omega) (fun x hx => by have := hb.st x hx; omega))) fun v25 ho25 => ?_; refine aL_ent (En.freeze (l := 25) (t := 25) rfl rfl) fun _ => ?_; rw [share_ints _ _ _ rfl]) <;> refine aL_end (back _ (nrm ?_)) <;> (refine aD_one 8 (by kernel_rfl) ?_) <;> (refine aW_run rfl fun w9 M9 N9 DQ back => ?_) <;> (refine s_apps 20 26 tEl22_LdI (fun h26 ho26 => ?_) (ints_len1 (addI a.n b.start)) (ints_one (addI a.n b.start)); have q26 : En.one (PV.val h26) = true := ho26) <;> refine aL_end (back _ (nrm ?_)) <;> refine xE 9 27 rfl (q_fldo 7 tFl25_2_LdI) ?_ <;> (refine aD_one 10 (by kernel_rfl) ?_) <;> (refine aW_run rfl fun w9 M9 N9 DQ back => ?_) <;> refine s_st 7 tNa22_LdI tSz22_LdK ?_ <;> refine aL_end (back _ (nrm ?_)) <;> refine aD_end (by kernel_rfl) (nav ?_) <;> try dsimp only)
   refine aC_ent (recast (l := 26) rfl (ints_app _ a.start (addI a.n b.start))) fun _ => ?_
   refine aC_ent (freezeCell (l := 7) (l' := 26) (j := 2) rfl rfl rfl rfl) fun _ => ?_
   rw [share_ints _ _ _ rfl]
   (refine aC_draw (fun i => ([] : List Nat).elem i) [2, 3] (by kernel_rfl) ?_ <;> refine xD 0 28 rfl (q_fldo 2 tFl25_3_LdI) ?_ <;> (refine yD 1 29 rfl (q_ldo 2 tNa22_LdI) fun v29 hv29 => ?_; cases hv29) <;> refine xD 3 31 rfl (q_fldo 3 tFl25_3_LdI) ?_ <;> (refine yD 4 32 rfl (q_ldo 3 tNa22_LdI) fun v32 hv32 => ?_; cases hv32) <;> refine xD 5 33 rfl (q_fldo 2 tFl25_0_LdI) ?_ <;> (refine yD 6 34 rfl (q_ldo 2 tNa3_LbB) fun v34 hv34 => ?_; cases hv34) <;> (refine aD_one 2 (by kernel_rfl) ?_) <;> (refine aW_run rfl fun w9 M9 N9 DQ back => ?_) <;> refine cO 30 (cA Tryz.call51 (cloneIntW_e a.fin (by omega))) fun v30 ho30 => ?_ <;> refine aL_end (back _ (nrm ?_)) <;> (refine aD_one 7 (by kernel_rfl) ?_) <;> (refine aW_run rfl fun w9 M9 N9 DQ back => ?_) <;> (refine cO 35 (cA Tryz.call87 (aShifted_e b.fin a.n (by omega) (by omega) (fun x hx => by have := hb.fi x hx; omega))) fun v35 ho35 => ?_; refine aL_ent (En.freeze (l := 35) (t := 35) rfl rfl) fun _ => ?_; rw [share_ints _ _ _ rfl]) <;> refine aL_end (back _ (nrm ?_)) <;> (refine aD_one 8 (by kernel_rfl) ?_) <;> (refine aW_run rfl fun w9 M9 N9 DQ back => ?_) <;> (refine s_apps 30 36 tEl22_LdI (fun h36 ho36 => ?_) (ints_len1 (addI a.n b.fin)) (ints_one (addI a.n b.fin)); have q36 : En.one (PV.val h36) = true := ho36) <;> refine aL_end (back _ (nrm ?_)) <;> refine xE 9 37 rfl (q_fldo 7 tFl25_3_LdI) ?_ <;> (refine aD_one 10 (by kernel_rfl) ?_) <;> (refine aW_run rfl fun w9 M9 N9 DQ back => ?_) <;> refine s_st 7 tNa22_LdI tSz22_LdK ?_ <;> refine aL_end (back _ (nrm ?_)) <;> refine aD_end (by kernel_rfl) (nav ?_) <;> try dsimp only)
   refine aC_ent (recast (l := 36) rfl (ints_app _ a.fin (addI a.n b.fin))) fun _ => ?_
   refine aC_ent (freezeCell (l := 7) (l' := 36) (j := 3) rfl rfl rfl rfl) fun _ => ?_
   rw [share_ints _ _ _ rfl]
   (refine aC_region ?_ <;> (refine yL 38 (q_ldao (k := 5) (ps := [pInt (a.n + b.n), pInt a.syms, pInts (a.start ++ addI a.n b.start), pInts (a.fin ++ addI a.n b.fin), PV.val hM]) 7 (by kernel_rfl)) fun v38 hv38 => ?_; cases hv38) <;> (refine aL_heap [(1000, hM, PV.own 72 3 (unionA a b).moves.length ((unionA a b).moves.flatMap cMv)), (2, _, _), (3, _, _), (4, _, _), (7, _, _)] ⟨rfl, rfl, rfl, rfl, rfl, trivial⟩ ?_; refine aL_ch [2, 3, 4, 7] 39 (Tryz.call88) (aMade_g (unionA a b) (by show (bsM a b).length ≤ 1000000; omega) (both_nodup ha hb) _ hM hMo r5 hr) ?_; rintro _ _ _ ⟨⟨V1, rfl⟩, rfl, rfl⟩) <;> refine xL 40 q_extract ?_ <;> refine xL 41 q_extract ?_ <;> refine s_sta 4 tAgg25_LdS ?_ <;> refine xL 5 q_assign ?_ <;> refine aL_end (nav ?_) <;> try dsimp only)
   exact ret_cs (k := 5) 4 (by kernel_rfl) (Tryz.results40) rfl rfl rfl (Nat.le_of_ble_eq_true rfl) (by decide) r5.s rfl
theorem aUnion_e (a b : Aut) : AF Tryz.prog 40 [pAut a, pAut b] (· = resW (unionX a b)) := by
 unfold unionX
 by_cases h0 : fitX a b = 0
 · rw [if_neg (fun h => h h0)]
   obtain ⟨ha, hb, hs⟩ := fit_vok h0
   obtain ⟨p0, p1, p2, p3, p4, E, h5, h2, hr⟩ := aReduced_5 (unionA a b) (by have := bsM_len ha.toAOk hb.toAOk; show (bsM a b).length ≤ 1000000; omega) (union_pre ha hb hs)
   rw [h2]; exact aUnion_g a b h0 h5 hr
 · rw [if_pos h0]
   exact aUnion_bad a b _ h0 (aFit_e a b)
theorem mul_bd {x y X Y : Int} (hx : 0 ≤ x ∧ x ≤ X) (hy : 0 ≤ y ∧ y ≤ Y) : 0 ≤ x * y ∧ x * y ≤ X * Y := ⟨Int.mul_nonneg hx.1 hy.1, Int.mul_le_mul hx.2 hy.2 hy.1 (by omega)⟩
def shLk (m : Int) (x : Mv) (j : Nat) : List Mv := (List.range j).map fun j => ⟨x.src * m + (j : Nat), x.dst * m + (j : Nat), x.sym⟩
theorem shLk_snoc (m : Int) (x : Mv) (j : Nat) : shLk m x (j + 1) = shLk m x j ++ [⟨x.src * m + (j : Nat), x.dst * m + (j : Nat), x.sym⟩] := by unfold shLk; rw [List.range_succ, List.map_append]; rfl
def shRk (m : Int) (x : Mv) (i : Nat) : List Mv := (List.range i).map fun i => ⟨(i : Nat) * m + x.src, (i : Nat) * m + x.dst, x.sym⟩
theorem shRk_snoc (m : Int) (x : Mv) (i : Nat) : shRk m x (i + 1) = shRk m x i ++ [⟨(i : Nat) * m + x.src, (i : Nat) * m + x.dst, x.sym⟩] := by unfold shRk; rw [List.range_succ, List.map_append]; rfl
def smA (a b : Aut) (k : Nat) : List Mv := (a.moves.take k).flatMap (shL b.n)
def smB (a b : Aut) (k : Nat) : List Mv := a.moves.flatMap (shL b.n) ++ (b.moves.take k).flatMap (shR a.n b.n)
theorem smA_snoc {a b : Aut} {k : Nat} {x : Mv} (h : a.moves[k]? = some x) : smA a b (k + 1) = smA a b k ++ shLk b.n x b.n.toNat := by unfold smA; rw [take_snoc h, List.flatMap_append, List.flatMap_singleton]; rfl
theorem smB_snoc {a b : Aut} {k : Nat} {x : Mv} (h : b.moves[k]? = some x) : smB a b (k + 1) = smB a b k ++ shRk b.n x a.n.toNat := by unfold smB; rw [take_snoc h, List.flatMap_append, List.flatMap_singleton, List.append_assoc]; rfl
theorem smA_all {a b : Aut} {k : Nat} (h : a.moves.length ≤ k) : smA a b k = smB a b 0 := by unfold smA smB; rw [List.take_of_length_le h]; exact (List.append_nil _).symm
theorem smB_all {a b : Aut} {k : Nat} (h : b.moves.length ≤ k) : smB a b k = (shufA a b).moves := by unfold smB; rw [List.take_of_length_le h]; rfl
theorem shuf_len (a b : Aut) : (shufA a b).moves.length = a.moves.length * b.n.toNat + b.moves.length * a.n.toNat := by
 show (a.moves.flatMap (shL b.n) ++ b.moves.flatMap (shR a.n b.n)).length = _
 rw [List.length_append, flat_len (shL_len b.n), flat_len (shR_len a.n b.n)]
theorem smA_part {a b : Aut} {k j : Nat} (x : Mv) (hk : k < a.moves.length) (hj : j ≤ b.n.toNat) : (smA a b k ++ shLk b.n x j).length ≤ (shufA a b).moves.length := by
 rw [shuf_len]
 unfold smA shLk
 rw [List.length_append, flat_len (shL_len b.n), List.length_take, List.length_map, List.length_range, Nat.min_eq_left (Nat.le_of_lt hk)]
 have h1 : (k + 1) * b.n.toNat ≤ a.moves.length * b.n.toNat := Nat.mul_le_mul_right _ hk
 rw [Nat.succ_mul] at h1
 omega
theorem smB_part {a b : Aut} {k i : Nat} (x : Mv) (hk : k < b.moves.length) (hi : i ≤ a.n.toNat) : (smB a b k ++ shRk b.n x i).length ≤ (shufA a b).moves.length := by
 rw [shuf_len]
 unfold smB shRk
 rw [List.length_append, List.length_append, flat_len (shL_len b.n), flat_len (shR_len a.n b.n), List.length_take, List.length_map, List.length_range, Nat.min_eq_left (Nat.le_of_lt hk)]
 have h1 : (k + 1) * a.n.toNat ≤ b.moves.length * a.n.toNat := Nat.mul_le_mul_right _ hk
 rw [Nat.succ_mul] at h1
 omega
theorem shI_snoc {m : Int} {l k : List Int} {i : Nat} {x : Int} (h : l[i]? = some x) : shI m (l.take (i + 1)) k = shI m (l.take i) k ++ addI (x * m) k := by unfold shI; rw [take_snoc h, List.flatMap_append, List.flatMap_singleton]
theorem shI_len (m : Int) (l k : List Int) : (shI m l k).length = l.length * k.length := flat_len (fun x => addI_len _ _) l
theorem aShuffle_bad (a b : Aut) (e : Int) (he : ¬ e = 0) (hf : AF Tryz.prog 70 [pAut a, pAut b] (· = pInt e)) : AF Tryz.prog 37 [pAut a, pAut b] (· = .tup [rawZ, pInt e]) := by
 refine AF.of_body 162 Tryz.func37 rfl Tryz.ntmps37 (Nat.le_of_ble_eq_true rfl) ?_
 intro w0 M0 vs hl hv
 obtain ⟨v0, v1, rfl⟩ := len2 hl
 clear hl hv
 refine nav ?_
 (refine aC_region ?_ <;> refine s_boxa 2 5 fun h2 => ?_ <;> refine s_boxa 3 5 fun h3 => ?_ <;> refine s_alloc [(.int .i64 0), (.int .i64 0), (.slice none 0 0), (.slice none 0 0), (.slice none 0 0)] 5 4 tZr25_LfD fun h4 => ?_ <;> refine xL 5 q_assign ?_ <;> refine aL_end (nav ?_) <;> try dsimp only)
 (refine aC_region ?_ <;> (refine yL 20 (q_ldao 2 tAgg25_LdS) fun v20 hv20 => ?_; cases hv20) <;> (refine yL 21 (q_ldao 3 tAgg25_LdS) fun v21 hv21 => ?_; cases hv21) <;> (refine cS 22 (cA Tryz.call70 (hf)) fun v22 hv22 => ?_; cases hv22) <;> refine xL 6 q_assign ?_ <;> refine aL_end (nav ?_) <;> try dsimp only)
 (refine aC_region ?_ <;> refine xL 23 q_move ?_ <;> refine xL 24 q_neq ?_ <;> refine aL_end (nav ?_) <;> try dsimp only)
 (first | refine cCd ?_ ?_ | refine cC ?_ ?_) <;> intro hb24
 · refine nav ?_
   (refine aC_region ?_ <;> refine xL 25 (q_build tSt25_LfD) ?_ <;> refine xL 26 q_move ?_ <;> refine s_sta 4 tAgg25_LdS ?_ <;> refine xL 5 q_assign ?_ <;> refine aL_end (nav ?_) <;> try dsimp only)
   exact ret_cs (k := 5) 4 (by kernel_rfl) (Tryz.results37) rfl rfl rfl (Nat.le_of_ble_eq_true rfl) (by decide) rfl rfl
 · exact absurd (by simpa using hb24) he
set_option maxHeartbeats 8000000 in
theorem aShuffle_g (a b : Aut) (hf0 : fitX a b = 0) {p0 p1 p2 p3 p4 : PV} {E : Int} (r5 : R5 p0 p1 p2 p3 p4) (hr : (shufA a b).moves.length ≤ 40000 → AF Tryz.prog 83 [pAut (mkA (shufA a b))] (· = .tup [.agg [p0, p1, p2, p3, p4], pInt E])) : AF Tryz.prog 37 [pAut a, pAut b] (· = if 2000 < a.n * b.n ∨ 40000 < (a.moves.length : Int) * b.n + (b.moves.length : Int) * a.n then .tup [rawZ, pInt 13] else .tup [.agg [p0, p1, p2, p3, p4], pInt E]) := by
 obtain ⟨o0, o1, o2, o3, o4⟩ := r5.o
 obtain ⟨ha, hb, hs⟩ := fit_vok hf0
 have hf := aFit_e a b
 rw [hf0] at hf
 have hn0 := ha.n0
 have hn1 := ha.n1
 have m0 := hb.n0
 have m1 := hb.n1
 have k1 := ha.sl
 have k2 := hb.sl
 have k3 := ha.fl
 have k4 := hb.fl
 have k5 := ha.ml
 have k6 := hb.ml
 have q1 := mul_bd (x := a.n) (y := b.n) ⟨hn0, hn1⟩ ⟨m0, m1⟩
 have q2 := mul_bd (x := (a.moves.length : Int)) (y := b.n) (X := 20000) ⟨by omega, by omega⟩ ⟨m0, m1⟩
 have q3 := mul_bd (x := (b.moves.length : Int)) (y := a.n) (X := 20000) ⟨by omega, by omega⟩ ⟨hn0, hn1⟩
 have eN : ((a.n.toNat : Nat) : Int) = a.n := Int.toNat_of_nonneg hn0
 have eM : ((b.n.toNat : Nat) : Int) = b.n := Int.toNat_of_nonneg m0
 have q4 : (((shufA a b).moves.length : Nat) : Int) = (a.moves.length : Int) * b.n + (b.moves.length : Int) * a.n := by
  rw [shuf_len, Int.natCast_add, Int.natCast_mul, Int.natCast_mul, eN, eM]
 refine AF.of_body 162 Tryz.func37 rfl Tryz.ntmps37 (Nat.le_of_ble_eq_true rfl) ?_
 intro w0 M0 vs hl hv
 obtain ⟨v0, v1, rfl⟩ := len2 hl
 clear hl hv
 refine nav ?_
 (refine aC_region ?_ <;> refine s_boxa 2 5 fun h2 => ?_ <;> refine s_boxa 3 5 fun h3 => ?_ <;> refine s_alloc [(.int .i64 0), (.int .i64 0), (.slice none 0 0), (.slice none 0 0), (.slice none 0 0)] 5 4 tZr25_LfD fun h4 => ?_ <;> refine xL 5 q_assign ?_ <;> refine aL_end (nav ?_) <;> try dsimp only)
 (refine aC_region ?_ <;> (refine yL 20 (q_ldao 2 tAgg25_LdS) fun v20 hv20 => ?_; cases hv20) <;> (refine yL 21 (q_ldao 3 tAgg25_LdS) fun v21 hv21 => ?_; cases hv21) <;> (refine cS 22 (cA Tryz.call70 (hf)) fun v22 hv22 => ?_; cases hv22) <;> refine xL 6 q_assign ?_ <;> refine aL_end (nav ?_) <;> try dsimp only)
 (refine aC_region ?_ <;> refine xL 23 q_move ?_ <;> refine xL 24 q_neq ?_ <;> refine aL_end (nav ?_) <;> try dsimp only)
 (first | refine cCd ?_ ?_ | refine cC ?_ ?_) <;> intro hb24
 · first | omega | exact absurd rfl hb24 | exact Bool.noConfusion hb24
 · refine nav ?_
   (refine aC_draw (fun i => ([] : List Nat).elem i) [2, 3] (by kernel_rfl) ?_ <;> refine xD 0 27 rfl (q_fldo 2 tFl25_0_LdI) ?_ <;> (refine yD 1 28 rfl (q_ldo 2 tNa3_LbB) fun v28 hv28 => ?_; cases hv28) <;> refine xD 2 29 rfl (q_fldo 3 tFl25_0_LdI) ?_ <;> (refine yD 3 30 rfl (q_ldo 3 tNa3_LbB) fun v30 hv30 => ?_; cases hv30) <;> refine xE 4 7 rfl q_assign ?_ <;> refine xE 5 8 rfl q_assign ?_ <;> refine aD_end (by kernel_rfl) (nav ?_) <;> try dsimp only)
   (refine aC_region ?_ <;> refine xL 31 q_move ?_ <;> refine xL 32 q_move ?_ <;> refine xL 33 q_mul ?_ <;> refine xL 34 q_gtr ?_ <;> refine xL 35 q_move ?_ <;> (refine bLd 35 (fun hb35 => ?_) (fun hb35 => ?_) <;> (first | refine kL 36 ?_ | refine xL 36 (q_fldo 2 tFl25_4_LdI) ?_)) <;> (first | refine kL 37 ?_ | (refine yL 37 (q_ldo 2 tNa23_LdI) fun v37 hv37 => ?_; cases hv37)) <;> (first | refine kL 38 ?_ | refine xL 38 (q_len tSl23_LdI) ?_) <;> (first | refine kL 39 ?_ | refine xL 39 q_move ?_) <;> (first | refine kL 40 ?_ | refine xL 40 q_mul ?_) <;> (first | refine kL 41 ?_ | refine xL 41 (q_fldo 3 tFl25_4_LdI) ?_) <;> (first | refine kL 42 ?_ | (refine yL 42 (q_ldo 3 tNa23_LdI) fun v42 hv42 => ?_; cases hv42)) <;> (first | refine kL 43 ?_ | refine xL 43 (q_len tSl23_LdI) ?_) <;> (first | refine kL 44 ?_ | refine xL 44 q_move ?_) <;> (first | refine kL 45 ?_ | refine xL 45 q_mul ?_) <;> (first | refine kL 46 ?_ | refine xL 46 q_add ?_) <;> (first | refine kL 47 ?_ | refine xL 47 q_gtr ?_) <;> refine xL 48 q_pick ?_ <;> refine aL_end (nav ?_) <;> try dsimp only) <;> (
    (first | refine cCd ?_ ?_ | refine cC ?_ ?_) <;> intro hb48
    · first
      | exact Bool.noConfusion hb48
      | (
       refine nav ?_
       (refine aC_region ?_ <;> refine xL 49 (q_build tSt25_LfD) ?_ <;> refine s_sta 4 tAgg25_LdS ?_ <;> refine xL 5 q_assign ?_ <;> refine aL_end (nav ?_) <;> try dsimp only)
       exact ret_cs (k := 5) 4 (by kernel_rfl) (Tryz.results37) rfl rfl rfl (Nat.le_of_ble_eq_true rfl) (by decide) rfl (by rw [if_pos (by omega)]; rfl))
    · first
      | exact Bool.noConfusion hb48
      | (
       refine nav ?_
       have hnl : ¬ 2000 < a.n * b.n ∧ (shufA a b).moves.length ≤ 40000 := by omega
       have hr := hr hnl.2
       have hnm := hnl.1
       have hml := hnl.2
       (refine aC_region ?_ <;> refine xL 50 q_move ?_ <;> refine xL 51 q_move ?_ <;> refine xL 52 q_mul ?_ <;> refine xL 53 (q_fldo 2 tFl25_1_LdI) ?_ <;> (refine yL 54 (q_ldo 2 tNa3_LbB) fun v54 hv54 => ?_; cases hv54) <;> refine xL 55 (q_build tSt25_LfD) ?_ <;> refine s_alloc [(.int .i64 0), (.int .i64 0), (.slice none 0 0), (.slice none 0 0), (.slice none 0 0)] 5 9 tZr25_LfD fun h9 => ?_ <;> refine s_sta 9 tAgg25_LdS ?_ <;> refine aL_end (nav ?_) <;> try dsimp only)
       refine aC_ent (nilCells (l := 9) [pInt (a.n * b.n), pInt a.syms, .own 3 1 0 [], .own 3 1 0 [], .own 72 3 0 []] rfl rfl (fun i p p' h1 h2 => by
        match i with
        | 0 => cases h1; cases h2; exact .inl rfl
        | 1 => cases h1; cases h2; exact .inl rfl
        | 2 => cases h1; cases h2; exact .inr ⟨rfl, _, _, rfl⟩
        | 3 => cases h1; cases h2; exact .inr ⟨rfl, _, _, rfl⟩
        | 4 => cases h1; cases h2; exact .inr ⟨rfl, _, _, rfl⟩
        | i + 5 => simp at h2)) fun _ => ?_
       refine aC_ent (focusO (l := 9) (l' := 302) (j := 2) rfl rfl rfl rfl) fun i => ?_
       obtain ⟨v302, ho302⟩ := i
       dsimp only [List.set]
       refine aC_ent (focusO (l := 9) (l' := 303) (j := 3) rfl rfl rfl rfl) fun i => ?_
       obtain ⟨v303, ho303⟩ := i
       dsimp only [List.set]
       refine aC_ent (focusO (l := 9) (l' := 1000) (j := 4) rfl rfl rfl rfl) fun i => ?_
       obtain ⟨v1000, ho1000⟩ := i
       dsimp only [List.set]
       have qo2 : En.one (PV.val v302) = true := ho302
       have qo3 : En.one (PV.val v303) = true := ho303
       refine aC_ent (recast (l := 1000) (p' := .own 72 3 (smA a b 0).length ((smA a b 0).flatMap cMv)) rfl rfl) fun _ => ?_
       (refine aC_region ?_ <;> refine xL 56 (q_fldo 2 tFl25_4_LdI) ?_ <;> (refine yL 57 (q_ldo 2 tNa23_LdI) fun v57 hv57 => ?_; cases hv57) <;> refine xL 58 (q_len tSl23_LdI) ?_ <;> refine xL 59 q_move ?_ <;> refine aL_end (nav ?_) <;> try dsimp only)
       refine aC_loop (ι := { q : Nat × Value // q.1 ≤ a.moves.length ∧ q.2.oneCell' = true }) (fun k => ⟨[(2, _, _), (3, _, _), (4, _, _), (7, _, _), (8, _, _), (9, _, _), (57, _, _), (58, _, _), (59, .int .i64 k.1.1, pInt k.1.1)], [(2, _, _), (3, _, _), (4, _, _), (302, _, _), (303, _, _), (9, h9, .own 25 5 1 [pInt (a.n * b.n), pInt a.syms, .val v302, .val v303, .val k.1.2]), (1000, k.1.2, .own 72 3 (smA a b k.1.1).length ((smA a b k.1.1).flatMap cMv))]⟩) (fun k => a.moves.length - k.1.1) ⟨(0, v1000), Nat.zero_le _, ho1000⟩ (fun a w H => H.weaken ⟨rfl, rfl, rfl, rfl, rfl, rfl, rfl, rfl, rfl, trivial⟩ ⟨rfl, rfl, rfl, rfl, rfl, rfl, rfl, trivial⟩) ?_
       rintro ⟨⟨c, hI⟩, hc, hIo⟩
       dsimp only
       dsimp only at hc hIo
       have q5 : En.one (PV.val hI) = true := hIo
       refine nav ?_
       (refine aC_region ?_ <;> refine xL 60 q_lss ?_ <;> refine aL_end (nav ?_) <;> try dsimp only)
       (first | refine cCd ?_ ?_ | refine cC ?_ ?_) <;> intro hb60
       · first
         | exact Bool.noConfusion hb60
         | (
          obtain ⟨x, hx⟩ := get_some (show c < a.moves.length by omega)
          have e1 := flat_drop cMv_len a.moves c x hx
          have e2 := flat_fit cMv_len hx
          have hxb := ha.mv x (List.mem_of_getElem? hx)
          have hx1 := mul_bd (x := x.src) (y := b.n) (X := 2000) ⟨hxb.1, by omega⟩ ⟨m0, m1⟩
          have hx2 := mul_bd (x := x.dst) (y := b.n) (X := 2000) ⟨hxb.2.2.1, by omega⟩ ⟨m0, m1⟩
          refine nav ?_
          (refine aC_region ?_ <;> refine xL 61 (q_idxN tSl23_LdI) ?_ <;> (refine yL 62 (q_lda tAgg72_LdI) fun v62 hv62 => ?_; cases hv62) <;> refine s_alloc [(.int .i64 0), (.int .i64 0), (.int .i64 0)] 3 11 tZr72_LdI fun h11 => ?_ <;> refine s_sta 11 tAgg72_LdI ?_ <;> refine aL_end (nav ?_) <;> try dsimp only)
          (refine aC_region ?_ <;> refine xL 63 q_move ?_ <;> refine xL 64 q_move ?_ <;> refine aL_end (nav ?_) <;> try dsimp only)
          refine aC_ent (recast (l := 1000) (p' := .own 72 3 (smA a b c ++ shLk b.n x 0).length ((smA a b c ++ shLk b.n x 0).flatMap cMv)) rfl (by rw [show shLk b.n x 0 = [] from rfl, List.append_nil])) fun _ => ?_
          refine aC_loop (ι := { q : Nat × Value // q.1 ≤ b.n.toNat ∧ q.2.oneCell' = true }) (fun k => ⟨[(2, _, _), (3, _, _), (4, _, _), (7, _, _), (8, _, _), (9, _, _), (11, _, _), (57, _, _), (58, _, _), (59, _, _), (63, _, _), (64, .int .i64 k.1.1, pInt k.1.1)], [(2, _, _), (3, _, _), (4, _, _), (11, _, _), (302, _, _), (303, _, _), (9, h9, .own 25 5 1 [pInt (a.n * b.n), pInt a.syms, .val v302, .val v303, .val k.1.2]), (1000, k.1.2, .own 72 3 (smA a b c ++ shLk b.n x k.1.1).length ((smA a b c ++ shLk b.n x k.1.1).flatMap cMv))]⟩) (fun k => b.n.toNat - k.1.1) ⟨(0, hI), Nat.zero_le _, hIo⟩ (fun a w H => H.weaken ⟨rfl, rfl, rfl, rfl, rfl, rfl, rfl, rfl, rfl, rfl, rfl, rfl, trivial⟩ ⟨rfl, rfl, rfl, rfl, rfl, rfl, rfl, rfl, trivial⟩) ?_
          rintro ⟨⟨j, hJ⟩, hj, hJo⟩
          dsimp only
          dsimp only at hj hJo
          have q6 : En.one (PV.val hJ) = true := hJo
          have hpt := smA_part x (lt_of_get hx) hj
          refine nav ?_
          (refine aC_region ?_ <;> refine xL 65 q_lss ?_ <;> refine aL_end (nav ?_) <;> try dsimp only)
          (first | refine cCd ?_ ?_ | refine cC ?_ ?_) <;> intro hb65
          · first
            | exact Bool.noConfusion hb65
            | (
             refine nav ?_
             (refine aC_region ?_ <;> refine xL 66 q_move ?_ <;> refine xL 12 q_assign ?_ <;> refine aL_end (nav ?_) <;> try dsimp only)
             (refine aC_region ?_ <;> refine xL 67 (q_fldo 9 tFl25_4_LdI) ?_ <;> (refine yL 68 (q_ldo 9 tNa23_LdI) fun v68 hv68 => ?_; cases hv68) <;> refine xL 69 (q_fldo 11 tFl72_0_LdI) ?_ <;> (refine yL 70 (q_ldo 11 tNa3_LbB) fun v70 hv70 => ?_; cases hv70) <;> refine xL 71 q_move ?_ <;> refine xL 72 q_mul ?_ <;> refine xL 73 q_move ?_ <;> refine xL 74 q_add ?_ <;> refine xL 75 (q_fldo 11 tFl72_1_LdI) ?_ <;> (refine yL 76 (q_ldo 11 tNa3_LbB) fun v76 hv76 => ?_; cases hv76) <;> refine xL 77 q_move ?_ <;> refine xL 78 q_mul ?_ <;> refine xL 79 q_move ?_ <;> refine xL 80 q_add ?_ <;> refine xL 81 (q_fldo 11 tFl72_2_LdI) ?_ <;> (refine yL 82 (q_ldo 11 tNa3_LbB) fun v82 hv82 => ?_; cases hv82) <;> refine xL 83 (q_build tSt72_LfD) ?_ <;> refine s_lit1a 84 tEl23_LdR fun h84 ho84 => ?_ <;> (refine s_app 1000 84 85 tEl23_LdR fun h85 ho85 => ?_; refine aL_ent (relabel (l := 85) 1000 rfl rfl) fun _ => ?_; refine aL_ent (recast (l := 1000) rfl ((snoc_mv _ (smA a b c ++ shLk b.n x j) ⟨x.src * b.n + (j : Nat), x.dst * b.n + (j : Nat), x.sym⟩).trans (by rw [List.append_assoc, ← shLk_snoc]))) fun _ => ?_; have q85 : En.one (PV.val h85) = true := ho85) <;> refine xL 86 (q_fldo 9 tFl25_4_LdI) ?_ <;> refine s_st 9 tNa23_LdI tSz23_LdR ?_ <;> refine aL_end (nav ?_) <;> try dsimp only)
             (refine aC_region ?_ <;> refine xL 87 q_add ?_ <;> refine xL 64 q_move ?_ <;> refine aL_end (nav ?_) <;> try dsimp only)
             refine aN_again (
              ⟨(j + 1, h85), by dsimp only; omega, ho85⟩
              ) (by dsimp only; omega) ⟨rfl, rfl, rfl, rfl, rfl, rfl, rfl, rfl, rfl, rfl, rfl, rfl, trivial⟩ ⟨rfl, rfl, rfl, rfl, rfl, rfl, rfl, rfl, trivial⟩)
          · first
            | exact Bool.noConfusion hb65
            | (
             refine aC_ent (recast (l := 1000) (p' := .own 72 3 (smA a b (c + 1)).length ((smA a b (c + 1)).flatMap cMv)) rfl (by rw [show smA a b c ++ shLk b.n x j = smA a b (c + 1) by rw [smA_snoc hx, show j = b.n.toNat by omega]])) fun _ => ?_
             refine nav ?_
             (refine aC_region ?_ <;> refine xL 88 q_add ?_ <;> refine xL 59 q_move ?_ <;> refine aL_end (nav ?_) <;> try dsimp only)
             refine aN_again (
              ⟨(c + 1, hJ), lt_of_get hx, hJo⟩
              ) (by dsimp only; omega) ⟨rfl, rfl, rfl, rfl, rfl, rfl, rfl, rfl, rfl, trivial⟩ ⟨rfl, rfl, rfl, rfl, rfl, rfl, rfl, trivial⟩))
       · first
         | exact Bool.noConfusion hb60
         | (
          rw [smA_all (show a.moves.length ≤ c by omega)]
          refine nav ?_
          (refine aC_region ?_ <;> refine xL 89 (q_fldo 3 tFl25_4_LdI) ?_ <;> (refine yL 90 (q_ldo 3 tNa23_LdI) fun v90 hv90 => ?_; cases hv90) <;> refine xL 91 (q_len tSl23_LdI) ?_ <;> refine xL 92 q_move ?_ <;> refine aL_end (nav ?_) <;> try dsimp only)
          refine aC_loop (ι := { q : Nat × Value // q.1 ≤ b.moves.length ∧ q.2.oneCell' = true }) (fun k => ⟨[(2, _, _), (3, _, _), (4, _, _), (7, _, _), (8, _, _), (9, _, _), (90, _, _), (91, _, _), (92, .int .i64 k.1.1, pInt k.1.1)], [(2, _, _), (3, _, _), (4, _, _), (302, _, _), (303, _, _), (9, h9, .own 25 5 1 [pInt (a.n * b.n), pInt a.syms, .val v302, .val v303, .val k.1.2]), (1000, k.1.2, .own 72 3 (smB a b k.1.1).length ((smB a b k.1.1).flatMap cMv))]⟩) (fun k => b.moves.length - k.1.1) ⟨(0, hI), Nat.zero_le _, hIo⟩ (fun a w H => H.weaken ⟨rfl, rfl, rfl, rfl, rfl, rfl, rfl, rfl, rfl, trivial⟩ ⟨rfl, rfl, rfl, rfl, rfl, rfl, rfl, trivial⟩) ?_
          rintro ⟨⟨u, hU⟩, hu, hUo⟩
          dsimp only
          dsimp only at hu hUo
          have q7 : En.one (PV.val hU) = true := hUo
          refine nav ?_
          (refine aC_region ?_ <;> refine xL 93 q_lss ?_ <;> refine aL_end (nav ?_) <;> try dsimp only)
          (first | refine cCd ?_ ?_ | refine cC ?_ ?_) <;> intro hb93
          · first
            | exact Bool.noConfusion hb93
            | (
             obtain ⟨y, hy⟩ := get_some (show u < b.moves.length by omega)
             have e3 := flat_drop cMv_len b.moves u y hy
             have e4 := flat_fit cMv_len hy
             have hyb := hb.mv y (List.mem_of_getElem? hy)
             refine nav ?_
             (refine aC_region ?_ <;> refine xL 94 (q_idxN tSl23_LdI) ?_ <;> (refine yL 95 (q_lda tAgg72_LdI) fun v95 hv95 => ?_; cases hv95) <;> refine s_alloc [(.int .i64 0), (.int .i64 0), (.int .i64 0)] 3 14 tZr72_LdI fun h14 => ?_ <;> refine s_sta 14 tAgg72_LdI ?_ <;> refine aL_end (nav ?_) <;> try dsimp only)
             (refine aC_region ?_ <;> refine xL 96 q_move ?_ <;> refine xL 97 q_move ?_ <;> refine aL_end (nav ?_) <;> try dsimp only)
             refine aC_ent (recast (l := 1000) (p' := .own 72 3 (smB a b u ++ shRk b.n y 0).length ((smB a b u ++ shRk b.n y 0).flatMap cMv)) rfl (by rw [show shRk b.n y 0 = [] from rfl, List.append_nil])) fun _ => ?_
             refine aC_loop (ι := { q : Nat × Value // q.1 ≤ a.n.toNat ∧ q.2.oneCell' = true }) (fun k => ⟨[(2, _, _), (3, _, _), (4, _, _), (7, _, _), (8, _, _), (9, _, _), (14, _, _), (90, _, _), (91, _, _), (92, _, _), (96, _, _), (97, .int .i64 k.1.1, pInt k.1.1)], [(2, _, _), (3, _, _), (4, _, _), (14, _, _), (302, _, _), (303, _, _), (9, h9, .own 25 5 1 [pInt (a.n * b.n), pInt a.syms, .val v302, .val v303, .val k.1.2]), (1000, k.1.2, .own 72 3 (smB a b u ++ shRk b.n y k.1.1).length ((smB a b u ++ shRk b.n y k.1.1).flatMap cMv))]⟩) (fun k => a.n.toNat - k.1.1) ⟨(0, hU), Nat.zero_le _, hUo⟩ (fun a w H => H.weaken ⟨rfl, rfl, rfl, rfl, rfl, rfl, rfl, rfl, rfl, rfl, rfl, rfl, trivial⟩ ⟨rfl, rfl, rfl, rfl, rfl, rfl, rfl, rfl, trivial⟩) ?_
             rintro ⟨⟨i, hV⟩, hi, hVo⟩
             dsimp only
             dsimp only at hi hVo
             have q8 : En.one (PV.val hV) = true := hVo
             have hpt2 := smB_part y (lt_of_get hy) hi
             have hx3 := mul_bd (x := (i : Int)) (y := b.n) (X := 2000) ⟨by omega, by omega⟩ ⟨m0, m1⟩
             refine nav ?_
             (refine aC_region ?_ <;> refine xL 98 q_lss ?_ <;> refine aL_end (nav ?_) <;> try dsimp only)
             (first | refine cCd ?_ ?_ | refine cC ?_ ?_) <;> intro hb98
             · first
               | exact Bool.noConfusion hb98
               | (
                refine nav ?_
                (refine aC_region ?_ <;> refine xL 99 q_move ?_ <;> refine xL 15 q_assign ?_ <;> refine aL_end (nav ?_) <;> try dsimp only)
                (refine aC_region ?_ <;> refine xL 100 (q_fldo 9 tFl25_4_LdI) ?_ <;> (refine yL 101 (q_ldo 9 tNa23_LdI) fun v101 hv101 => ?_; cases hv101) <;> refine xL 102 q_move ?_ <;> refine xL 103 q_move ?_ <;> refine xL 104 q_mul ?_ <;> refine xL 105 (q_fldo 14 tFl72_0_LdI) ?_ <;> (refine yL 106 (q_ldo 14 tNa3_LbB) fun v106 hv106 => ?_; cases hv106) <;> refine xL 107 q_add ?_ <;> refine xL 108 q_move ?_ <;> refine xL 109 q_move ?_ <;> refine xL 110 q_mul ?_ <;> refine xL 111 (q_fldo 14 tFl72_1_LdI) ?_ <;> (refine yL 112 (q_ldo 14 tNa3_LbB) fun v112 hv112 => ?_; cases hv112) <;> refine xL 113 q_add ?_ <;> refine xL 114 (q_fldo 14 tFl72_2_LdI) ?_ <;> (refine yL 115 (q_ldo 14 tNa3_LbB) fun v115 hv115 => ?_; cases hv115) <;> refine xL 116 (q_build tSt72_LfD) ?_ <;> refine s_lit1a 117 tEl23_LdR fun h117 ho117 => ?_ <;> (refine s_app 1000 117 118 tEl23_LdR fun h118 ho118 => ?_; refine aL_ent (relabel (l := 118) 1000 rfl rfl) fun _ => ?_; refine aL_ent (recast (l := 1000) rfl ((snoc_mv _ (smB a b u ++ shRk b.n y i) ⟨(i : Nat) * b.n + y.src, (i : Nat) * b.n + y.dst, y.sym⟩).trans (by rw [List.append_assoc, ← shRk_snoc]))) fun _ => ?_; have q118 : En.one (PV.val h118) = true := ho118) <;> refine xL 119 (q_fldo 9 tFl25_4_LdI) ?_ <;> refine s_st 9 tNa23_LdI tSz23_LdR ?_ <;> refine aL_end (nav ?_) <;> try dsimp only)
                (refine aC_region ?_ <;> refine xL 120 q_add ?_ <;> refine xL 97 q_move ?_ <;> refine aL_end (nav ?_) <;> try dsimp only)
                refine aN_again (
                 ⟨(i + 1, h118), by dsimp only; omega, ho118⟩
                 ) (by dsimp only; omega) ⟨rfl, rfl, rfl, rfl, rfl, rfl, rfl, rfl, rfl, rfl, rfl, rfl, trivial⟩ ⟨rfl, rfl, rfl, rfl, rfl, rfl, rfl, rfl, trivial⟩)
             · first
               | exact Bool.noConfusion hb98
               | (
                refine aC_ent (recast (l := 1000) (p' := .own 72 3 (smB a b (u + 1)).length ((smB a b (u + 1)).flatMap cMv)) rfl (by rw [show smB a b u ++ shRk b.n y i = smB a b (u + 1) by rw [smB_snoc hy, show i = a.n.toNat by omega]])) fun _ => ?_
                refine nav ?_
                (refine aC_region ?_ <;> refine xL 121 q_add ?_ <;> refine xL 92 q_move ?_ <;> refine aL_end (nav ?_) <;> try dsimp only)
                refine aN_again (
                 ⟨(u + 1, hV), lt_of_get hy, hVo⟩
                 ) (by dsimp only; omega) ⟨rfl, rfl, rfl, rfl, rfl, rfl, rfl, rfl, rfl, trivial⟩ ⟨rfl, rfl, rfl, rfl, rfl, rfl, rfl, trivial⟩))
          · first
            | exact Bool.noConfusion hb93
            | (
             rw [smB_all (show b.moves.length ≤ u by omega)]
             refine nav ?_
             (refine aC_region ?_ <;> refine xL 122 (q_fldo 2 tFl25_2_LdI) ?_ <;> (refine yL 123 (q_ldo 2 tNa22_LdI) fun v123 hv123 => ?_; cases hv123) <;> refine xL 124 (q_len tSl22_LbB) ?_ <;> refine xL 125 q_move ?_ <;> refine aL_end (nav ?_) <;> try dsimp only)
             refine aC_ent (recast (l := 302) (p' := .own 3 1 (shI b.n (a.start.take 0) b.start).length ((shI b.n (a.start.take 0) b.start).map pInt)) rfl rfl) fun _ => ?_
             refine aC_loop (ι := { q : Nat × Value // q.1 ≤ a.start.length ∧ q.2.oneCell' = true }) (fun k => ⟨[(2, _, _), (3, _, _), (4, _, _), (7, _, _), (8, _, _), (9, _, _), (123, _, _), (124, _, _), (125, .int .i64 k.1.1, pInt k.1.1)], [(2, _, _), (3, _, _), (4, _, _), (303, _, _), (1000, _, _), (9, h9, .own 25 5 1 [pInt (a.n * b.n), pInt a.syms, .val k.1.2, .val v303, .val hU]), (302, k.1.2, .own 3 1 (shI b.n (a.start.take k.1.1) b.start).length ((shI b.n (a.start.take k.1.1) b.start).map pInt))]⟩) (fun k => a.start.length - k.1.1) ⟨(0, v302), Nat.zero_le _, ho302⟩ (fun a w H => H.weaken ⟨rfl, rfl, rfl, rfl, rfl, rfl, rfl, rfl, rfl, trivial⟩ ⟨rfl, rfl, rfl, rfl, rfl, rfl, rfl, trivial⟩) ?_
             rintro ⟨⟨s, hS⟩, hs', hSo⟩
             dsimp only
             dsimp only at hs' hSo
             have q9 : En.one (PV.val hS) = true := hSo
             have hSl : (shI b.n (a.start.take s) b.start).length ≤ 2000 * 2000 := by rw [shI_len, List.length_take]; exact Nat.mul_le_mul (by omega) k2
             refine nav ?_
             (refine aC_region ?_ <;> refine xL 126 q_lss ?_ <;> refine aL_end (nav ?_) <;> try dsimp only)
             (first | refine cCd ?_ ?_ | refine cC ?_ ?_) <;> intro hb126
             · first
               | exact Bool.noConfusion hb126
               | (
                obtain ⟨z, hz⟩ := get_some (show s < a.start.length by omega)
                have e5 := map_at (f := pInt) hz
                have hzb := ha.st z (List.mem_of_getElem? hz)
                have hz1 := mul_bd (x := z) (y := b.n) (X := a.n) (Y := b.n) ⟨hzb.1, by omega⟩ ⟨m0, Int.le_refl _⟩
                have hal := addI_len (z * b.n) b.start
                refine nav ?_
                (refine aC_region ?_ <;> refine xL 127 (q_idxN tSl22_LbB) ?_ <;> (refine yL 128 (q_ld tNa3_LbB) fun v128 hv128 => ?_; cases hv128) <;> refine xL 17 q_assign ?_ <;> refine aL_end (nav ?_) <;> try dsimp only)
                (refine aC_draw (fun i => ([10] : List Nat).elem i) [3, 9] (by kernel_rfl) ?_ <;> refine xD 0 129 rfl (q_fldo 9 tFl25_2_LdI) ?_ <;> (refine yD 1 130 rfl (q_ldo 9 tNa22_LdI) fun v130 hv130 => ?_; cases hv130) <;> refine xD 2 131 rfl (q_fldo 3 tFl25_2_LdI) ?_ <;> (refine yD 3 132 rfl (q_ldo 3 tNa22_LdI) fun v132 hv132 => ?_; cases hv132) <;> refine xD 4 133 rfl q_move ?_ <;> refine xE 5 134 rfl q_move ?_ <;> refine xE 6 135 rfl q_mul ?_ <;> (refine aD_one 7 (by kernel_rfl) ?_) <;> (refine aW_run rfl fun w9 M9 N9 DQ back => ?_) <;> (refine cO 136 (cA Tryz.call87 (aShifted_e b.start (z * b.n) (by omega) (by omega) (fun x hx => by have := hb.st x hx; omega))) fun v136 ho136 => ?_; refine aL_ent (En.freeze (l := 136) (t := 136) rfl rfl) fun _ => ?_; rw [share_ints _ _ _ rfl]) <;> refine aL_end (back _ (nrm ?_)) <;> (refine aD_one 8 (by kernel_rfl) ?_) <;> (refine aW_run rfl fun w9 M9 N9 DQ back => ?_) <;> (refine s_apps 302 137 tEl22_LdI (fun h137 ho137 => ?_) (ints_len1 (addI (z * b.n) b.start)) (ints_one (addI (z * b.n) b.start)); have q137 : En.one (PV.val h137) = true := ho137; refine aL_ent (relabel (l := 137) 302 rfl rfl) fun _ => ?_; refine aL_ent (recast (l := 302) rfl ((ints_app _ (shI b.n (a.start.take s) b.start) (addI (z * b.n) b.start)).trans (by rw [← shI_snoc hz]))) fun _ => ?_) <;> refine aL_end (back _ (nrm ?_)) <;> refine xE 9 138 rfl (q_fldo 9 tFl25_2_LdI) ?_ <;> (refine aD_one 10 (by kernel_rfl) ?_) <;> (refine aW_last rfl rfl (by kernel_rfl) fun DQ back => ?_) <;> refine s_st 9 tNa22_LdI tSz22_LdK ?_ <;> refine aL_end (back _ (nav ?_)) <;> try dsimp only)
                (refine aC_region ?_ <;> refine xL 139 q_add ?_ <;> refine xL 125 q_move ?_ <;> refine aL_end (nav ?_) <;> try dsimp only)
                refine aN_again (
                 ⟨(s + 1, h137), lt_of_get hz, ho137⟩
                 ) (by dsimp only; omega) ⟨rfl, rfl, rfl, rfl, rfl, rfl, rfl, rfl, rfl, trivial⟩ ⟨rfl, rfl, rfl, rfl, rfl, rfl, rfl, trivial⟩)
             · first
               | exact Bool.noConfusion hb126
               | (
                rw [List.take_of_length_le (show a.start.length ≤ s by omega)]
                refine nav ?_
                (refine aC_region ?_ <;> refine xL 140 (q_fldo 2 tFl25_3_LdI) ?_ <;> (refine yL 141 (q_ldo 2 tNa22_LdI) fun v141 hv141 => ?_; cases hv141) <;> refine xL 142 (q_len tSl22_LbB) ?_ <;> refine xL 143 q_move ?_ <;> refine aL_end (nav ?_) <;> try dsimp only)
                refine aC_ent (recast (l := 303) (p' := .own 3 1 (shI b.n (a.fin.take 0) b.fin).length ((shI b.n (a.fin.take 0) b.fin).map pInt)) rfl rfl) fun _ => ?_
                refine aC_loop (ι := { q : Nat × Value // q.1 ≤ a.fin.length ∧ q.2.oneCell' = true }) (fun k => ⟨[(2, _, _), (3, _, _), (4, _, _), (7, _, _), (8, _, _), (9, _, _), (141, _, _), (142, _, _), (143, .int .i64 k.1.1, pInt k.1.1)], [(2, _, _), (3, _, _), (4, _, _), (302, _, _), (1000, _, _), (9, h9, .own 25 5 1 [pInt (a.n * b.n), pInt a.syms, .val hS, .val k.1.2, .val hU]), (303, k.1.2, .own 3 1 (shI b.n (a.fin.take k.1.1) b.fin).length ((shI b.n (a.fin.take k.1.1) b.fin).map pInt))]⟩) (fun k => a.fin.length - k.1.1) ⟨(0, v303), Nat.zero_le _, ho303⟩ (fun a w H => H.weaken ⟨rfl, rfl, rfl, rfl, rfl, rfl, rfl, rfl, rfl, trivial⟩ ⟨rfl, rfl, rfl, rfl, rfl, rfl, rfl, trivial⟩) ?_
                rintro ⟨⟨t, hT⟩, ht, hTo⟩
                dsimp only
                dsimp only at ht hTo
                have q10 : En.one (PV.val hT) = true := hTo
                have hTl : (shI b.n (a.fin.take t) b.fin).length ≤ 2000 * 2000 := by rw [shI_len, List.length_take]; exact Nat.mul_le_mul (by omega) k4
                refine nav ?_
                (refine aC_region ?_ <;> refine xL 144 q_lss ?_ <;> refine aL_end (nav ?_) <;> try dsimp only)
                (first | refine cCd ?_ ?_ | refine cC ?_ ?_) <;> intro hb144
                · first
                  | exact Bool.noConfusion hb144
                  | (
                   obtain ⟨z2, hz2⟩ := get_some (show t < a.fin.length by omega)
                   have e6 := map_at (f := pInt) hz2
                   have hzb2 := ha.fi z2 (List.mem_of_getElem? hz2)
                   have hz3 := mul_bd (x := z2) (y := b.n) (X := a.n) (Y := b.n) ⟨hzb2.1, by omega⟩ ⟨m0, Int.le_refl _⟩
                   have hal2 := addI_len (z2 * b.n) b.fin
                   refine nav ?_
                   (refine aC_region ?_ <;> refine xL 145 (q_idxN tSl22_LbB) ?_ <;> (refine yL 146 (q_ld tNa3_LbB) fun v146 hv146 => ?_; cases hv146) <;> refine xL 19 q_assign ?_ <;> refine aL_end (nav ?_) <;> try dsimp only)
                   (refine aC_draw (fun i => ([10] : List Nat).elem i) [3, 9] (by kernel_rfl) ?_ <;> refine xD 0 147 rfl (q_fldo 9 tFl25_3_LdI) ?_ <;> (refine yD 1 148 rfl (q_ldo 9 tNa22_LdI) fun v148 hv148 => ?_; cases hv148) <;> refine xD 2 149 rfl (q_fldo 3 tFl25_3_LdI) ?_ <;> (refine yD 3 150 rfl (q_ldo 3 tNa22_LdI) fun v150 hv150 => ?_; cases hv150) <;> refine xD 4 151 rfl q_move ?_ <;> refine xE 5 152 rfl q_move ?_ <;> refine xE 6 153 rfl q_mul ?_ <;> (refine aD_one 7 (by kernel_rfl) ?_) <;> (refine aW_run rfl fun w9 M9 N9 DQ back => ?_) <;> (refine cO 154 (cA Tryz.call87 (aShifted_e b.fin (z2 * b.n) (by omega) (by omega) (fun x hx => by have := hb.fi x hx; omega))) fun v154 ho154 => ?_; refine aL_ent (En.freeze (l := 154) (t := 154) rfl rfl) fun _ => ?_; rw [share_ints _ _ _ rfl]) <;> refine aL_end (back _ (nrm ?_)) <;> (refine aD_one 8 (by kernel_rfl) ?_) <;> (refine aW_run rfl fun w9 M9 N9 DQ back => ?_) <;> (refine s_apps 303 155 tEl22_LdI (fun h155 ho155 => ?_) (ints_len1 (addI (z2 * b.n) b.fin)) (ints_one (addI (z2 * b.n) b.fin)); have q155 : En.one (PV.val h155) = true := ho155; refine aL_ent (relabel (l := 155) 303 rfl rfl) fun _ => ?_; refine aL_ent (recast (l := 303) rfl ((ints_app _ (shI b.n (a.fin.take t) b.fin) (addI (z2 * b.n) b.fin)).trans (by rw [← shI_snoc hz2]))) fun _ => ?_) <;> refine aL_end (back _ (nrm ?_)) <;> refine xE 9 156 rfl (q_fldo 9 tFl25_3_LdI) ?_ <;> (refine aD_one 10 (by kernel_rfl) ?_) <;> (refine aW_last rfl rfl (by kernel_rfl) fun DQ back => ?_) <;> refine s_st 9 tNa22_LdI tSz22_LdK ?_ <;> refine aL_end (back _ (nav ?_)) <;> try dsimp only)
                   (refine aC_region ?_ <;> refine xL 157 q_add ?_ <;> refine xL 143 q_move ?_ <;> refine aL_end (nav ?_) <;> try dsimp only)
                   refine aN_again (
                    ⟨(t + 1, h155), lt_of_get hz2, ho155⟩
                    ) (by dsimp only; omega) ⟨rfl, rfl, rfl, rfl, rfl, rfl, rfl, rfl, rfl, trivial⟩ ⟨rfl, rfl, rfl, rfl, rfl, rfl, rfl, trivial⟩)
                · first
                  | exact Bool.noConfusion hb144
                  | (
                   rw [List.take_of_length_le (show a.fin.length ≤ t by omega)]
                   refine nav ?_
                   refine aC_ent (freezeCell (l := 9) (l' := 302) (j := 2) rfl rfl rfl rfl) fun _ => ?_
                   refine aC_ent (freezeCell (l := 9) (l' := 303) (j := 3) rfl rfl rfl rfl) fun _ => ?_
                   rw [share_ints _ _ _ rfl, share_ints _ _ _ rfl]
                   (refine aC_region ?_ <;> (refine yL 158 (q_ldao (k := 5) (ps := [pInt (a.n * b.n), pInt a.syms, pInts (shI b.n a.start b.start), pInts (shI b.n a.fin b.fin), PV.val hU]) 9 (by kernel_rfl)) fun v158 hv158 => ?_; cases hv158) <;> (refine aL_heap [(1000, hU, PV.own 72 3 (shufA a b).moves.length ((shufA a b).moves.flatMap cMv)), (2, _, _), (3, _, _), (4, _, _), (9, _, _)] ⟨rfl, rfl, rfl, rfl, rfl, trivial⟩ ?_; refine aL_ch [2, 3, 4, 9] 159 (Tryz.call88) (aMade_d (shufA a b) (by omega) _ hU hUo r5 hr) ?_; rintro _ _ _ ⟨⟨V1, rfl⟩, rfl, rfl⟩) <;> refine xL 160 q_extract ?_ <;> refine xL 161 q_extract ?_ <;> refine s_sta 4 tAgg25_LdS ?_ <;> refine xL 5 q_assign ?_ <;> refine aL_end (nav ?_) <;> try dsimp only)
                   exact ret_cs (k := 5) 4 (by kernel_rfl) (Tryz.results37) rfl rfl rfl (Nat.le_of_ble_eq_true rfl) (by decide) r5.s (by rw [if_neg (by omega)]; rfl)))))))
theorem aShuffle_e (a b : Aut) : AF Tryz.prog 37 [pAut a, pAut b] (· = resW (shufX a b)) := by
 unfold shufX
 by_cases h0 : fitX a b = 0
 · rw [if_neg (fun h => h h0)]
   obtain ⟨ha, hb, hs⟩ := fit_vok h0
   by_cases hl : (shufA a b).moves.length ≤ 40000
   · obtain ⟨p0, p1, p2, p3, p4, E, h5, h2, hr⟩ := aReduced_5 (shufA a b) (by omega) (shuf_pre ha hb hs)
     refine (aShuffle_g a b h0 h5 fun _ => hr).mono fun p hp => ?_
     rw [hp]
     split
     · rfl
     · exact h2.symm
   · refine (aShuffle_g a b h0 R5.raw (E := 13) fun h => absurd h hl).mono fun p hp => ?_
     have h1 := ha.n0
     have h2 := hb.n0
     have q4 : (((shufA a b).moves.length : Nat) : Int) = (a.moves.length : Int) * b.n + (b.moves.length : Int) * a.n := by
      rw [shuf_len, Int.natCast_add, Int.natCast_mul, Int.natCast_mul, Int.toNat_of_nonneg h1, Int.toNat_of_nonneg h2]
     rw [hp, if_pos (.inr (by omega)), if_pos (.inr (by omega))]; rfl
 · rw [if_pos h0]
   exact aShuffle_bad a b _ h0 (aFit_e a b)
def ctM (a b : Aut) (i : Nat) : List Mv := bsM a b ++ epsM a.n (a.fin.take i) b.start
theorem ctM_zero (a b : Aut) : ctM a b 0 = bsM a b := by show bsM a b ++ [] = bsM a b; rw [List.append_nil]
theorem ctM_snoc {a b : Aut} {i : Nat} {f : Int} (h : a.fin[i]? = some f) : ctM a b (i + 1) = ctM a b i ++ epsR a.n f b.start := by unfold ctM; rw [epsM_snoc a.n b.start h, List.append_assoc]
theorem ctM_all (a b : Aut) {i : Nat} (h : a.fin.length ≤ i) : ctM a b i = (catA a b).moves := by unfold ctM; rw [List.take_of_length_le h]; rfl
theorem ct_part {a b : Aut} {i j : Nat} (f : Int) (hi : i < a.fin.length) (hj : j ≤ b.start.length) : (ctM a b i ++ epsR a.n f (b.start.take j)).length ≤ (catA a b).moves.length := by
 rw [cat_len]
 unfold ctM bsM
 rw [List.length_append, List.length_append, List.length_append, addM_len, epsM_len, List.length_take]
 unfold epsR
 rw [List.length_map, List.length_take]
 have h1 : (i + 1) * b.start.length ≤ a.fin.length * b.start.length := Nat.mul_le_mul_right _ hi
 rw [Nat.succ_mul] at h1
 rw [Nat.min_eq_left (Nat.le_of_lt hi), Nat.min_eq_left hj]
 omega
theorem aConcat_bad (a b : Aut) (e : Int) (he : ¬ e = 0) (hf : AF Tryz.prog 70 [pAut a, pAut b] (· = pInt e)) : AF Tryz.prog 42 [pAut a, pAut b] (· = .tup [rawZ, pInt e]) := by
 refine AF.of_body 68 Tryz.func42 rfl Tryz.ntmps42 (Nat.le_of_ble_eq_true rfl) ?_
 intro w0 M0 vs hl hv
 obtain ⟨v0, v1, rfl⟩ := len2 hl
 clear hl hv
 refine nav ?_
 (refine aC_region ?_ <;> refine s_boxa 2 5 fun h2 => ?_ <;> refine s_boxa 3 5 fun h3 => ?_ <;> refine s_alloc [(.int .i64 0), (.int .i64 0), (.slice none 0 0), (.slice none 0 0), (.slice none 0 0)] 5 4 tZr25_LfD fun h4 => ?_ <;> refine xL 5 q_assign ?_ <;> refine aL_end (nav ?_) <;> try dsimp only)
 (refine aC_region ?_ <;> (refine yL 12 (q_ldao 2 tAgg25_LdS) fun v12 hv12 => ?_; cases hv12) <;> (refine yL 13 (q_ldao 3 tAgg25_LdS) fun v13 hv13 => ?_; cases hv13) <;> (refine cS 14 (cA Tryz.call70 (hf)) fun v14 hv14 => ?_; cases hv14) <;> refine xL 6 q_assign ?_ <;> refine aL_end (nav ?_) <;> try dsimp only)
 (refine aC_region ?_ <;> refine xL 15 q_move ?_ <;> refine xL 16 q_neq ?_ <;> refine aL_end (nav ?_) <;> try dsimp only)
 (first | refine cCd ?_ ?_ | refine cC ?_ ?_) <;> intro hb16
 · refine nav ?_
   (refine aC_region ?_ <;> refine xL 17 (q_build tSt25_LfD) ?_ <;> refine xL 18 q_move ?_ <;> refine s_sta 4 tAgg25_LdS ?_ <;> refine xL 5 q_assign ?_ <;> refine aL_end (nav ?_) <;> try dsimp only)
   exact ret_cs (k := 5) 4 (by kernel_rfl) (Tryz.results42) rfl rfl rfl (Nat.le_of_ble_eq_true rfl) (by decide) rfl rfl
 · exact absurd (by simpa using hb16) he
set_option maxHeartbeats 2000000 in
theorem aConcat_g (a b : Aut) (hf0 : fitX a b = 0) {p0 p1 p2 p3 p4 : PV} {E : Int} (r5 : R5 p0 p1 p2 p3 p4) (hr : (catA a b).moves.length ≤ 40001 → AF Tryz.prog 83 [pAut (mkA (catA a b))] (· = .tup [.agg [p0, p1, p2, p3, p4], pInt E])) : AF Tryz.prog 42 [pAut a, pAut b] (fun p => ((catA a b).moves.length ≤ 40001 ∧ p = .tup [.agg [p0, p1, p2, p3, p4], pInt E]) ∨ (20000 < (catA a b).moves.length ∧ p = .tup [rawZ, pInt 13])) := by
 obtain ⟨o0, o1, o2, o3, o4⟩ := r5.o
 obtain ⟨ha, hb, hs⟩ := fit_vok hf0
 have hf := aFit_e a b
 rw [hf0] at hf
 have hn0 := ha.n0
 have hn1 := ha.n1
 have k1 := ha.sl
 have k2 := hb.sl
 have k3 := ha.fl
 have k4 := hb.fl
 have m1 := hb.n1
 have kml := bsM_len ha.toAOk hb.toAOk
 have l2 := addI_len a.n b.fin
 refine AF.of_body 68 Tryz.func42 rfl Tryz.ntmps42 (Nat.le_of_ble_eq_true rfl) ?_
 intro w0 M0 vs hl hv
 obtain ⟨v0, v1, rfl⟩ := len2 hl
 clear hl hv
 refine nav ?_
 (refine aC_region ?_ <;> refine s_boxa 2 5 fun h2 => ?_ <;> refine s_boxa 3 5 fun h3 => ?_ <;> refine s_alloc [(.int .i64 0), (.int .i64 0), (.slice none 0 0), (.slice none 0 0), (.slice none 0 0)] 5 4 tZr25_LfD fun h4 => ?_ <;> refine xL 5 q_assign ?_ <;> refine aL_end (nav ?_) <;> try dsimp only)
 (refine aC_region ?_ <;> (refine yL 12 (q_ldao 2 tAgg25_LdS) fun v12 hv12 => ?_; cases hv12) <;> (refine yL 13 (q_ldao 3 tAgg25_LdS) fun v13 hv13 => ?_; cases hv13) <;> (refine cS 14 (cA Tryz.call70 (hf)) fun v14 hv14 => ?_; cases hv14) <;> refine xL 6 q_assign ?_ <;> refine aL_end (nav ?_) <;> try dsimp only)
 (refine aC_region ?_ <;> refine xL 15 q_move ?_ <;> refine xL 16 q_neq ?_ <;> refine aL_end (nav ?_) <;> try dsimp only)
 (first | refine cCd ?_ ?_ | refine cC ?_ ?_) <;> intro hb16
 · first | omega | exact absurd rfl hb16 | exact Bool.noConfusion hb16
 · refine nav ?_
   (refine aC_region ?_ <;> (refine yL 19 (q_ldao 2 tAgg25_LdS) fun v19 hv19 => ?_; cases hv19) <;> (refine yL 20 (q_ldao 3 tAgg25_LdS) fun v20 hv20 => ?_; cases hv20) <;> (refine aL_ch [2, 3, 4] 21 (Tryz.call93) (aBeside_e a b ha.toAOk hb.toAOk _ _) ?_; rintro V21 _ _ ⟨hM0, hM0o, rfl, rfl⟩; have qM : En.one (PV.val hM0) = true := hM0o) <;> refine s_alloc [(.int .i64 0), (.int .i64 0), (.slice none 0 0), (.slice none 0 0), (.slice none 0 0)] 5 7 tZr25_LfD fun h7 => ?_ <;> refine s_sta 7 tAgg25_LdS ?_ <;> refine aL_end (nav ?_) <;> try dsimp only)
   (refine aC_draw (fun i => ([9, 10, 11] : List Nat).elem i) [2, 3, 7] (by kernel_rfl) ?_ <;> refine xDT 0 22 rfl (q_fldo 2 tFl25_2_LdI) ?_ <;> (refine yDT 1 23 rfl (q_ldo 2 tNa22_LdI) fun v23 hv23 => ?_; cases hv23) <;> refine xDT 3 25 rfl (q_fldo 3 tFl25_3_LdI) ?_ <;> (refine yDT 4 26 rfl (q_ldo 3 tNa22_LdI) fun v26 hv26 => ?_; cases hv26) <;> refine xDT 5 27 rfl (q_fldo 2 tFl25_0_LdI) ?_ <;> (refine yDT 6 28 rfl (q_ldo 2 tNa3_LbB) fun v28 hv28 => ?_; cases hv28) <;> (refine aD_one 2 (by kernel_rfl) ?_) <;> (refine aW_run rfl fun w9 M9 N9 DQ back => ?_) <;> (refine cO 24 (cA Tryz.call51 (cloneIntW_e a.start (by omega))) fun v24 ho24 => ?_; refine aL_ent (En.freeze (l := 24) (t := 24) rfl rfl) fun _ => ?_; rw [share_ints _ _ _ rfl]) <;> refine aL_end (back _ (nrm ?_)) <;> refine xDT 8 30 rfl (q_fldo 7 tFl25_2_LdI) ?_ <;> (refine aD_one 7 (by kernel_rfl) ?_) <;> (refine aW_run rfl fun w9 M9 N9 DQ back => ?_) <;> (refine cO 29 (cA Tryz.call87 (aShifted_e b.fin a.n (by omega) (by omega) (fun x hx => by have := hb.fi x hx; omega))) fun v29 ho29 => ?_; refine aL_ent (En.freeze (l := 29) (t := 29) rfl rfl) fun _ => ?_; rw [share_ints _ _ _ rfl]) <;> refine aL_end (back _ (nrm ?_)) <;> (refine aD_one 9 (by kernel_rfl) ?_) <;> (refine aW_thenZ rfl rfl fun DQ back => ?_) <;> refine s_st 7 tNa22_LdI tSz22_LdK ?_ <;> refine aL_end (back _ ?_) <;> (refine aDZ_one 10 (by kernel_rfl) rfl rfl fun DQ back => ?_) <;> refine xL 31 (q_fldo 7 tFl25_3_LdI) ?_ <;> refine aL_end (back _ ?_) <;> (refine aDZ_one 11 (by kernel_rfl) rfl rfl fun DQ back => ?_) <;> refine s_st 7 tNa22_LdI tSz22_LdK ?_ <;> refine aL_end (back _ ?_) <;> refine aDZ_end (by kernel_rfl) (nav ?_) <;> try dsimp only)
   refine aC_ent (recast (l := 1000) (p' := .own 72 3 (ctM a b 0).length ((ctM a b 0).flatMap cMv)) rfl (by rw [ctM_zero])) fun _ => ?_
   (refine aC_region ?_ <;> refine xL 32 (q_fldo 2 tFl25_3_LdI) ?_ <;> (refine yL 33 (q_ldo 2 tNa22_LdI) fun v33 hv33 => ?_; cases hv33) <;> refine xL 34 (q_len tSl22_LbB) ?_ <;> refine xL 35 q_move ?_ <;> refine aL_end (nav ?_) <;> try dsimp only)
   refine aC_loop (ι := { q : Nat × Value // q.1 ≤ a.fin.length ∧ q.2.oneCell' = true ∧ (ctM a b q.1).length ≤ 40001 }) (fun k => ⟨[(2, _, _), (3, _, _), (4, _, _), (7, _, _), (33, _, _), (34, _, _), (35, .int .i64 k.1.1, pInt k.1.1)], [(2, _, _), (3, _, _), (4, _, _), (7, h7, .own 25 5 1 [pInt (a.n + b.n), pInt a.syms, pInts a.start, pInts (addI a.n b.fin), .val k.1.2]), (1000, k.1.2, .own 72 3 (ctM a b k.1.1).length ((ctM a b k.1.1).flatMap cMv))]⟩) (fun k => a.fin.length - k.1.1) ⟨(0, hM0), Nat.zero_le _, hM0o, by show (ctM a b 0).length ≤ 40001; rw [ctM_zero]; omega⟩ (fun a w H => H.weaken ⟨rfl, rfl, rfl, rfl, rfl, rfl, rfl, trivial⟩ ⟨rfl, rfl, rfl, rfl, rfl, trivial⟩) ?_
   rintro ⟨⟨i, hI⟩, hi, hIo, hIl⟩
   dsimp only
   dsimp only at hi hIo hIl
   have q5 : En.one (PV.val hI) = true := hIo
   refine nav ?_
   (refine aC_region ?_ <;> refine xL 36 q_lss ?_ <;> refine aL_end (nav ?_) <;> try dsimp only)
   (first | refine cCd ?_ ?_ | refine cC ?_ ?_) <;> intro hb36
   · first
     | exact Bool.noConfusion hb36
     | (
      obtain ⟨f, hf⟩ := get_some (show i < a.fin.length by omega)
      have e1 := map_at (f := pInt) hf
      have hfin := ha.fi f (List.mem_of_getElem? hf)
      refine nav ?_
      (refine aC_region ?_ <;> refine xL 37 (q_idxN tSl22_LbB) ?_ <;> (refine yL 38 (q_ld tNa3_LbB) fun v38 hv38 => ?_; cases hv38) <;> refine xL 9 q_assign ?_ <;> refine aL_end (nav ?_) <;> try dsimp only)
      (refine aC_region ?_ <;> refine xL 39 (q_fldo 3 tFl25_2_LdI) ?_ <;> (refine yL 40 (q_ldo 3 tNa22_LdI) fun v40 hv40 => ?_; cases hv40) <;> refine xL 41 (q_len tSl22_LbB) ?_ <;> refine xL 42 q_move ?_ <;> refine aL_end (nav ?_) <;> try dsimp only)
      refine aC_ent (recast (l := 1000) (p' := .own 72 3 (ctM a b i ++ epsR a.n f (b.start.take 0)).length ((ctM a b i ++ epsR a.n f (b.start.take 0)).flatMap cMv)) rfl (by rw [show epsR a.n f (b.start.take 0) = [] from rfl, List.append_nil])) fun _ => ?_
      refine aC_loop (ι := { q : Nat × Value // q.1 ≤ b.start.length ∧ q.2.oneCell' = true ∧ (ctM a b i ++ epsR a.n f (b.start.take q.1)).length ≤ 40001 }) (fun k => ⟨[(2, _, _), (3, _, _), (4, _, _), (7, _, _), (9, _, _), (33, _, _), (34, _, _), (35, _, _), (40, _, _), (41, _, _), (42, .int .i64 k.1.1, pInt k.1.1)], [(2, _, _), (3, _, _), (4, _, _), (7, h7, .own 25 5 1 [pInt (a.n + b.n), pInt a.syms, pInts a.start, pInts (addI a.n b.fin), .val k.1.2]), (1000, k.1.2, .own 72 3 (ctM a b i ++ epsR a.n f (b.start.take k.1.1)).length ((ctM a b i ++ epsR a.n f (b.start.take k.1.1)).flatMap cMv))]⟩) (fun k => b.start.length - k.1.1) ⟨(0, hI), Nat.zero_le _, hIo, by show (ctM a b i ++ []).length ≤ 40001; rw [List.append_nil]; exact hIl⟩ (fun a w H => H.weaken ⟨rfl, rfl, rfl, rfl, rfl, rfl, rfl, rfl, rfl, rfl, rfl, trivial⟩ ⟨rfl, rfl, rfl, rfl, rfl, trivial⟩) ?_
      rintro ⟨⟨j, hJ⟩, hj, hJo, hJl⟩
      dsimp only
      dsimp only at hj hJo hJl
      have q6 : En.one (PV.val hJ) = true := hJo
      refine nav ?_
      (refine aC_region ?_ <;> refine xL 43 q_lss ?_ <;> refine aL_end (nav ?_) <;> try dsimp only)
      (first | refine cCd ?_ ?_ | refine cC ?_ ?_) <;> intro hb43
      · first
        | exact Bool.noConfusion hb43
        | (
         obtain ⟨s, hs⟩ := get_some (show j < b.start.length by omega)
         have e2 := map_at (f := pInt) hs
         have hsin := hb.st s (List.mem_of_getElem? hs)
         have hpart := ct_part f (by omega : i < a.fin.length) hj
         refine nav ?_
         (refine aC_region ?_ <;> refine xL 44 (q_idxN tSl22_LbB) ?_ <;> (refine yL 45 (q_ld tNa3_LbB) fun v45 hv45 => ?_; cases hv45) <;> refine xL 11 q_assign ?_ <;> refine aL_end (nav ?_) <;> try dsimp only)
         (refine aC_region ?_ <;> refine xL 46 (q_fldo 7 tFl25_4_LdI) ?_ <;> (refine yL 47 (q_ldo 7 tNa23_LdI) fun v47 hv47 => ?_; cases hv47) <;> refine xL 48 (q_leno 1000 tSl23_LdI) ?_ <;> refine xL 49 q_gtr ?_ <;> refine aL_end (nav ?_) <;> try dsimp only)
         (first | refine cCd ?_ ?_ | refine cC ?_ ?_) <;> intro hb49
         · first
           | exact Bool.noConfusion hb49
           | (
            refine nav ?_
            (refine aC_region ?_ <;> refine xL 50 (q_build tSt25_LfD) ?_ <;> refine s_sta 4 tAgg25_LdS ?_ <;> refine xL 5 q_assign ?_ <;> refine aL_end (nav ?_) <;> try dsimp only)
            exact ret_cs (k := 5) 4 (by kernel_rfl) (Tryz.results42) rfl rfl rfl (Nat.le_of_ble_eq_true rfl) (by decide) rfl (.inr ⟨by omega, rfl⟩))
         · first
           | exact Bool.noConfusion hb49
           | (
            refine nav ?_
            (refine aC_region ?_ <;> refine xL 51 (q_fldo 7 tFl25_4_LdI) ?_ <;> (refine yL 52 (q_ldo 7 tNa23_LdI) fun v52 hv52 => ?_; cases hv52) <;> refine xL 53 q_move ?_ <;> refine xL 54 q_move ?_ <;> refine xL 55 (q_fldo 2 tFl25_0_LdI) ?_ <;> (refine yL 56 (q_ldo 2 tNa3_LbB) fun v56 hv56 => ?_; cases hv56) <;> refine xL 57 q_add ?_ <;> refine xL 58 (q_build tSt72_LfD) ?_ <;> refine s_lit1a 59 tEl23_LdR fun h59 ho59 => ?_ <;> (refine s_app 1000 59 60 tEl23_LdR fun h60 ho60 => ?_; refine aL_ent (relabel (l := 60) 1000 rfl rfl) fun _ => ?_; refine aL_ent (recast (l := 1000) rfl ((snoc_mv _ (ctM a b i ++ epsR a.n f (b.start.take j)) ⟨f, s + a.n, -1⟩).trans (by rw [List.append_assoc, ← epsR_snoc a.n f hs]))) fun _ => ?_; have q60 : En.one (PV.val h60) = true := ho60) <;> refine xL 61 (q_fldo 7 tFl25_4_LdI) ?_ <;> refine s_st 7 tNa23_LdI tSz23_LdR ?_ <;> refine aL_end (nav ?_) <;> try dsimp only)
            (refine aC_region ?_ <;> refine xL 62 q_add ?_ <;> refine xL 42 q_move ?_ <;> refine aL_end (nav ?_) <;> try dsimp only)
            have hl3 : (ctM a b i ++ epsR a.n f (b.start.take (j + 1))).length ≤ 40001 := by rw [epsR_snoc a.n f hs, ← List.append_assoc, List.length_append, List.length_singleton]; omega
            refine aN_again (
             ⟨(j + 1, h60), lt_of_get hs, ho60, hl3⟩
             ) (by dsimp only; omega) ⟨rfl, rfl, rfl, rfl, rfl, rfl, rfl, rfl, rfl, rfl, rfl, trivial⟩ ⟨rfl, rfl, rfl, rfl, rfl, trivial⟩))
      · first
        | exact Bool.noConfusion hb43
        | (
         have hctS : ctM a b i ++ epsR a.n f (b.start.take j) = ctM a b (i + 1) := by rw [List.take_of_length_le (show b.start.length ≤ j by omega), ctM_snoc hf]
         rw [hctS] at hJl
         refine aC_ent (recast (l := 1000) (p' := .own 72 3 (ctM a b (i + 1)).length ((ctM a b (i + 1)).flatMap cMv)) rfl (by rw [hctS])) fun _ => ?_
         refine nav ?_
         (refine aC_region ?_ <;> refine xL 63 q_add ?_ <;> refine xL 35 q_move ?_ <;> refine aL_end (nav ?_) <;> try dsimp only)
         refine aN_again (
          ⟨(i + 1, hJ), lt_of_get hf, hJo, hJl⟩
          ) (by dsimp only; omega) ⟨rfl, rfl, rfl, rfl, rfl, rfl, rfl, trivial⟩ ⟨rfl, rfl, rfl, rfl, rfl, trivial⟩))
   · first
     | exact Bool.noConfusion hb36
     | (
      have hctA := ctM_all a b (show a.fin.length ≤ i by omega)
      rw [hctA] at hIl
      have hr := hr hIl
      refine aC_ent (recast (l := 1000) (p' := .own 72 3 (catA a b).moves.length ((catA a b).moves.flatMap cMv)) rfl (by rw [hctA])) fun _ => ?_
      refine nav ?_
      (refine aC_region ?_ <;> (refine yL 64 (q_ldao (k := 5) (ps := [pInt (a.n + b.n), pInt a.syms, pInts a.start, pInts (addI a.n b.fin), PV.val hI]) 7 (by kernel_rfl)) fun v64 hv64 => ?_; cases hv64) <;> (refine aL_heap [(1000, hI, PV.own 72 3 (catA a b).moves.length ((catA a b).moves.flatMap cMv)), (2, _, _), (3, _, _), (4, _, _), (7, _, _)] ⟨rfl, rfl, rfl, rfl, rfl, trivial⟩ ?_; refine aL_ch [2, 3, 4, 7] 65 (Tryz.call88) (aMade_g (catA a b) (by omega) (cat_nodup ha hb) _ hI hIo r5 hr) ?_; rintro _ _ _ ⟨⟨V1, rfl⟩, rfl, rfl⟩) <;> refine xL 66 q_extract ?_ <;> refine xL 67 q_extract ?_ <;> refine s_sta 4 tAgg25_LdS ?_ <;> refine xL 5 q_assign ?_ <;> refine aL_end (nav ?_) <;> try dsimp only)
      exact ret_cs (k := 5) 4 (by kernel_rfl) (Tryz.results42) rfl rfl rfl (Nat.le_of_ble_eq_true rfl) (by decide) r5.s (.inl ⟨hIl, rfl⟩))
theorem aConcat_e (a b : Aut) : AF Tryz.prog 42 [pAut a, pAut b] (· = resW (catX a b)) := by
 unfold catX
 by_cases h0 : fitX a b = 0
 · rw [if_neg (fun h => h h0)]
   obtain ⟨ha, hb, hs⟩ := fit_vok h0
   have h13 : 20000 < (catA a b).moves.length → madeX (catA a b) = .error 13 := fun h => by
    rw [catX_fin ha hb hs, doneX_cat ha hb (.inr (by rw [← cat_len]; exact h))]
   rcases Nat.lt_or_ge 40001 (catA a b).moves.length with hl | hl
   · refine (aConcat_g a b h0 R5.raw (E := 13) fun h => by omega).mono fun p hp => ?_
     rw [h13 (by omega)]
     rcases hp with ⟨h, _⟩ | ⟨_, h⟩
     · omega
     · exact h
   · obtain ⟨p0, p1, p2, p3, p4, E, h5, h2, hr⟩ := aReduced_5 (catA a b) (by omega) (cat_pre ha hb hs)
     refine (aConcat_g a b h0 h5 fun _ => hr).mono fun p hp => ?_
     rcases hp with ⟨_, h⟩ | ⟨hl2, h⟩
     · rw [h2]; exact h
     · rw [h13 hl2]; exact h
 · rw [if_pos h0]
   exact aConcat_bad a b _ h0 (aFit_e a b)
theorem aReverse_bad (a : Aut) (hv : autOk a = false) : AF Tryz.prog 46 [pAut a] (· = .tup [rawZ, pInt 1]) := by
 refine AF.of_body 46 Tryz.func46 rfl Tryz.ntmps46 (Nat.le_of_ble_eq_true rfl) ?_
 intro w0 M0 vs hl hv
 obtain ⟨v0, rfl⟩ := len1 hl
 clear hl hv
 refine nav ?_
 (refine aC_region ?_ <;> refine s_boxa 1 5 fun h1 => ?_ <;> refine s_alloc [(.int .i64 0), (.int .i64 0), (.slice none 0 0), (.slice none 0 0), (.slice none 0 0)] 5 2 tZr25_LfD fun h2 => ?_ <;> refine xL 3 q_assign ?_ <;> refine aL_end (nav ?_) <;> try dsimp only)
 (refine aC_region ?_ <;> (refine yL 7 (q_ldao 1 tAgg25_LdS) fun v7 hv7 => ?_; cases hv7) <;> (refine cS 8 (cA Tryz.call24 (aValid_e a)) fun v8 hv8 => ?_; cases hv8) <;> refine xL 9 q_not ?_ <;> refine aL_end (nav ?_) <;> try dsimp only)
 (first | refine cCd ?_ ?_ | refine cC ?_ ?_) <;> intro hb9
 · refine nav ?_
   (refine aC_region ?_ <;> refine xL 10 (q_build tSt25_LfD) ?_ <;> refine s_sta 2 tAgg25_LdS ?_ <;> refine xL 3 q_assign ?_ <;> refine aL_end (nav ?_) <;> try dsimp only)
   exact ret_cs (k := 5) 2 (by kernel_rfl) (Tryz.results46) rfl rfl rfl (Nat.le_of_ble_eq_true rfl) (by decide) rfl rfl
 · rw [hv] at hb9; simp at hb9
set_option maxHeartbeats 1000000 in
theorem aReverse_g (a : Aut) (hv : autOk a = true) {p0 p1 p2 p3 p4 : PV} {E : Int} (r5 : R5 p0 p1 p2 p3 p4) (hr : AF Tryz.prog 83 [pAut (mkA (revA a))] (· = .tup [.agg [p0, p1, p2, p3, p4], pInt E])) : AF Tryz.prog 46 [pAut a] (· = .tup [.agg [p0, p1, p2, p3, p4], pInt E]) := by
 obtain ⟨o0, o1, o2, o3, o4⟩ := r5.o
 have h := vok_of hv
 have hn0 := h.n0
 have hn1 := h.n1
 have hml := h.ml
 have hsl := h.sl
 have hfl := h.fl
 refine AF.of_body 46 Tryz.func46 rfl Tryz.ntmps46 (Nat.le_of_ble_eq_true rfl) ?_
 intro w0 M0 vs hl hv
 obtain ⟨v0, rfl⟩ := len1 hl
 clear hl hv
 refine nav ?_
 (refine aC_region ?_ <;> refine s_boxa 1 5 fun h1 => ?_ <;> refine s_alloc [(.int .i64 0), (.int .i64 0), (.slice none 0 0), (.slice none 0 0), (.slice none 0 0)] 5 2 tZr25_LfD fun h2 => ?_ <;> refine xL 3 q_assign ?_ <;> refine aL_end (nav ?_) <;> try dsimp only)
 (refine aC_region ?_ <;> (refine yL 7 (q_ldao 1 tAgg25_LdS) fun v7 hv7 => ?_; cases hv7) <;> (refine cS 8 (cA Tryz.call24 (aValid_e a)) fun v8 hv8 => ?_; cases hv8) <;> refine xL 9 q_not ?_ <;> refine aL_end (nav ?_) <;> try dsimp only)
 (first | refine cCd ?_ ?_ | refine cC ?_ ?_) <;> intro hb9
 · rw [hv] at hb9; simp at hb9
 · refine nav ?_
   refine aC_mid (fun h4 : Value => ⟨[(1, padd (sbase h1) 0, .val (padd (sbase h1) 0)), (2, padd (sbase h2) 0, .val (padd (sbase h2) 0)), (4, padd (sbase h4) 0, .val (padd (sbase h4) 0))], [(1, h1, .own 25 5 1 [pInt a.n, pInt a.syms, pInts a.start, pInts a.fin, pMvs a.moves]), (2, h2, .own 25 5 1 [pInt 0, pInt 0, .val (.slice none 0 0), .val (.slice none 0 0), .val (.slice none 0 0)]), (4, h4, .own 25 5 1 [pInt a.n, pInt a.syms, pInts a.fin, pInts a.start, .val (.slice none 0 0)])]⟩) ?_ ?_
   · (refine aC_draw (fun i => ([] : List Nat).elem i) [1] (by kernel_rfl) ?_ <;> refine xD 0 11 rfl (q_fldo 1 tFl25_0_LdI) ?_ <;> (refine yD 1 12 rfl (q_ldo 1 tNa3_LbB) fun v12 hv12 => ?_; cases hv12) <;> refine xD 2 13 rfl (q_fldo 1 tFl25_1_LdI) ?_ <;> (refine yD 3 14 rfl (q_ldo 1 tNa3_LbB) fun v14 hv14 => ?_; cases hv14) <;> refine xD 4 15 rfl (q_fldo 1 tFl25_3_LdI) ?_ <;> (refine yD 5 16 rfl (q_ldo 1 tNa22_LdI) fun v16 hv16 => ?_; cases hv16) <;> refine xD 7 18 rfl (q_fldo 1 tFl25_2_LdI) ?_ <;> (refine yD 8 19 rfl (q_ldo 1 tNa22_LdI) fun v19 hv19 => ?_; cases hv19) <;> (refine aD_two 6 11 (by kernel_rfl) ?_ ?_; rotate_right; (focus ((refine aW_run rfl fun w9 M9 N9 DQ back => ?_) <;> refine s_alloc [(.int .i64 0), (.int .i64 0), (.slice none 0 0), (.slice none 0 0), (.slice none 0 0)] 5 4 tZr25_LfD fun h4 => ?_ <;> refine aL_end (back _ (nrm ?_)) <;> (refine aD_one 6 (by kernel_rfl) ?_) <;> (refine aW_run rfl fun w9 M9 N9 DQ back => ?_) <;> (refine cO 17 (cA Tryz.call51 (cloneIntW_e a.fin (by omega))) fun v17 ho17 => ?_; refine aL_ent (En.freeze (l := 17) (t := 17) rfl rfl) fun _ => ?_; rw [share_ints _ _ _ rfl]) <;> refine aL_end (back _ (nrm ?_)) <;> (refine aD_one 9 (by kernel_rfl) ?_) <;> (refine aW_run rfl fun w9 M9 N9 DQ back => ?_) <;> (refine cO 20 (cA Tryz.call51 (cloneIntW_e a.start (by omega))) fun v20 ho20 => ?_; refine aL_ent (En.freeze (l := 20) (t := 20) rfl rfl) fun _ => ?_; rw [share_ints _ _ _ rfl]) <;> refine aL_end (back _ (nrm ?_)) <;> refine xE 10 21 rfl (q_build tSt25_LfD) ?_ <;> (refine aD_one 12 (by kernel_rfl) ?_) <;> (refine aW_run rfl fun w9 M9 N9 DQ back => ?_) <;> refine s_sta 4 tAgg25_LdS ?_ <;> refine aL_end (back _ (nrm ?_)))); rotate_right; (focus ((refine aW_run rfl fun w9 M9 N9 DQ back => ?_) <;> (refine cO 17 (cA Tryz.call51 (cloneIntW_e a.fin (by omega))) fun v17 ho17 => ?_; refine aL_ent (En.freeze (l := 17) (t := 17) rfl rfl) fun _ => ?_; rw [share_ints _ _ _ rfl]) <;> refine aL_end (back _ (nrm ?_)) <;> (refine aD_two 9 11 (by kernel_rfl) ?_ ?_; rotate_right; (focus ((refine aW_run rfl fun w9 M9 N9 DQ back => ?_) <;> refine s_alloc [(.int .i64 0), (.int .i64 0), (.slice none 0 0), (.slice none 0 0), (.slice none 0 0)] 5 4 tZr25_LfD fun h4 => ?_ <;> refine aL_end (back _ (nrm ?_)) <;> (refine aD_one 9 (by kernel_rfl) ?_) <;> (refine aW_run rfl fun w9 M9 N9 DQ back => ?_) <;> (refine cO 20 (cA Tryz.call51 (cloneIntW_e a.start (by omega))) fun v20 ho20 => ?_; refine aL_ent (En.freeze (l := 20) (t := 20) rfl rfl) fun _ => ?_; rw [share_ints _ _ _ rfl]) <;> refine aL_end (back _ (nrm ?_)) <;> refine xE 10 21 rfl (q_build tSt25_LfD) ?_ <;> (refine aD_one 12 (by kernel_rfl) ?_) <;> (refine aW_run rfl fun w9 M9 N9 DQ back => ?_) <;> refine s_sta 4 tAgg25_LdS ?_ <;> refine aL_end (back _ (nrm ?_)))); rotate_right; (focus ((refine aW_run rfl fun w9 M9 N9 DQ back => ?_) <;> (refine cO 20 (cA Tryz.call51 (cloneIntW_e a.start (by omega))) fun v20 ho20 => ?_; refine aL_ent (En.freeze (l := 20) (t := 20) rfl rfl) fun _ => ?_; rw [share_ints _ _ _ rfl]) <;> refine aL_end (back _ (nrm ?_)) <;> refine xD 10 21 rfl (q_build tSt25_LfD) ?_ <;> (refine aD_one 11 (by kernel_rfl) ?_) <;> (refine aW_run rfl fun w9 M9 N9 DQ back => ?_) <;> refine s_alloc [(.int .i64 0), (.int .i64 0), (.slice none 0 0), (.slice none 0 0), (.slice none 0 0)] 5 4 tZr25_LfD fun h4 => ?_ <;> refine aL_end (back _ (nrm ?_)) <;> (refine aD_one 12 (by kernel_rfl) ?_) <;> (refine aW_run rfl fun w9 M9 N9 DQ back => ?_) <;> refine s_sta 4 tAgg25_LdS ?_ <;> refine aL_end (back _ (nrm ?_)))))))) <;> refine aD_end (by kernel_rfl) (nav ?_) <;> try dsimp only) <;> (
      exact aN_join _ ⟨rfl, rfl, rfl, trivial⟩ ⟨rfl, rfl, rfl, trivial⟩)
   · rintro h4
     refine aC_ent (nilCells (l := 4) [pInt a.n, pInt a.syms, pInts a.fin, pInts a.start, .own 72 3 0 []] rfl rfl (fun i p p' h1 h2 => by
      match i with
      | 0 => cases h1; cases h2; exact .inl rfl
      | 1 => cases h1; cases h2; exact .inl rfl
      | 2 => cases h1; cases h2; exact .inl rfl
      | 3 => cases h1; cases h2; exact .inl rfl
      | 4 => cases h1; cases h2; exact .inr ⟨rfl, _, _, rfl⟩
      | i + 5 => simp at h2)) fun _ => ?_
     refine aC_ent (focusO (l := 4) (l' := 301) (j := 4) rfl rfl rfl rfl) fun i => ?_
     obtain ⟨v301, ho301⟩ := i
     dsimp only [List.set]
     refine nav ?_
     (refine aC_region ?_ <;> refine xL 22 (q_fldo 1 tFl25_4_LdI) ?_ <;> (refine yL 23 (q_ldo 1 tNa23_LdI) fun v23 hv23 => ?_; cases hv23) <;> refine xL 24 (q_len tSl23_LdI) ?_ <;> refine xL 25 q_move ?_ <;> refine aL_end (nav ?_) <;> try dsimp only)
     refine aC_loop (ι := { q : Nat × Value // q.1 ≤ a.moves.length ∧ q.2.oneCell' = true }) (fun k => ⟨[(1, _, _), (2, _, _), (4, _, _), (23, _, _), (24, _, _), (25, .int .i64 k.1.1, pInt k.1.1)], [(1, _, _), (2, _, _), (4, h4, .own 25 5 1 [pInt a.n, pInt a.syms, pInts a.fin, pInts a.start, .val k.1.2]), (301, k.1.2, .own 72 3 (turnM (a.moves.take k.1.1)).length ((turnM (a.moves.take k.1.1)).flatMap cMv))]⟩) (fun k => a.moves.length - k.1.1) ⟨(0, v301), Nat.zero_le _, ho301⟩ (fun a w H => H.weaken ⟨rfl, rfl, rfl, rfl, rfl, rfl, trivial⟩ ⟨rfl, rfl, rfl, rfl, trivial⟩) ?_
     rintro ⟨⟨k, hM⟩, hk, hMo⟩
     dsimp only
     dsimp only at hk hMo
     have hl1 : (turnM (a.moves.take k)).length ≤ 30000 := by rw [turnM_len, List.length_take]; omega
     have q5 : En.one (PV.val hM) = true := hMo
     refine nav ?_
     (refine aC_region ?_ <;> refine xL 26 q_lss ?_ <;> refine aL_end (nav ?_) <;> try dsimp only)
     (first | refine cCd ?_ ?_ | refine cC ?_ ?_) <;> intro hb26
     · first
       | exact Bool.noConfusion hb26
       | (
        obtain ⟨x, hx⟩ := get_some (show k < a.moves.length by omega)
        have e1 := flat_drop cMv_len a.moves k x hx
        have e2 := flat_fit cMv_len hx
        refine nav ?_
        (refine aC_region ?_ <;> refine xL 27 (q_idxN tSl23_LdI) ?_ <;> (refine yL 28 (q_lda tAgg72_LdI) fun v28 hv28 => ?_; cases hv28) <;> refine s_alloc [(.int .i64 0), (.int .i64 0), (.int .i64 0)] 3 6 tZr72_LdI fun h6 => ?_ <;> refine s_sta 6 tAgg72_LdI ?_ <;> refine aL_end (nav ?_) <;> try dsimp only)
        (refine aC_region ?_ <;> refine xL 29 (q_fldo 4 tFl25_4_LdI) ?_ <;> (refine yL 30 (q_ldo 4 tNa23_LdI) fun v30 hv30 => ?_; cases hv30) <;> refine xL 31 (q_fldo 6 tFl72_1_LdI) ?_ <;> (refine yL 32 (q_ldo 6 tNa3_LbB) fun v32 hv32 => ?_; cases hv32) <;> refine xL 33 (q_fldo 6 tFl72_0_LdI) ?_ <;> (refine yL 34 (q_ldo 6 tNa3_LbB) fun v34 hv34 => ?_; cases hv34) <;> refine xL 35 (q_fldo 6 tFl72_2_LdI) ?_ <;> (refine yL 36 (q_ldo 6 tNa3_LbB) fun v36 hv36 => ?_; cases hv36) <;> refine xL 37 (q_build tSt72_LfD) ?_ <;> refine s_lit1a 38 tEl23_LdR fun h38 ho38 => ?_ <;> (refine s_app 301 38 39 tEl23_LdR fun h39 ho39 => ?_; refine aL_ent (relabel (l := 39) 301 rfl rfl) fun _ => ?_; refine aL_ent (recast (l := 301) rfl ((snoc_mv _ (turnM (a.moves.take k)) ⟨x.dst, x.src, x.sym⟩).trans (by rw [← turnM_snoc hx]))) fun _ => ?_) <;> refine xL 40 (q_fldo 4 tFl25_4_LdI) ?_ <;> refine s_st 4 tNa23_LdI tSz23_LdR ?_ <;> refine aL_end (nav ?_) <;> try dsimp only)
        (refine aC_region ?_ <;> refine xL 41 q_add ?_ <;> refine xL 25 q_move ?_ <;> refine aL_end (nav ?_) <;> try dsimp only)
        refine aN_again (
         ⟨(k + 1, h39), lt_of_get hx, ho39⟩
         ) (by dsimp only; omega) ⟨rfl, rfl, rfl, rfl, rfl, rfl, trivial⟩ ⟨rfl, rfl, rfl, rfl, trivial⟩)
     · first
       | exact Bool.noConfusion hb26
       | (
        rw [List.take_of_length_le (show a.moves.length ≤ k by omega)]
        refine nav ?_
        refine aC_ent (relabel (l := 301) 1000 rfl rfl) fun _ => ?_
        (refine aC_region ?_ <;> (refine yL 42 (q_ldao (k := 5) (ps := [pInt a.n, pInt a.syms, pInts a.fin, pInts a.start, PV.val hM]) 4 (by kernel_rfl)) fun v42 hv42 => ?_; cases hv42) <;> (refine aL_heap [(1000, hM, PV.own 72 3 (revA a).moves.length ((revA a).moves.flatMap cMv)), (1, _, _), (2, _, _), (4, _, _)] ⟨rfl, rfl, rfl, rfl, trivial⟩ ?_; refine aL_ch [1, 2, 4] 43 (Tryz.call88) (aMade_g (revA a) (by show (turnM a.moves).length ≤ 1000000; rw [turnM_len]; omega) (rev_nodup h) _ hM hMo r5 hr) ?_; rintro _ _ _ ⟨⟨V1, rfl⟩, rfl, rfl⟩) <;> refine xL 44 q_extract ?_ <;> refine xL 45 q_extract ?_ <;> refine s_sta 2 tAgg25_LdS ?_ <;> refine xL 3 q_assign ?_ <;> refine aL_end (nav ?_) <;> try dsimp only)
        exact ret_cs (k := 5) 2 (by kernel_rfl) (Tryz.results46) rfl rfl rfl (Nat.le_of_ble_eq_true rfl) (by decide) r5.s rfl)
theorem aReverse_e (a : Aut) : AF Tryz.prog 46 [pAut a] (· = resW (revX a)) := by
 unfold revX
 cases hv : autOk a with
 | false => rw [if_neg (by simp)]; exact aReverse_bad a hv
 | true =>
   rw [if_pos rfl]
   have h := vok_of hv
   obtain ⟨p0, p1, p2, p3, p4, E, h5, h2, hr⟩ := aReduced_5 (revA a) (by show (turnM a.moves).length ≤ 1000000; rw [turnM_len]; have := h.ml; omega) (rev_pre h)
   rw [h2]; exact aReverse_g a hv h5 hr
theorem aProductW_bad (a b : Aut) (op e : Int) (he : ¬ e = 0) (hf : AF Tryz.prog 70 [pAut a, pAut b] (· = pInt e)) : AF Tryz.prog 18 [pAut a, pAut b, pInt op] (· = .tup [rawZ, pInt e]) := by
 refine AF.of_body 41 Tryz.func18 rfl Tryz.ntmps18 (Nat.le_of_ble_eq_true rfl) ?_
 intro w0 M0 vs hl hv
 obtain ⟨v0, v1, v2, rfl⟩ := len3 hl
 obtain rfl := hv 2 _ _ rfl rfl
 clear hl hv
 refine nav ?_
 (refine aC_region ?_ <;> refine s_boxa 3 5 fun h3 => ?_ <;> refine s_boxa 4 5 fun h4 => ?_ <;> refine s_alloc [(.int .i64 0), (.int .i64 0), (.slice none 0 0), (.slice none 0 0), (.slice none 0 0)] 5 6 tZr25_LfD fun h6 => ?_ <;> refine xL 7 q_assign ?_ <;> refine aL_end (nav ?_) <;> try dsimp only)
 (refine aC_region ?_ <;> (refine yL 11 (q_ldao 3 tAgg25_LdS) fun v11 hv11 => ?_; cases hv11) <;> (refine yL 12 (q_ldao 4 tAgg25_LdS) fun v12 hv12 => ?_; cases hv12) <;> (refine cS 13 (cA Tryz.call70 (hf)) fun v13 hv13 => ?_; cases hv13) <;> refine xL 8 q_assign ?_ <;> refine aL_end (nav ?_) <;> try dsimp only)
 (refine aC_region ?_ <;> refine xL 14 q_move ?_ <;> refine xL 15 q_neq ?_ <;> refine aL_end (nav ?_) <;> try dsimp only)
 (first | refine cCd ?_ ?_ | refine cC ?_ ?_) <;> intro hb15
 · refine nav ?_
   (refine aC_region ?_ <;> refine xL 16 (q_build tSt25_LfD) ?_ <;> refine xL 17 q_move ?_ <;> refine s_sta 6 tAgg25_LdS ?_ <;> refine xL 7 q_assign ?_ <;> refine aL_end (nav ?_) <;> try dsimp only)
   exact ret_cs (k := 5) 6 (by kernel_rfl) (Tryz.results18) rfl rfl rfl (Nat.le_of_ble_eq_true rfl) (by decide) rfl rfl
 · exact absurd (by simpa using hb15) he
theorem aProductW_op (a b : Aut) (op : Int) (ho : op < 1 ∨ 4 < op) (hf : AF Tryz.prog 70 [pAut a, pAut b] (· = pInt 0)) : AF Tryz.prog 18 [pAut a, pAut b, pInt op] (· = .tup [rawZ, pInt 2]) := by
 refine AF.of_body 41 Tryz.func18 rfl Tryz.ntmps18 (Nat.le_of_ble_eq_true rfl) ?_
 intro w0 M0 vs hl hv
 obtain ⟨v0, v1, v2, rfl⟩ := len3 hl
 obtain rfl := hv 2 _ _ rfl rfl
 clear hl hv
 refine nav ?_
 (refine aC_region ?_ <;> refine s_boxa 3 5 fun h3 => ?_ <;> refine s_boxa 4 5 fun h4 => ?_ <;> refine s_alloc [(.int .i64 0), (.int .i64 0), (.slice none 0 0), (.slice none 0 0), (.slice none 0 0)] 5 6 tZr25_LfD fun h6 => ?_ <;> refine xL 7 q_assign ?_ <;> refine aL_end (nav ?_) <;> try dsimp only)
 (refine aC_region ?_ <;> (refine yL 11 (q_ldao 3 tAgg25_LdS) fun v11 hv11 => ?_; cases hv11) <;> (refine yL 12 (q_ldao 4 tAgg25_LdS) fun v12 hv12 => ?_; cases hv12) <;> (refine cS 13 (cA Tryz.call70 (hf)) fun v13 hv13 => ?_; cases hv13) <;> refine xL 8 q_assign ?_ <;> refine aL_end (nav ?_) <;> try dsimp only)
 (refine aC_region ?_ <;> refine xL 14 q_move ?_ <;> refine xL 15 q_neq ?_ <;> refine aL_end (nav ?_) <;> try dsimp only)
 (first | refine cCd ?_ ?_ | refine cC ?_ ?_) <;> intro hb15
 · first | omega | exact absurd rfl hb15 | exact Bool.noConfusion hb15
 · refine nav ?_
   (refine aC_region ?_ <;> refine xL 18 q_move ?_ <;> refine xL 19 q_lss ?_ <;> refine xL 20 q_move ?_ <;> (refine bLd 20 (fun hb20 => ?_) (fun hb20 => ?_) <;> (first | refine kL 21 ?_ | refine xL 21 q_move ?_)) <;> (first | refine kL 22 ?_ | refine xL 22 q_gtr ?_) <;> refine xL 23 q_pick ?_ <;> refine aL_end (nav ?_) <;> try dsimp only) <;> (
    (first | refine cCd ?_ ?_ | refine cC ?_ ?_) <;> intro hb23
    · refine nav ?_
      (refine aC_region ?_ <;> refine xL 24 (q_build tSt25_LfD) ?_ <;> refine s_sta 6 tAgg25_LdS ?_ <;> refine xL 7 q_assign ?_ <;> refine aL_end (nav ?_) <;> try dsimp only)
      exact ret_cs (k := 5) 6 (by kernel_rfl) (Tryz.results18) rfl rfl rfl (Nat.le_of_ble_eq_true rfl) (by decide) rfl rfl
    · exfalso; first | omega | (simp_all; done) | (simp_all; omega))
theorem aProductW_err (a b : Aut) (op e : Int) (ho : ¬ (op < 1 ∨ 4 < op)) (he : ¬ e = 0) (hf : AF Tryz.prog 70 [pAut a, pAut b] (· = pInt 0)) (hb : AF Tryz.prog 71 [pAut a, pAut b, pInt op] (· = .tup [pPZ, pInt e])) : AF Tryz.prog 18 [pAut a, pAut b, pInt op] (· = .tup [rawZ, pInt e]) := by
 refine AF.of_body 41 Tryz.func18 rfl Tryz.ntmps18 (Nat.le_of_ble_eq_true rfl) ?_
 intro w0 M0 vs hl hv
 obtain ⟨v0, v1, v2, rfl⟩ := len3 hl
 obtain rfl := hv 2 _ _ rfl rfl
 clear hl hv
 refine nav ?_
 (refine aC_region ?_ <;> refine s_boxa 3 5 fun h3 => ?_ <;> refine s_boxa 4 5 fun h4 => ?_ <;> refine s_alloc [(.int .i64 0), (.int .i64 0), (.slice none 0 0), (.slice none 0 0), (.slice none 0 0)] 5 6 tZr25_LfD fun h6 => ?_ <;> refine xL 7 q_assign ?_ <;> refine aL_end (nav ?_) <;> try dsimp only)
 (refine aC_region ?_ <;> (refine yL 11 (q_ldao 3 tAgg25_LdS) fun v11 hv11 => ?_; cases hv11) <;> (refine yL 12 (q_ldao 4 tAgg25_LdS) fun v12 hv12 => ?_; cases hv12) <;> (refine cS 13 (cA Tryz.call70 (hf)) fun v13 hv13 => ?_; cases hv13) <;> refine xL 8 q_assign ?_ <;> refine aL_end (nav ?_) <;> try dsimp only)
 (refine aC_region ?_ <;> refine xL 14 q_move ?_ <;> refine xL 15 q_neq ?_ <;> refine aL_end (nav ?_) <;> try dsimp only)
 (first | refine cCd ?_ ?_ | refine cC ?_ ?_) <;> intro hb15
 · first | omega | exact absurd rfl hb15 | exact Bool.noConfusion hb15
 · refine nav ?_
   (refine aC_region ?_ <;> refine xL 18 q_move ?_ <;> refine xL 19 q_lss ?_ <;> refine xL 20 q_move ?_ <;> (refine bLd 20 (fun hb20 => ?_) (fun hb20 => ?_) <;> (first | refine kL 21 ?_ | refine xL 21 q_move ?_)) <;> (first | refine kL 22 ?_ | refine xL 22 q_gtr ?_) <;> refine xL 23 q_pick ?_ <;> refine aL_end (nav ?_) <;> try dsimp only) <;> (
    (first | refine cCd ?_ ?_ | refine cC ?_ ?_) <;> intro hb23
    · exfalso; first | omega | (simp_all; done) | (simp_all; omega)
    · refine nav ?_
      (refine aC_region ?_ <;> (refine yL 26 (q_ldao 3 tAgg25_LdS) fun v26 hv26 => ?_; cases hv26) <;> (refine yL 27 (q_ldao 4 tAgg25_LdS) fun v27 hv27 => ?_; cases hv27) <;> refine xL 28 q_move ?_ <;> (refine cP 29 (cA Tryz.call71 (hb)) fun va29 vb29 hva29 hvb29 => ?_; cases hvb29) <;> refine xL 25 q_move ?_ <;> refine xL 30 q_extract ?_ <;> refine xL 31 q_extract ?_ <;> refine s_alloc [(.int .i64 0), (.slice none 0 0), (.slice none 0 0), (.slice none 0 0), (.slice none 0 0)] 5 9 tZr95_LfP fun h9 => ?_ <;> refine s_sta 9 tAgg95_LfP ?_ <;> refine xL 10 q_assign ?_ <;> refine aL_end (nav ?_) <;> try dsimp only)
      (refine aC_region ?_ <;> refine xL 32 q_move ?_ <;> refine xL 33 q_neq ?_ <;> refine aL_end (nav ?_) <;> try dsimp only)
      (first | refine cCd ?_ ?_ | refine cC ?_ ?_) <;> intro hb33
      · refine nav ?_
        (refine aC_region ?_ <;> refine xL 34 (q_build tSt25_LfD) ?_ <;> refine xL 35 q_move ?_ <;> refine s_sta 6 tAgg25_LdS ?_ <;> refine xL 7 q_assign ?_ <;> refine aL_end (nav ?_) <;> try dsimp only)
        exact ret_cs (k := 5) 6 (by kernel_rfl) (Tryz.results18) rfl rfl rfl (Nat.le_of_ble_eq_true rfl) (by decide) rfl rfl
      · exact absurd (by simpa using hb33) he)
theorem aProductW_ok (a b A B : Aut) (op : Int) (q : List PrS × List (List Nat)) {A' : Aut} (ho : ¬ (op < 1 ∨ 4 < op)) (hf : AF Tryz.prog 70 [pAut a, pAut b] (· = pInt 0)) (hb : AF Tryz.prog 71 [pAut a, pAut b, pInt op] (· = .tup [pPairs A B op q, pInt 0])) (hm : AF Tryz.prog 72 [pTab (prodT A B op q)] (· = .tup [pAut A', pInt 0])) : AF Tryz.prog 18 [pAut a, pAut b, pInt op] (· = .tup [pAut A', pInt 0]) := by
 refine AF.of_body 41 Tryz.func18 rfl Tryz.ntmps18 (Nat.le_of_ble_eq_true rfl) ?_
 intro w0 M0 vs hl hv
 obtain ⟨v0, v1, v2, rfl⟩ := len3 hl
 obtain rfl := hv 2 _ _ rfl rfl
 clear hl hv
 refine nav ?_
 (refine aC_region ?_ <;> refine s_boxa 3 5 fun h3 => ?_ <;> refine s_boxa 4 5 fun h4 => ?_ <;> refine s_alloc [(.int .i64 0), (.int .i64 0), (.slice none 0 0), (.slice none 0 0), (.slice none 0 0)] 5 6 tZr25_LfD fun h6 => ?_ <;> refine xL 7 q_assign ?_ <;> refine aL_end (nav ?_) <;> try dsimp only)
 (refine aC_region ?_ <;> (refine yL 11 (q_ldao 3 tAgg25_LdS) fun v11 hv11 => ?_; cases hv11) <;> (refine yL 12 (q_ldao 4 tAgg25_LdS) fun v12 hv12 => ?_; cases hv12) <;> (refine cS 13 (cA Tryz.call70 (hf)) fun v13 hv13 => ?_; cases hv13) <;> refine xL 8 q_assign ?_ <;> refine aL_end (nav ?_) <;> try dsimp only)
 (refine aC_region ?_ <;> refine xL 14 q_move ?_ <;> refine xL 15 q_neq ?_ <;> refine aL_end (nav ?_) <;> try dsimp only)
 (first | refine cCd ?_ ?_ | refine cC ?_ ?_) <;> intro hb15
 · first | omega | exact absurd rfl hb15 | exact Bool.noConfusion hb15
 · refine nav ?_
   (refine aC_region ?_ <;> refine xL 18 q_move ?_ <;> refine xL 19 q_lss ?_ <;> refine xL 20 q_move ?_ <;> (refine bLd 20 (fun hb20 => ?_) (fun hb20 => ?_) <;> (first | refine kL 21 ?_ | refine xL 21 q_move ?_)) <;> (first | refine kL 22 ?_ | refine xL 22 q_gtr ?_) <;> refine xL 23 q_pick ?_ <;> refine aL_end (nav ?_) <;> try dsimp only) <;> (
    (first | refine cCd ?_ ?_ | refine cC ?_ ?_) <;> intro hb23
    · exfalso; first | omega | (simp_all; done) | (simp_all; omega)
    · refine nav ?_
      (refine aC_region ?_ <;> (refine yL 26 (q_ldao 3 tAgg25_LdS) fun v26 hv26 => ?_; cases hv26) <;> (refine yL 27 (q_ldao 4 tAgg25_LdS) fun v27 hv27 => ?_; cases hv27) <;> refine xL 28 q_move ?_ <;> (refine cP 29 (cA Tryz.call71 (hb)) fun va29 vb29 hva29 hvb29 => ?_; cases hvb29) <;> refine xL 25 q_move ?_ <;> refine xL 30 q_extract ?_ <;> refine xL 31 q_extract ?_ <;> refine s_alloc [(.int .i64 0), (.slice none 0 0), (.slice none 0 0), (.slice none 0 0), (.slice none 0 0)] 5 9 tZr95_LfP fun h9 => ?_ <;> refine s_sta 9 tAgg95_LfP ?_ <;> refine xL 10 q_assign ?_ <;> refine aL_end (nav ?_) <;> try dsimp only)
      (refine aC_region ?_ <;> refine xL 32 q_move ?_ <;> refine xL 33 q_neq ?_ <;> refine aL_end (nav ?_) <;> try dsimp only)
      (first | refine cCd ?_ ?_ | refine cC ?_ ?_) <;> intro hb33
      · first | omega | exact absurd rfl hb33 | exact Bool.noConfusion hb33
      · refine nav ?_
        (refine aC_region ?_ <;> refine xL 36 (q_fldo 9 tFl95_0_LfP) ?_ <;> (refine yL 37 (q_ldao 9 tAgg93_LfB) fun v37 hv37 => ?_; cases hv37) <;> (refine cP 38 (cA Tryz.call72 (hm)) fun va38 vb38 hva38 hvb38 => ?_; cases hvb38) <;> refine xL 39 q_extract ?_ <;> refine xL 40 q_extract ?_ <;> refine s_sta 6 tAgg25_LdS ?_ <;> refine xL 7 q_assign ?_ <;> refine aL_end (nav ?_) <;> try dsimp only)
        exact ret_cs (k := 5) 6 (by kernel_rfl) (Tryz.results18) rfl rfl rfl (Nat.le_of_ble_eq_true rfl) (by decide) rfl rfl)
theorem aProductW_er (a b A B : Aut) (op : Int) (q : List PrS × List (List Nat)) {e : Int} (ho : ¬ (op < 1 ∨ 4 < op)) (hf : AF Tryz.prog 70 [pAut a, pAut b] (· = pInt 0)) (hb : AF Tryz.prog 71 [pAut a, pAut b, pInt op] (· = .tup [pPairs A B op q, pInt 0])) (hm : AF Tryz.prog 72 [pTab (prodT A B op q)] (· = .tup [rawZ, pInt e])) : AF Tryz.prog 18 [pAut a, pAut b, pInt op] (· = .tup [rawZ, pInt e]) := by
 refine AF.of_body 41 Tryz.func18 rfl Tryz.ntmps18 (Nat.le_of_ble_eq_true rfl) ?_
 intro w0 M0 vs hl hv
 obtain ⟨v0, v1, v2, rfl⟩ := len3 hl
 obtain rfl := hv 2 _ _ rfl rfl
 clear hl hv
 refine nav ?_
 (refine aC_region ?_ <;> refine s_boxa 3 5 fun h3 => ?_ <;> refine s_boxa 4 5 fun h4 => ?_ <;> refine s_alloc [(.int .i64 0), (.int .i64 0), (.slice none 0 0), (.slice none 0 0), (.slice none 0 0)] 5 6 tZr25_LfD fun h6 => ?_ <;> refine xL 7 q_assign ?_ <;> refine aL_end (nav ?_) <;> try dsimp only)
 (refine aC_region ?_ <;> (refine yL 11 (q_ldao 3 tAgg25_LdS) fun v11 hv11 => ?_; cases hv11) <;> (refine yL 12 (q_ldao 4 tAgg25_LdS) fun v12 hv12 => ?_; cases hv12) <;> (refine cS 13 (cA Tryz.call70 (hf)) fun v13 hv13 => ?_; cases hv13) <;> refine xL 8 q_assign ?_ <;> refine aL_end (nav ?_) <;> try dsimp only)
 (refine aC_region ?_ <;> refine xL 14 q_move ?_ <;> refine xL 15 q_neq ?_ <;> refine aL_end (nav ?_) <;> try dsimp only)
 (first | refine cCd ?_ ?_ | refine cC ?_ ?_) <;> intro hb15
 · first | omega | exact absurd rfl hb15 | exact Bool.noConfusion hb15
 · refine nav ?_
   (refine aC_region ?_ <;> refine xL 18 q_move ?_ <;> refine xL 19 q_lss ?_ <;> refine xL 20 q_move ?_ <;> (refine bLd 20 (fun hb20 => ?_) (fun hb20 => ?_) <;> (first | refine kL 21 ?_ | refine xL 21 q_move ?_)) <;> (first | refine kL 22 ?_ | refine xL 22 q_gtr ?_) <;> refine xL 23 q_pick ?_ <;> refine aL_end (nav ?_) <;> try dsimp only) <;> (
    (first | refine cCd ?_ ?_ | refine cC ?_ ?_) <;> intro hb23
    · exfalso; first | omega | (simp_all; done) | (simp_all; omega)
    · refine nav ?_
      (refine aC_region ?_ <;> (refine yL 26 (q_ldao 3 tAgg25_LdS) fun v26 hv26 => ?_; cases hv26) <;> (refine yL 27 (q_ldao 4 tAgg25_LdS) fun v27 hv27 => ?_; cases hv27) <;> refine xL 28 q_move ?_ <;> (refine cP 29 (cA Tryz.call71 (hb)) fun va29 vb29 hva29 hvb29 => ?_; cases hvb29) <;> refine xL 25 q_move ?_ <;> refine xL 30 q_extract ?_ <;> refine xL 31 q_extract ?_ <;> refine s_alloc [(.int .i64 0), (.slice none 0 0), (.slice none 0 0), (.slice none 0 0), (.slice none 0 0)] 5 9 tZr95_LfP fun h9 => ?_ <;> refine s_sta 9 tAgg95_LfP ?_ <;> refine xL 10 q_assign ?_ <;> refine aL_end (nav ?_) <;> try dsimp only)
      (refine aC_region ?_ <;> refine xL 32 q_move ?_ <;> refine xL 33 q_neq ?_ <;> refine aL_end (nav ?_) <;> try dsimp only)
      (first | refine cCd ?_ ?_ | refine cC ?_ ?_) <;> intro hb33
      · first | omega | exact absurd rfl hb33 | exact Bool.noConfusion hb33
      · refine nav ?_
        (refine aC_region ?_ <;> refine xL 36 (q_fldo 9 tFl95_0_LfP) ?_ <;> (refine yL 37 (q_ldao 9 tAgg93_LfB) fun v37 hv37 => ?_; cases hv37) <;> (refine cP 38 (cA Tryz.call72 (hm)) fun va38 vb38 hva38 hvb38 => ?_; cases hvb38) <;> refine xL 39 q_extract ?_ <;> refine xL 40 q_extract ?_ <;> refine s_sta 6 tAgg25_LdS ?_ <;> refine xL 7 q_assign ?_ <;> refine aL_end (nav ?_) <;> try dsimp only)
        exact ret_cs (k := 5) 6 (by kernel_rfl) (Tryz.results18) rfl rfl rfl (Nat.le_of_ble_eq_true rfl) (by decide) rfl rfl)
theorem bothX_ok {a b A B : Aut} {q : List PrS × List (List Nat)} (h : bothX a b = .ok (A, B, q)) : redX a = .ok A ∧ redX b = .ok B ∧ prodQ A B = some q := by
 unfold bothX at h
 split at h
 · rename_i A' B' ea eb
   split at h
   · rename_i q' eq
     cases h
     exact ⟨ea, eb, eq⟩
   · cases h
 · cases h
theorem bothX_err {a b : Aut} {e : Int} (h : bothX a b = .error e) : e = 13 := by
 unfold bothX at h
 split at h
 · split at h <;> cases h
   rfl
 · cases h; rfl
theorem both_tok {a b A B : Aut} {q : List PrS × List (List Nat)} (op : Int) (hf : fitX a b = 0) (h : bothX a b = .ok (A, B, q)) : TOk (prodT A B op q) := by
 obtain ⟨h1, h2, h3⟩ := fit_zero hf
 obtain ⟨ea, eb, eq⟩ := bothX_ok h
 obtain ⟨dA, sA⟩ := redX_det (aok_of h1) ea
 obtain ⟨dB, sB⟩ := redX_det (aok_of h2) eb
 exact prod_tok dA dB (by rw [sA, sB, h3]) op eq
theorem aProductW_e (a b : Aut) (op : Int) : AF Tryz.prog 18 [pAut a, pAut b, pInt op] (· = resW (prodX a b op)) := by
 have hf := aFit_e a b
 unfold prodX
 by_cases h0 : fitX a b = 0
 · rw [if_neg (fun h => h h0)]
   rw [h0] at hf
   by_cases ho : op < 1 ∨ 4 < op
   · rw [if_pos ho]; exact aProductW_op a b op ho hf
   · rw [if_neg ho]
     have hb := aBoth_e a b op h0
     unfold resB at hb
     cases e : bothX a b with
     | error f =>
       rw [e] at hb
       obtain rfl := bothX_err e
       exact aProductW_err a b op 13 ho (by decide) hf hb
     | ok x =>
       obtain ⟨A, B, q⟩ := x
       rw [e] at hb
       have ht := both_tok op h0 e
       have hm := aMinimal_e _ ht
       dsimp only
       rcases res_cases (lim (leastT (prodT A B op q))) with ⟨A', _, h2⟩ | ⟨e', _, h2⟩
       · rw [h2] at hm ⊢
         exact aProductW_ok a b A B op q ho hf hb hm
       · rw [h2] at hm ⊢
         exact aProductW_er a b A B op q ho hf hb hm
 · rw [if_pos h0]
   exact aProductW_bad a b op _ h0 hf
theorem tEl75_LiJ : ElT Tryz.prog 75 25 5 88 (.agg #[(.int .i64 0), (.int .i64 0), (.slice none 0 0), (.slice none 0 0), (.slice none 0 0)]) := ⟨Tryz.underlying75, by kernel_rfl, rfl, by decide⟩
def opP (op : Int) : Int := (op.tmod 4 + 4).tmod 4 + 1
theorem opP_bd (op : Int) : opP op = 1 ∨ opP op = 2 ∨ opP op = 3 ∨ opP op = 4 := by
 unfold opP
 have h1 := Int.tmod_lt_of_pos op (show (0 : Int) < 4 by decide)
 have h2 := Int.lt_tmod_of_pos op (show (0 : Int) < 4 by decide)
 have h3 := Int.tmod_lt_of_pos (op.tmod 4 + 4) (show (0 : Int) < 4 by decide)
 have h4 := Int.tmod_nonneg 4 (show 0 ≤ op.tmod 4 + 4 by omega)
 omega
theorem slc_ints (w : List Int) (i j : Nat) : PV.sl (j - i) (((w.map pInt).drop (i * 1)).take ((j - i) * 1)) = PV.sl (j - i) (((w.drop i).take (j - i)).map pInt) := by
 rw [Nat.mul_one, Nat.mul_one, List.map_take, List.map_drop]
theorem slc_intsL {w : List Int} {i j : Nat} (h : j ≤ w.length) (hij : i ≤ j) : PV.sl (j - i) (((w.map pInt).drop (i * 1)).take ((j - i) * 1)) = pInts ((w.drop i).take (j - i)) := by
 rw [slc_ints]
 unfold pInts
 rw [List.length_take, List.length_drop, Nat.min_eq_left (by omega)]
theorem vec_up {n k : Nat} {f f' : Nat → Bool} {x : Bool} (h : ∀ j, j < n → f' j = if j = k then x else f j) : (vec n fun j => pBool (f j)).set (k * 1) (pBool x) = vec n fun j => pBool (f' j) := by
 rw [Nat.mul_one, vec_set]
 refine vec_congr fun j hj => ?_
 rw [h j hj]; split <;> rfl
theorem stV_up {a : Aut} {w : List Int} {k i : Nat} (hik : i < k) {x : Bool} (hx : x = (stV a w k i k || (stV a w k i i && partB a w i k))) (j : Nat) : stV a w k (i + 1) j = if j = k then x else stV a w k i j := by
 have h := stV_set a w k i j
 rw [if_pos hik] at h
 rw [hx]; exact h.symm
set_option maxHeartbeats 2000000 in
theorem autOperates_no (a b : Aut) (w : List Int) (op : Int) (h : ¬ ((accX a w).2 = 0 ∧ (accX b w).2 = 0)) : AF Tryz.prog 12 [pAut a, pAut b, pInts w, pInt op] (· = pBool true) := by
 have t1 := takes07_e a w
 have t2 := takes07_e b w
 refine AF.of_body 356 Tryz.func12 rfl Tryz.ntmps12 (Nat.le_of_ble_eq_true rfl) ?_
 intro w0 M0 vs hl hv
 obtain ⟨v0, v1, v2, v3, rfl⟩ := len4 hl
 obtain rfl := hv 3 _ _ rfl rfl
 clear hl hv
 refine nav ?_
 (refine aC_region ?_ <;> refine s_boxa 4 5 fun h4 => ?_ <;> refine s_boxa 5 5 fun h5 => ?_ <;> refine s_box 6 fun h6 => ?_ <;> refine xL 8 q_assign ?_ <;> refine aL_end (nav ?_) <;> try dsimp only)
 (refine aC_region ?_ <;> (refine cS 49 (cA Tryz.call13 (awake07_e)) fun v49 hv49 => ?_; cases hv49) <;> refine xL 50 q_not ?_ <;> refine aL_end (nav ?_) <;> try dsimp only)
 (first | refine cCd ?_ ?_ | refine cC ?_ ?_) <;> intro hb50
 · first
   | exact Bool.noConfusion hb50
   | (
    refine nav ?_
    (refine aC_region ?_ <;> refine xL 8 q_assign ?_ <;> refine aL_end (nav ?_) <;> try dsimp only)
    exfalso; simp at hb50)
 · first
   | exact Bool.noConfusion hb50
   | (
    refine nav ?_
    (refine aC_region ?_ <;> (refine yL 51 (q_ldao 4 tAgg25_LdS) fun v51 hv51 => ?_; cases hv51) <;> (refine yL 52 (q_ldao 5 tAgg25_LdS) fun v52 hv52 => ?_; cases hv52) <;> (refine s_lita (kk := 5) (xs := [_, _]) (cs := [[_, _, _, _, _], [_, _, _, _, _]]) 53 tEl75_LiJ fun h53 ho53 => ?_; refine aL_ent (En.freeze (l := 53) (t := 53) rfl rfl) fun _ => ?_; refine aL_ent (reslot (t := 53) (p' := .sl [a, b].length ([a, b].flatMap cAut)) rfl rfl) fun _ => ?_) <;> (refine cS 54 (cA Tryz.call14 (great07_e [a, b])) fun v54 hv54 => ?_; cases hv54) <;> refine xL 55 q_move ?_ <;> (refine bL 55 (fun hb55 => ?_) (fun hb55 => ?_) <;> (first | refine kL 56 ?_ | (refine yL 56 (q_ldo 6 tNa22_LdI) fun v56 hv56 => ?_; cases hv56))) <;> (first | refine kL 57 ?_ | refine xL 57 (q_len tSl22_LbB) ?_) <;> (first | refine kL 58 ?_ | refine xL 58 q_gtr ?_) <;> refine xL 59 q_pick ?_ <;> refine aL_end (nav ?_) <;> try dsimp only) <;> (
     (first | refine cCd ?_ ?_ | refine cC ?_ ?_) <;> intro hb59
     · first
       | exact Bool.noConfusion hb59
       | (
        refine nav ?_
        (refine aC_region ?_ <;> refine xL 8 q_assign ?_ <;> refine aL_end (nav ?_) <;> try dsimp only)
        exact ret_shr (Tryz.results12) rfl rfl)
     · first
       | exact Bool.noConfusion hb59
       | (
        refine nav ?_
        (refine aC_region ?_ <;> (refine yL 61 (q_ldao 4 tAgg25_LdS) fun v61 hv61 => ?_; cases hv61) <;> (refine yL 62 (q_ldo 6 tNa22_LdI) fun v62 hv62 => ?_; cases hv62) <;> (refine cP 63 (cA Tryz.call39 (t1)) fun va63 vb63 hva63 hvb63 => ?_; cases hva63; cases hvb63) <;> refine xL 60 q_move ?_ <;> refine xL 64 q_extract ?_ <;> refine xL 65 q_extract ?_ <;> refine xL 9 q_assign ?_ <;> refine xL 10 q_assign ?_ <;> refine aL_end (nav ?_) <;> try dsimp only)
        (refine aC_region ?_ <;> (refine yL 67 (q_ldao 5 tAgg25_LdS) fun v67 hv67 => ?_; cases hv67) <;> (refine yL 68 (q_ldo 6 tNa22_LdI) fun v68 hv68 => ?_; cases hv68) <;> (refine cP 69 (cA Tryz.call39 (t2)) fun va69 vb69 hva69 hvb69 => ?_; cases hva69; cases hvb69) <;> refine xL 66 q_move ?_ <;> refine xL 70 q_extract ?_ <;> refine xL 71 q_extract ?_ <;> refine xL 11 q_assign ?_ <;> refine xL 12 q_assign ?_ <;> refine aL_end (nav ?_) <;> try dsimp only)
        (refine aC_region ?_ <;> refine xL 72 q_move ?_ <;> refine xL 73 q_not ?_ <;> refine xL 74 q_move ?_ <;> (refine bL 74 (fun hb74 => ?_) (fun hb74 => ?_) <;> (first | refine kL 75 ?_ | refine xL 75 q_move ?_)) <;> (first | refine kL 76 ?_ | refine xL 76 q_not ?_) <;> refine xL 77 q_pick ?_ <;> refine aL_end (nav ?_) <;> try dsimp only) <;> (
         (first | refine cCd ?_ ?_ | refine cC ?_ ?_) <;> intro hb77
         · refine nav ?_
           (refine aC_region ?_ <;> refine xL 8 q_assign ?_ <;> refine aL_end (nav ?_) <;> try dsimp only)
           exact ret_shr (Tryz.results12) rfl rfl
         · first
            | exact Bool.noConfusion hb77
            | (exfalso
               apply h
               constructor <;> first | (simpa using hb74) | (simpa using hb77))))))
set_option maxHeartbeats 8000000 in
theorem autOperates_c (a b : Aut) (w : List Int) (op : Int) (i1 i2 : Bool) (hva : autOk a = true) (hvb : autOk b = true) (hwl : w.length ≤ 200) (hwa : InW a.syms w) (hwb : InW b.syms w) (hop : -9223372036854775808 ≤ op ∧ op ≤ 9223372036854775807)
 {m c p u cc st rv sh : Aut} {e1 e2 e3 e4 e5 e6 e7 e8 : Int}
 (t1 : AF Tryz.prog 39 [pAut a, pInts w] (· = .tup [pBool i1, pBool true])) (t2 : AF Tryz.prog 39 [pAut b, pInts w] (· = .tup [pBool i2, pBool true]))
 (ta : ∀ v, InW a.syms v → v.length ≤ 200 → AF Tryz.prog 39 [pAut a, pInts v] (· = .tup [pBool (accA a v), pBool true])) (tb : ∀ v, InW b.syms v → v.length ≤ 200 → AF Tryz.prog 39 [pAut b, pInts v] (· = .tup [pBool (accA b v), pBool true]))
 (c1 : AF Tryz.prog 26 [pAut a] (· = .tup [pAut m, pInt e1])) (k1 : AF Tryz.prog 49 [pAut m, pInt e1, pBool i1, .sptr 0 (cA5 a), .sptr 0 (cA5 b), .sptr 0 [pInts w]] (· = pBool true))
 (c2 : AF Tryz.prog 28 [pAut a] (· = .tup [pAut c, pInt e2])) (k2 : AF Tryz.prog 49 [pAut c, pInt e2, pBool (!i1), .sptr 0 (cA5 a), .sptr 0 (cA5 b), .sptr 0 [pInts w]] (· = pBool true))
 (c3 : AF Tryz.prog 18 [pAut a, pAut b, pInt (opP op)] (· = .tup [pAut p, pInt e3])) (k3 : AF Tryz.prog 49 [pAut p, pInt e3, pBool (decB (opP op) i1 i2), .sptr 0 (cA5 a), .sptr 0 (cA5 b), .sptr 0 [pInts w]] (· = pBool true))
 (c4 : AF Tryz.prog 40 [pAut a, pAut b] (· = .tup [pAut u, pInt e4])) (k4 : AF Tryz.prog 49 [pAut u, pInt e4, pBool (i1 || i2), .sptr 0 (cA5 a), .sptr 0 (cA5 b), .sptr 0 [pInts w]] (· = pBool true))
 (c5 : AF Tryz.prog 42 [pAut a, pAut b] (· = .tup [pAut cc, pInt e5])) (k5 : AF Tryz.prog 49 [pAut cc, pInt e5, pBool (cutB a b w (w.length + 1)), .sptr 0 (cA5 a), .sptr 0 (cA5 b), .sptr 0 [pInts w]] (· = pBool true))
 (c6 : AF Tryz.prog 44 [pAut a] (· = .tup [pAut st, pInt e6])) (k6 : AF Tryz.prog 49 [pAut st, pInt e6, pBool (stV a w (w.length + 1) 0 w.length), .sptr 0 (cA5 a), .sptr 0 (cA5 b), .sptr 0 [pInts w]] (· = pBool true))
 (c7 : AF Tryz.prog 46 [pAut a] (· = .tup [pAut rv, pInt e7])) (k7 : AF Tryz.prog 49 [pAut rv, pInt e7, pBool (accA a w.reverse), .sptr 0 (cA5 a), .sptr 0 (cA5 b), .sptr 0 [pInts w]] (· = pBool true))
 (c8 : AF Tryz.prog 37 [pAut a, pAut b] (· = .tup [pAut sh, pInt e8])) (k8 : AF Tryz.prog 49 [pAut sh, pInt e8, pBool (mixB a b w (2 ^ w.length)), .sptr 0 (cA5 a), .sptr 0 (cA5 b), .sptr 0 [pInts w]] (· = pBool true)) : AF Tryz.prog 12 [pAut a, pAut b, pInts w, pInt op] (· = pBool true) := by
 have va := aok_of hva
 have vb := aok_of hvb
 have hn0 := va.n0
 have hn1 := va.n1
 have m0 := vb.n0
 have m1 := vb.n1
 refine AF.of_body 356 Tryz.func12 rfl Tryz.ntmps12 (Nat.le_of_ble_eq_true rfl) ?_
 intro w0 M0 vs hl hv
 obtain ⟨v0, v1, v2, v3, rfl⟩ := len4 hl
 obtain rfl := hv 3 _ _ rfl rfl
 clear hl hv
 refine nav ?_
 (refine aC_region ?_ <;> refine s_boxa 4 5 fun h4 => ?_ <;> refine s_boxa 5 5 fun h5 => ?_ <;> refine s_box 6 fun h6 => ?_ <;> refine xL 8 q_assign ?_ <;> refine aL_end (nav ?_) <;> try dsimp only)
 (refine aC_region ?_ <;> (refine cS 49 (cA Tryz.call13 (awake07_e)) fun v49 hv49 => ?_; cases hv49) <;> refine xL 50 q_not ?_ <;> refine aL_end (nav ?_) <;> try dsimp only)
 (first | refine cCd ?_ ?_ | refine cC ?_ ?_) <;> intro hb50
 · first
   | exact Bool.noConfusion hb50
   | (
    refine nav ?_
    (refine aC_region ?_ <;> refine xL 8 q_assign ?_ <;> refine aL_end (nav ?_) <;> try dsimp only)
    exfalso; simp at hb50)
 · first
   | exact Bool.noConfusion hb50
   | (
    refine nav ?_
    (refine aC_region ?_ <;> (refine yL 51 (q_ldao 4 tAgg25_LdS) fun v51 hv51 => ?_; cases hv51) <;> (refine yL 52 (q_ldao 5 tAgg25_LdS) fun v52 hv52 => ?_; cases hv52) <;> (refine s_lita (kk := 5) (xs := [_, _]) (cs := [[_, _, _, _, _], [_, _, _, _, _]]) 53 tEl75_LiJ fun h53 ho53 => ?_; refine aL_ent (En.freeze (l := 53) (t := 53) rfl rfl) fun _ => ?_; refine aL_ent (reslot (t := 53) (p' := .sl [a, b].length ([a, b].flatMap cAut)) rfl rfl) fun _ => ?_) <;> (refine cS 54 (cA Tryz.call14 (great07_e [a, b])) fun v54 hv54 => ?_; cases hv54) <;> refine xL 55 q_move ?_ <;> (refine bL 55 (fun hb55 => ?_) (fun hb55 => ?_) <;> (first | refine kL 56 ?_ | (refine yL 56 (q_ldo 6 tNa22_LdI) fun v56 hv56 => ?_; cases hv56))) <;> (first | refine kL 57 ?_ | refine xL 57 (q_len tSl22_LbB) ?_) <;> (first | refine kL 58 ?_ | refine xL 58 q_gtr ?_) <;> refine xL 59 q_pick ?_ <;> refine aL_end (nav ?_) <;> try dsimp only) <;> (
     (first | refine cCd ?_ ?_ | refine cC ?_ ?_) <;> intro hb59
     · first
       | exact Bool.noConfusion hb59
       | (
        refine nav ?_
        (refine aC_region ?_ <;> refine xL 8 q_assign ?_ <;> refine aL_end (nav ?_) <;> try dsimp only)
        exact ret_shr (Tryz.results12) rfl rfl)
     · first
       | exact Bool.noConfusion hb59
       | (
        have hw7 : w.length ≤ 7 := by omega
        refine nav ?_
        (refine aC_region ?_ <;> (refine yL 61 (q_ldao 4 tAgg25_LdS) fun v61 hv61 => ?_; cases hv61) <;> (refine yL 62 (q_ldo 6 tNa22_LdI) fun v62 hv62 => ?_; cases hv62) <;> (refine cP 63 (cA Tryz.call39 (t1)) fun va63 vb63 hva63 hvb63 => ?_; cases hva63; cases hvb63) <;> refine xL 60 q_move ?_ <;> refine xL 64 q_extract ?_ <;> refine xL 65 q_extract ?_ <;> refine xL 9 q_assign ?_ <;> refine xL 10 q_assign ?_ <;> refine aL_end (nav ?_) <;> try dsimp only)
        (refine aC_region ?_ <;> (refine yL 67 (q_ldao 5 tAgg25_LdS) fun v67 hv67 => ?_; cases hv67) <;> (refine yL 68 (q_ldo 6 tNa22_LdI) fun v68 hv68 => ?_; cases hv68) <;> (refine cP 69 (cA Tryz.call39 (t2)) fun va69 vb69 hva69 hvb69 => ?_; cases hva69; cases hvb69) <;> refine xL 66 q_move ?_ <;> refine xL 70 q_extract ?_ <;> refine xL 71 q_extract ?_ <;> refine xL 11 q_assign ?_ <;> refine xL 12 q_assign ?_ <;> refine aL_end (nav ?_) <;> try dsimp only)
        (refine aC_region ?_ <;> refine xL 72 q_move ?_ <;> refine xL 73 q_not ?_ <;> refine xL 74 q_move ?_ <;> refine xL 75 q_move ?_ <;> refine xL 76 q_not ?_ <;> refine xL 77 q_pick ?_ <;> refine aL_end (nav ?_) <;> try dsimp only) <;> (
         refine cCf ?_
         refine nav ?_
         refine aC_ent (freezeP (l := 4) (t := 4) (j := 0) rfl Nat.one_pos rfl) fun _ => ?_
         refine aC_ent (freezeP (l := 5) (t := 5) (j := 0) rfl Nat.one_pos rfl) fun _ => ?_
         refine aC_ent (freezeP (l := 6) (t := 6) (j := 0) rfl Nat.one_pos rfl) fun _ => ?_
         refine aC_ent (reslot (t := 4) (p' := .sptr 0 (cA5 a)) rfl rfl) fun _ => ?_
         refine aC_ent (reslot (t := 5) (p' := .sptr 0 (cA5 b)) rfl rfl) fun _ => ?_
         refine aC_ent (reslot (t := 6) (p' := .sptr 0 [pInts w]) rfl rfl) fun _ => ?_
         (refine aC_region ?_ <;> refine xL 78 q_mkfn ?_ <;> refine xL 13 q_assign ?_ <;> refine aL_end (nav ?_) <;> try dsimp only)
         (refine aC_region ?_ <;> (refine yL 80 (q_lda tAgg25_LdS) fun v80 hv80 => ?_; cases hv80) <;> (refine cP 81 (cA Tryz.call26 (c1)) fun va81 vb81 hva81 hvb81 => ?_; cases hvb81) <;> refine xL 79 q_move ?_ <;> refine xL 82 q_extract ?_ <;> refine xL 83 q_extract ?_ <;> refine s_alloc [(.int .i64 0), (.int .i64 0), (.slice none 0 0), (.slice none 0 0), (.slice none 0 0)] 5 14 tZr25_LfD fun h14 => ?_ <;> refine s_sta 14 tAgg25_LdS ?_ <;> refine xL 15 q_assign ?_ <;> refine aL_end (nav ?_) <;> try dsimp only)
         (refine aC_region ?_ <;> (refine yL 85 (q_lda tAgg25_LdS) fun v85 hv85 => ?_; cases hv85) <;> (refine cP 86 (cA Tryz.call28 (c2)) fun va86 vb86 hva86 hvb86 => ?_; cases hvb86) <;> refine xL 84 q_move ?_ <;> refine xL 87 q_extract ?_ <;> refine xL 88 q_extract ?_ <;> refine s_alloc [(.int .i64 0), (.int .i64 0), (.slice none 0 0), (.slice none 0 0), (.slice none 0 0)] 5 16 tZr25_LfD fun h16 => ?_ <;> refine s_sta 16 tAgg25_LdS ?_ <;> refine xL 17 q_assign ?_ <;> refine aL_end (nav ?_) <;> try dsimp only)
         (refine aC_region ?_ <;> refine xL 89 q_move ?_ <;> (refine yL 90 (q_ldao 14 tAgg25_LdS) fun v90 hv90 => ?_; cases hv90) <;> refine xL 91 q_move ?_ <;> refine xL 92 q_move ?_ <;> (refine cS 93 (callF (f := 49) (ps := [.sptr 0 (cA5 a), .sptr 0 (cA5 b), .sptr 0 [pInts w]]) rfl ⟨_, rfl⟩ (Tryz.call49) rfl k1) fun v93 hv93 => ?_; cases hv93) <;> refine xL 94 q_not ?_ <;> refine xL 95 q_move ?_ <;> refine xL 96 q_move ?_ <;> (refine yL 97 (q_ldao 16 tAgg25_LdS) fun v97 hv97 => ?_; cases hv97) <;> refine xL 98 q_move ?_ <;> refine xL 99 q_move ?_ <;> refine xL 100 q_not ?_ <;> (refine cS 101 (callF (f := 49) (ps := [.sptr 0 (cA5 a), .sptr 0 (cA5 b), .sptr 0 [pInts w]]) rfl ⟨_, rfl⟩ (Tryz.call49) rfl k2) fun v101 hv101 => ?_; cases hv101) <;> refine xL 102 q_not ?_ <;> refine xL 103 q_pick ?_ <;> refine aL_end (nav ?_) <;> try dsimp only) <;> (
          refine cCf ?_
          refine nav ?_
          have z1 := Int.tmod_lt_of_pos op (show (0 : Int) < 4 by decide)
          have z2 := Int.lt_tmod_of_pos op (show (0 : Int) < 4 by decide)
          have z3 := Int.tmod_lt_of_pos (op.tmod 4 + 4) (show (0 : Int) < 4 by decide)
          have z4 := Int.tmod_nonneg 4 (show 0 ≤ op.tmod 4 + 4 by omega)
          (refine aC_region ?_ <;> refine xL 104 q_move ?_ <;> refine xL 105 q_rem ?_ <;> refine xL 106 q_add ?_ <;> refine xL 107 q_rem ?_ <;> refine xL 108 q_add ?_ <;> refine xL 3 q_assign ?_ <;> refine aL_end (nav ?_) <;> try dsimp only)
          have hp4 := opP_bd op
          have eP : (op.tmod 4 + 4).tmod 4 + 1 = opP op := rfl
          rw [eP]
          obtain ⟨pp, hpp⟩ : ∃ pp, pp = opP op := ⟨_, rfl⟩
          rw [← hpp] at c3 k3 hp4 ⊢
          (refine aC_region ?_ <;> (refine yL 110 (q_lda tAgg25_LdS) fun v110 hv110 => ?_; cases hv110) <;> (refine yL 111 (q_lda tAgg25_LdS) fun v111 hv111 => ?_; cases hv111) <;> refine xL 112 q_move ?_ <;> (refine cP 113 (cA Tryz.call18 (c3)) fun va113 vb113 hva113 hvb113 => ?_; cases hvb113) <;> refine xL 109 q_move ?_ <;> refine xL 114 q_extract ?_ <;> refine xL 115 q_extract ?_ <;> refine s_alloc [(.int .i64 0), (.int .i64 0), (.slice none 0 0), (.slice none 0 0), (.slice none 0 0)] 5 18 tZr25_LfD fun h18 => ?_ <;> refine s_sta 18 tAgg25_LdS ?_ <;> refine xL 15 q_assign ?_ <;> refine aL_end (nav ?_) <;> try dsimp only)
          refine aC_mid2 (fun _ : Unit => ⟨[(4, padd (sbase h4) 0, .sptr 0 (cA5 a)), (5, padd (sbase h5) 0, .sptr 0 (cA5 b)), (6, padd (sbase h6) 0, .sptr 0 [pInts w]), (13, .func (.func 49) #[] #[padd (sbase h4) 0, padd (sbase h5) 0, padd (sbase h6) 0], .fn 49 [.sptr 0 (cA5 a), .sptr 0 (cA5 b), .sptr 0 [pInts w]])], []⟩) ?_ ?_
          · (refine aC_region ?_ <;> (refine yL 117 (q_lda tAgg25_LdS) fun v117 hv117 => ?_; cases hv117) <;> (refine yL 118 (q_lda tAgg25_LdS) fun v118 hv118 => ?_; cases hv118) <;> (refine cP 119 (cA Tryz.call40 (c4)) fun va119 vb119 hva119 hvb119 => ?_; cases hvb119) <;> refine xL 116 q_move ?_ <;> refine xL 120 q_extract ?_ <;> refine xL 121 q_extract ?_ <;> refine s_alloc [(.int .i64 0), (.int .i64 0), (.slice none 0 0), (.slice none 0 0), (.slice none 0 0)] 5 19 tZr25_LfD fun h19 => ?_ <;> refine s_sta 19 tAgg25_LdS ?_ <;> refine xL 17 q_assign ?_ <;> refine aL_end (nav ?_) <;> try dsimp only)
            (refine aC_region ?_ <;> (rcases hp4 with h | h | h | h <;> rcases i1 with _ | _ <;> rcases i2 with _ | _ <;> (subst h; refine xL 122 q_move ?_)) <;> (refine yL 123 (q_ldao 18 tAgg25_LdS) fun v123 hv123 => ?_; cases hv123) <;> refine xL 124 q_move ?_ <;> refine xL 125 q_move ?_ <;> refine xL 126 q_eql ?_ <;> refine xL 127 q_move ?_ <;> (first | refine kL 128 ?_ | refine xL 128 q_move ?_) <;> refine xL 129 q_pick ?_ <;> refine xL 130 q_move ?_ <;> (first | refine kL 131 ?_ | refine xL 131 q_move ?_) <;> refine xL 132 q_pick ?_ <;> refine xL 133 q_move ?_ <;> (first | refine kL 134 ?_ | refine xL 134 q_move ?_) <;> (first | refine kL 135 ?_ | refine xL 135 q_eql ?_) <;> (first | refine kL 136 ?_ | refine xL 136 q_move ?_) <;> (first | refine kL 137 ?_ | refine xL 137 q_move ?_) <;> (first | refine kL 138 ?_ | refine xL 138 q_move ?_) <;> (first | refine kL 139 ?_ | refine xL 139 q_move ?_) <;> (first | refine kL 140 ?_ | refine xL 140 q_pick ?_) <;> (first | refine kL 141 ?_ | refine xL 141 q_pick ?_) <;> refine xL 142 q_pick ?_ <;> refine xL 143 q_move ?_ <;> (first | refine kL 144 ?_ | refine xL 144 q_move ?_) <;> (first | refine kL 145 ?_ | refine xL 145 q_eql ?_) <;> (first | refine kL 146 ?_ | refine xL 146 q_move ?_) <;> (first | refine kL 147 ?_ | refine xL 147 q_move ?_) <;> (first | refine kL 148 ?_ | refine xL 148 q_pick ?_) <;> (first | refine kL 149 ?_ | refine xL 149 q_move ?_) <;> (first | refine kL 150 ?_ | refine xL 150 q_move ?_) <;> (first | refine kL 151 ?_ | refine xL 151 q_not ?_) <;> (first | refine kL 152 ?_ | refine xL 152 q_pick ?_) <;> refine xL 153 q_pick ?_ <;> refine xL 154 q_move ?_ <;> (first | refine kL 155 ?_ | refine xL 155 q_move ?_) <;> (first | refine kL 156 ?_ | refine xL 156 q_eql ?_) <;> (first | refine kL 157 ?_ | refine xL 157 q_move ?_) <;> (first | refine kL 158 ?_ | refine xL 158 q_move ?_) <;> (first | refine kL 159 ?_ | refine xL 159 q_move ?_) <;> (first | refine kL 160 ?_ | refine xL 160 (q_bneq Tryz.underlying4) ?_) <;> (first | refine kL 161 ?_ | refine xL 161 q_pick ?_) <;> refine xL 162 q_pick ?_ <;> (refine cS 163 (callF (f := 49) (ps := [.sptr 0 (cA5 a), .sptr 0 (cA5 b), .sptr 0 [pInts w]]) rfl ⟨_, rfl⟩ (Tryz.call49) rfl k3) fun v163 hv163 => ?_; cases hv163) <;> refine xL 164 q_not ?_ <;> refine xL 165 q_move ?_ <;> refine xL 166 q_move ?_ <;> (refine yL 167 (q_ldao 19 tAgg25_LdS) fun v167 hv167 => ?_; cases hv167) <;> refine xL 168 q_move ?_ <;> refine xL 169 q_move ?_ <;> refine xL 170 q_move ?_ <;> (first | refine kL 171 ?_ | refine xL 171 q_move ?_) <;> refine xL 172 q_pick ?_ <;> (refine cS 173 (callF (f := 49) (ps := [.sptr 0 (cA5 a), .sptr 0 (cA5 b), .sptr 0 [pInts w]]) rfl ⟨_, rfl⟩ (Tryz.call49) rfl k4) fun v173 hv173 => ?_; cases hv173) <;> refine xL 174 q_not ?_ <;> refine xL 175 q_pick ?_ <;> refine aL_end (nav ?_) <;> try dsimp only) <;> (
             refine cCf ?_
             refine nav ?_
             exact aN_join () ⟨rfl, rfl, rfl, rfl, trivial⟩ trivial)
          · intro _
            skip
            refine nav ?_
            (refine aC_region ?_ <;> refine xL 20 q_assign ?_ <;> refine aL_end (nav ?_) <;> try dsimp only)
            have f5 : (w.map pInt).length = w.length * 1 := by rw [List.length_map, Nat.mul_one]
            have hn8 : w.length + 1 ≤ 8 := by omega
            have q0 := vec_len (w.length + 1) (fun _ : Nat => pBool false)
            (refine aC_region ?_ <;> (refine yL 176 (q_ld tNa22_LdI) fun v176 hv176 => ?_; cases hv176) <;> refine xL 177 (q_len tSl22_LbB) ?_ <;> (refine xL 178 q_add ?_; rw [show ((w.length : Nat) : Int) + 1 = ((w.length + 1 : Nat) : Int) from rfl]) <;> refine s_make 179 tEl66_LdR fun h179 ho179 => ?_ <;> refine xL 21 q_assign ?_ <;> refine aL_end (nav ?_) <;> try dsimp only)
            rw [show List.replicate (w.length + 1) (PV.val (.bool false)) = vec (w.length + 1) (fun _ => pBool false) from vec_const _ _]
            (refine aC_region ?_ <;> refine xL 180 q_move ?_ <;> refine xL 181 (q_idxoN 179 tSl66_LdJ) ?_ <;> refine s_st 179 tNa4_LdJ tSz4_LdR ?_ <;> refine aL_end (nav ?_) <;> try dsimp only)
            refine aC_ent (recast (l := 179) (p' := .own 4 1 (w.length + 1) (vec (w.length + 1) fun j => pBool (stV a w 0 0 j))) rfl (by
             congr 1
             exact vec_up (f := fun _ => false) (k := 0) fun j _ => by rw [← stV_zero]; by_cases h : j = 0 <;> simp [h])) fun _ => ?_
            (refine aC_region ?_ <;> (refine yL 182 (q_ld tNa22_LdI) fun v182 hv182 => ?_; cases hv182) <;> refine xL 183 (q_len tSl22_LbB) ?_ <;> refine xL 184 q_add ?_ <;> refine xL 185 q_move ?_ <;> refine aL_end (nav ?_) <;> try dsimp only)
            refine aC_loop (ι := { k : Nat // k ≤ w.length + 1 }) (fun k => ⟨[(4, _, _), (5, _, _), (6, _, _), (13, _, _), (21, _, _), (184, _, _), (20, .bool (cutB a b w k.1), pBool (cutB a b w k.1)), (185, .int .i64 k.1, pInt k.1)], [(179, h179, .own 4 1 (w.length + 1) (vec (w.length + 1) fun j => pBool (stV a w k.1 0 j)))]⟩) (fun k => w.length + 1 - k.1) ⟨0, Nat.zero_le _⟩ (fun a w H => H.weaken ⟨rfl, rfl, rfl, rfl, rfl, rfl, rfl, rfl, trivial⟩ ⟨rfl, trivial⟩) ?_
            rintro ⟨kk, hk⟩
            dsimp only
            refine nav ?_
            (refine aC_region ?_ <;> refine xL 186 q_lss ?_ <;> refine aL_end (nav ?_) <;> try dsimp only)
            (first | refine cCd ?_ ?_ | refine cC ?_ ?_) <;> intro hb186
            · first
              | exact Bool.noConfusion hb186
              | (
               have hkw : kk ≤ w.length := by omega
               have g1 : PV.sl (kk - 0) (((w.map pInt).drop (0 * 1)).take ((kk - 0) * 1)) = pInts (w.take kk) := slc_intsL (w := w) (i := 0) (j := kk) hkw (Nat.zero_le _)
               have g2 := slc_intsL (w := w) (i := kk) (j := w.length) (Nat.le_refl _) hkw
               have g3 := ta (w.take kk) (hwa.take kk) (by rw [List.length_take]; omega)
               have g4 := tb (w.drop kk) (hwb.drop kk) (by rw [List.length_drop]; omega)
               rw [List.take_of_length_le (show (w.drop kk).length ≤ w.length - kk by rw [List.length_drop]; exact Nat.le_refl _)] at g2
               rw [← g1] at g3
               rw [← g2] at g4
               refine nav ?_
               (refine aC_region ?_ <;> refine xL 187 q_move ?_ <;> refine xL 22 q_assign ?_ <;> refine aL_end (nav ?_) <;> try dsimp only)
               (refine aC_draw (fun i => ([] : List Nat).elem i) [] (by kernel_rfl) ?_ <;> (refine yD 0 189 rfl (q_lda tAgg25_LdS) fun v189 hv189 => ?_; cases hv189) <;> (refine yD 1 190 rfl (q_ld tNa22_LdI) fun v190 hv190 => ?_; cases hv190) <;> refine xE 2 191 rfl q_move ?_ <;> refine xE 3 192 rfl (y_slc_shr (i := 0) (j := kk) tSl22_LbB rfl rfl rfl rfl (Nat.zero_le _) hkw f5) ?_ <;> (refine aD_one 4 (by kernel_rfl) ?_) <;> (refine aW_run rfl fun w9 M9 N9 DQ back => ?_) <;> (refine cP 193 (cA Tryz.call39 (g3)) fun va193 vb193 hva193 hvb193 => ?_; cases hva193; cases hvb193) <;> refine aL_end (back _ (nrm ?_)) <;> refine xE 5 188 rfl q_move ?_ <;> refine xD 6 194 rfl q_extract ?_ <;> refine xD 7 195 rfl q_extract ?_ <;> refine xE 8 23 rfl q_assign ?_ <;> refine xE 9 24 rfl q_assign ?_ <;> refine aD_end (by kernel_rfl) (nav ?_) <;> try dsimp only)
               refine aC_mid2 (fun _ : Unit => ⟨[(4, padd (sbase h4) 0, .sptr 0 (cA5 a)), (5, padd (sbase h5) 0, .sptr 0 (cA5 b)), (6, padd (sbase h6) 0, .sptr 0 [pInts w]), (13, .func (.func 49) #[] #[padd (sbase h4) 0, padd (sbase h5) 0, padd (sbase h6) 0], .fn 49 [.sptr 0 (cA5 a), .sptr 0 (cA5 b), .sptr 0 [pInts w]]), (20, .bool (cutB a b w (kk + 1)), pBool (cutB a b w (kk + 1))), (21, h179, .val h179), (22, .int .i64 (kk : Nat), pInt (kk : Nat)), (184, .int .i64 ((w.length : Nat) + 1), pInt ((w.length : Nat) + 1)), (185, .int .i64 (kk : Nat), pInt (kk : Nat))], [(179, h179, .own 4 1 (w.length + 1) (vec (w.length + 1) fun j => pBool (stV a w kk 0 j)))]⟩) ?_ ?_
               · (refine aC_draw (fun i => ([] : List Nat).elem i) [] (by kernel_rfl) ?_ <;> (refine yD 0 197 rfl (q_lda tAgg25_LdS) fun v197 hv197 => ?_; cases hv197) <;> (refine yD 1 198 rfl (q_ld tNa22_LdI) fun v198 hv198 => ?_; cases hv198) <;> refine xE 2 199 rfl q_move ?_ <;> refine xE 3 200 rfl (y_slc_shr (i := kk) (j := w.length) tSl22_LbB rfl rfl rfl rfl hkw (Nat.le_refl _) f5) ?_ <;> (refine aD_one 4 (by kernel_rfl) ?_) <;> (refine aW_run rfl fun w9 M9 N9 DQ back => ?_) <;> (refine cP 201 (cA Tryz.call39 (g4)) fun va201 vb201 hva201 hvb201 => ?_; cases hva201; cases hvb201) <;> refine aL_end (back _ (nrm ?_)) <;> refine xE 5 196 rfl q_move ?_ <;> refine xD 6 202 rfl q_extract ?_ <;> refine xD 7 203 rfl q_extract ?_ <;> refine xE 8 25 rfl q_assign ?_ <;> refine xE 9 26 rfl q_assign ?_ <;> refine aD_end (by kernel_rfl) (nav ?_) <;> try dsimp only)
                 (refine aC_region ?_ <;> refine xL 204 q_move ?_ <;> refine xL 205 q_move ?_ <;> (refine bL 205 (fun hb205 => ?_) (fun hb205 => ?_) <;> (first | refine kL 206 ?_ | refine xL 206 q_move ?_)) <;> (first | refine kL 207 ?_ | refine xL 207 q_move ?_) <;> (first | refine kL 208 ?_ | (refine bL 207 (fun hb207 => ?_) (fun hb207 => ?_) <;> (first | refine kL 208 ?_ | refine xL 208 q_move ?_))) <;> (first | refine kL 209 ?_ | refine xL 209 q_pick ?_) <;> refine xL 210 q_pick ?_ <;> (refine xL (v := .bool (cutB a b w (kk + 1))) (p := pBool (cutB a b w (kk + 1))) 20 (by first | (rw [show cutB a b w (kk + 1) = true by rw [cutB_snoc, hb205]; rfl]; exact q_assign) | (rw [show cutB a b w (kk + 1) = false by rw [cutB_snoc, hb205, hb207]; rfl]; exact q_assign) | (rw [show cutB a b w (kk + 1) = accA b (w.drop kk) by rw [cutB_snoc, hb205, hb207]; rfl]; exact q_assign)) ?_) <;> refine aL_end (nav ?_) <;> try dsimp only) <;> (
                  exact aN_join () ⟨rfl, rfl, rfl, rfl, rfl, rfl, rfl, rfl, rfl, trivial⟩ ⟨rfl, trivial⟩)
               · intro _
                 skip
                 refine nav ?_
                 (refine aC_region ?_ <;> refine xL 211 q_move ?_ <;> refine xL 212 q_move ?_ <;> refine aL_end (nav ?_) <;> try dsimp only)
                 refine aC_loop (ι := { i : Nat // i ≤ kk }) (fun k => ⟨[(4, _, _), (5, _, _), (6, _, _), (13, _, _), (20, _, _), (21, _, _), (22, _, _), (184, _, _), (185, _, _), (211, _, _), (212, .int .i64 k.1, pInt k.1)], [(179, h179, .own 4 1 (w.length + 1) (vec (w.length + 1) fun j => pBool (stV a w kk k.1 j)))]⟩) (fun k => kk - k.1) ⟨0, Nat.zero_le _⟩ (fun a w H => H.weaken ⟨rfl, rfl, rfl, rfl, rfl, rfl, rfl, rfl, rfl, rfl, rfl, trivial⟩ ⟨rfl, trivial⟩) ?_
                 rintro ⟨i, hi⟩
                 dsimp only
                 refine nav ?_
                 (refine aC_region ?_ <;> refine xL 213 q_lss ?_ <;> refine aL_end (nav ?_) <;> try dsimp only)
                 (first | refine cCd ?_ ?_ | refine cC ?_ ?_) <;> intro hb213
                 · first
                   | exact Bool.noConfusion hb213
                   | (
                    have hik : i < kk := by omega
                    have g5 := slc_intsL (w := w) (i := i) (j := kk) hkw hi
                    have g6 := ta ((w.drop i).take (kk - i)) ((hwa.drop i).take (kk - i)) (by rw [List.length_take, List.length_drop]; omega)
                    rw [← g5] at g6
                    have hik2 : i ≤ kk := hi
                    have q1 := vec_at1 (fun j => pBool (stV a w kk i j)) (show kk < w.length + 1 by omega)
                    have q2 := vec_at1 (fun j => pBool (stV a w kk i j)) (show i < w.length + 1 by omega)
                    have q3 := vec_len (w.length + 1) (fun j => pBool (stV a w kk i j))
                    have f6 : i ≤ kk ∧ kk ≤ w.length := ⟨hi, hkw⟩
                    refine nav ?_
                    (refine aC_region ?_ <;> refine xL 214 q_move ?_ <;> refine xL 27 q_assign ?_ <;> refine aL_end (nav ?_) <;> try dsimp only)
                    (refine aC_draw (fun i => ([] : List Nat).elem i) [] (by kernel_rfl) ?_ <;> (refine yD 0 216 rfl (q_lda tAgg25_LdS) fun v216 hv216 => ?_; cases hv216) <;> (refine yD 1 217 rfl (q_ld tNa22_LdI) fun v217 hv217 => ?_; cases hv217) <;> refine xD 2 218 rfl q_move ?_ <;> refine xE 3 219 rfl q_move ?_ <;> refine xE 4 220 rfl (y_slc_shr (i := i) (j := kk) tSl22_LbB rfl rfl rfl rfl hi hkw f5) ?_ <;> (refine aD_one 5 (by kernel_rfl) ?_) <;> (refine aW_run rfl fun w9 M9 N9 DQ back => ?_) <;> (refine cP 221 (cA Tryz.call39 (g6)) fun va221 vb221 hva221 hvb221 => ?_; cases hva221; cases hvb221) <;> refine aL_end (back _ (nrm ?_)) <;> refine xE 6 215 rfl q_move ?_ <;> refine xD 7 222 rfl q_extract ?_ <;> refine xD 8 223 rfl q_extract ?_ <;> refine xE 9 28 rfl q_assign ?_ <;> refine xE 10 29 rfl q_assign ?_ <;> refine aD_end (by kernel_rfl) (nav ?_) <;> try dsimp only)
                    (refine aC_region ?_ <;> refine xL 224 q_move ?_ <;> refine xL 225 q_move ?_ <;> refine xL 226 q_move ?_ <;> refine xL 227 q_move ?_ <;> refine xL 228 (q_idxoN 179 tSl66_LdJ) ?_ <;> (refine yL 229 (q_ldo 179 tNa4_LdJ) fun v229 hv229 => ?_; cases hv229) <;> refine xL 230 q_move ?_ <;> (refine bL 230 (fun hb230 => ?_) (fun hb230 => ?_) <;> (first | refine kL 231 ?_ | refine xL 231 q_move ?_)) <;> (first | refine kL 232 ?_ | refine xL 232 q_move ?_) <;> (first | refine kL 233 ?_ | refine xL 233 (q_idxoN 179 tSl66_LdJ) ?_) <;> (first | refine kL 234 ?_ | (refine yL 234 (q_ldo 179 tNa4_LdJ) fun v234 hv234 => ?_; cases hv234)) <;> (first | refine kL 235 ?_ | refine xL 235 q_move ?_) <;> (first | refine kL 236 ?_ | (refine bL 235 (fun hb235 => ?_) (fun hb235 => ?_) <;> (first | refine kL 236 ?_ | refine xL 236 q_move ?_))) <;> (first | refine kL 237 ?_ | refine xL 237 q_pick ?_) <;> refine xL 238 q_pick ?_ <;> refine xL 239 (q_idxoN 179 tSl66_LdJ) ?_ <;> refine s_st 179 tNa4_LdJ tSz4_LdR ?_ <;> refine aL_end (nav ?_) <;> try dsimp only) <;> (
                     (refine aC_region ?_ <;> refine xL 240 q_add ?_ <;> refine xL 212 q_move ?_ <;> refine aL_end (nav ?_) <;> try dsimp only)
                     first | rw [vec_up (f := stV a w kk i) (f' := stV a w kk (i + 1)) (fun j _ => stV_up hik (by rw [hb230]; rfl) j)] | rw [vec_up (f := stV a w kk i) (f' := stV a w kk (i + 1)) (fun j _ => stV_up hik (by rw [hb230, hb235]; rfl) j)] | skip
                     refine aN_again (
                      ⟨i + 1, hik⟩
                      ) (by dsimp only; omega) ⟨rfl, rfl, rfl, rfl, rfl, rfl, rfl, rfl, rfl, rfl, rfl, trivial⟩ ⟨rfl, trivial⟩))
                 · first
                   | exact Bool.noConfusion hb213
                   | (
                    have hik : i = kk := by omega
                    subst hik
                    refine aC_ent (recast (l := 179) (p' := .own 4 1 (w.length + 1) (vec (w.length + 1) fun j => pBool (stV a w (i + 1) 0 j))) rfl (by
                     congr 1
                     exact vec_congr fun j _ => by rw [stV_next])) fun _ => ?_
                    refine nav ?_
                    (refine aC_region ?_ <;> refine xL 241 q_add ?_ <;> refine xL 185 q_move ?_ <;> refine aL_end (nav ?_) <;> try dsimp only)
                    refine aN_again (
                     ⟨i + 1, by omega⟩
                     ) (by dsimp only; omega) ⟨rfl, rfl, rfl, rfl, rfl, rfl, rfl, rfl, trivial⟩ ⟨rfl, trivial⟩))
            · first
              | exact Bool.noConfusion hb186
              | (
               have hkn : kk = w.length + 1 := by omega
               subst hkn
               refine nav ?_
               (refine aC_region ?_ <;> (refine yL 243 (q_lda tAgg25_LdS) fun v243 hv243 => ?_; cases hv243) <;> (refine yL 244 (q_lda tAgg25_LdS) fun v244 hv244 => ?_; cases hv244) <;> (refine cP 245 (cA Tryz.call42 (c5)) fun va245 vb245 hva245 hvb245 => ?_; cases hvb245) <;> refine xL 242 q_move ?_ <;> refine xL 246 q_extract ?_ <;> refine xL 247 q_extract ?_ <;> refine s_alloc [(.int .i64 0), (.int .i64 0), (.slice none 0 0), (.slice none 0 0), (.slice none 0 0)] 5 30 tZr25_LfD fun h30 => ?_ <;> refine s_sta 30 tAgg25_LdS ?_ <;> refine xL 15 q_assign ?_ <;> refine aL_end (nav ?_) <;> try dsimp only)
               (refine aC_region ?_ <;> (refine yL 249 (q_lda tAgg25_LdS) fun v249 hv249 => ?_; cases hv249) <;> (refine cP 250 (cA Tryz.call44 (c6)) fun va250 vb250 hva250 hvb250 => ?_; cases hvb250) <;> refine xL 248 q_move ?_ <;> refine xL 251 q_extract ?_ <;> refine xL 252 q_extract ?_ <;> refine s_alloc [(.int .i64 0), (.int .i64 0), (.slice none 0 0), (.slice none 0 0), (.slice none 0 0)] 5 31 tZr25_LfD fun h31 => ?_ <;> refine s_sta 31 tAgg25_LdS ?_ <;> refine xL 17 q_assign ?_ <;> refine aL_end (nav ?_) <;> try dsimp only)
               have q4 := vec_at1 (fun j => pBool (stV a w (w.length + 1) 0 j)) (show w.length < w.length + 1 by omega)
               have q5 := vec_len (w.length + 1) (fun j => pBool (stV a w (w.length + 1) 0 j))
               (refine aC_draw (fun i => ([] : List Nat).elem i) [30, 31, 179] (by kernel_rfl) ?_ <;> refine xD 0 253 rfl q_move ?_ <;> (refine yD 1 254 rfl (q_ldao 30 tAgg25_LdS) fun v254 hv254 => ?_; cases hv254) <;> refine xD 2 255 rfl q_move ?_ <;> refine xE 3 256 rfl q_move ?_ <;> (refine aD_one 4 (by kernel_rfl) ?_) <;> (refine aW_run rfl fun w9 M9 N9 DQ back => ?_) <;> (refine cS 257 (callF (f := 49) (ps := [.sptr 0 (cA5 a), .sptr 0 (cA5 b), .sptr 0 [pInts w]]) rfl ⟨_, rfl⟩ (Tryz.call49) rfl k5) fun v257 hv257 => ?_; cases hv257) <;> refine aL_end (back _ (nrm ?_)) <;> refine xE 5 258 rfl q_not ?_ <;> refine xE 6 259 rfl q_move ?_ <;> refine xD 7 260 rfl q_move ?_ <;> (refine yD 8 261 rfl (q_ldao 31 tAgg25_LdS) fun v261 hv261 => ?_; cases hv261) <;> refine xD 9 262 rfl q_move ?_ <;> refine xD 10 263 rfl q_move ?_ <;> (refine yD 11 264 rfl (q_ld tNa22_LdI) fun v264 hv264 => ?_; cases hv264) <;> refine xD 12 265 rfl (q_len tSl22_LbB) ?_ <;> refine xD 13 266 rfl (q_idxoN 179 tSl66_LdJ) ?_ <;> (refine yD 14 267 rfl (q_ldo 179 tNa4_LdJ) fun v267 hv267 => ?_; cases hv267) <;> (refine aD_one 15 (by kernel_rfl) ?_) <;> (refine aW_run rfl fun w9 M9 N9 DQ back => ?_) <;> (refine cS 268 (callF (f := 49) (ps := [.sptr 0 (cA5 a), .sptr 0 (cA5 b), .sptr 0 [pInts w]]) rfl ⟨_, rfl⟩ (Tryz.call49) rfl k6) fun v268 hv268 => ?_; cases hv268) <;> refine aL_end (back _ (nrm ?_)) <;> refine xD 16 269 rfl q_not ?_ <;> refine xE 17 270 rfl q_pick ?_ <;> refine aD_end (by kernel_rfl) (nav ?_) <;> try dsimp only) <;> (
                refine cCf ?_
                refine nav ?_
                (refine aC_region ?_ <;> (refine yL 271 (q_ld tNa22_LdI) fun v271 hv271 => ?_; cases hv271) <;> refine cO 272 (cA Tryz.call51 (cloneIntW_e w (by omega))) fun v272 ho272 => ?_ <;> refine xL 32 q_assign ?_ <;> refine aL_end (nav ?_) <;> try dsimp only)
                refine aC_mid2 (fun _ : Unit => ⟨[(4, padd (sbase h4) 0, .sptr 0 (cA5 a)), (5, padd (sbase h5) 0, .sptr 0 (cA5 b)), (6, padd (sbase h6) 0, .sptr 0 [pInts w]), (13, .func (.func 49) #[] #[padd (sbase h4) 0, padd (sbase h5) 0, padd (sbase h6) 0], .fn 49 [.sptr 0 (cA5 a), .sptr 0 (cA5 b), .sptr 0 [pInts w]]), (33, .bool (accA a w.reverse), pBool (accA a w.reverse))], []⟩) ?_ ?_
                · (refine aC_region ?_ <;> refine xL 273 q_move ?_ <;> (rcases Nat.eq_zero_or_pos w.length with h0' | h0' <;> first | (refine aL_ent (recast (l := 272) (p' := .own 3 1 0 []) rfl (by rw [List.eq_nil_of_length_eq_zero h0']; rfl)) fun _ => ?_; refine s_sortI0 272 revI0 (Tryz.call52) ?_; refine aL_ent (recast (l := 272) (p' := .own 3 1 w.length (w.reverse.map pInt)) rfl (by rw [List.eq_nil_of_length_eq_zero h0']; rfl)) fun _ => ?_) | (refine s_revI 272 revI (Tryz.call52) ?_ h0')) <;> refine aL_end (nav ?_) <;> try dsimp only) <;> (
                   refine aC_ent (En.freeze (l := 272) (t := 32) rfl rfl) fun _ => ?_
                   rw [show share (PV.own 3 1 w.length (w.reverse.map pInt)) = pInts w.reverse by rw [← List.length_reverse]; exact share_ints _ _ _ rfl]
                   have g7 := ta w.reverse hwa.rev (by rw [List.length_reverse]; omega)
                   (refine aC_region ?_ <;> (refine yL 276 (q_lda tAgg25_LdS) fun v276 hv276 => ?_; cases hv276) <;> refine xL 277 q_move ?_ <;> (refine cP 278 (cA Tryz.call39 (g7)) fun va278 vb278 hva278 hvb278 => ?_; cases hva278; cases hvb278) <;> refine xL 275 q_move ?_ <;> refine xL 279 q_extract ?_ <;> refine xL 280 q_extract ?_ <;> refine xL 33 q_assign ?_ <;> refine xL 34 q_assign ?_ <;> refine aL_end (nav ?_) <;> try dsimp only)
                   exact aN_join () ⟨rfl, rfl, rfl, rfl, rfl, trivial⟩ trivial)
                · intro _
                  skip
                  refine nav ?_
                  (refine aC_region ?_ <;> (refine yL 282 (q_lda tAgg25_LdS) fun v282 hv282 => ?_; cases hv282) <;> (refine cP 283 (cA Tryz.call46 (c7)) fun va283 vb283 hva283 hvb283 => ?_; cases hvb283) <;> refine xL 281 q_move ?_ <;> refine xL 284 q_extract ?_ <;> refine xL 285 q_extract ?_ <;> refine s_alloc [(.int .i64 0), (.int .i64 0), (.slice none 0 0), (.slice none 0 0), (.slice none 0 0)] 5 35 tZr25_LfD fun h35 => ?_ <;> refine s_sta 35 tAgg25_LdS ?_ <;> refine xL 36 q_assign ?_ <;> refine aL_end (nav ?_) <;> try dsimp only)
                  (refine aC_region ?_ <;> refine xL 286 q_move ?_ <;> (refine yL 287 (q_ldao 35 tAgg25_LdS) fun v287 hv287 => ?_; cases hv287) <;> refine xL 288 q_move ?_ <;> refine xL 289 q_move ?_ <;> (refine cS 290 (callF (f := 49) (ps := [.sptr 0 (cA5 a), .sptr 0 (cA5 b), .sptr 0 [pInts w]]) rfl ⟨_, rfl⟩ (Tryz.call49) rfl k7) fun v290 hv290 => ?_; cases hv290) <;> refine xL 291 q_not ?_ <;> refine aL_end (nav ?_) <;> try dsimp only)
                  refine cCf ?_
                  refine nav ?_
                  have zz := mul_bd (x := a.n) (y := b.n) ⟨hn0, hn1⟩ ⟨m0, m1⟩
                  (refine aC_region ?_ <;> refine xL 292 (q_fld tFl25_0_LdI) ?_ <;> (refine yL 293 (q_ld tNa3_LbB) fun v293 hv293 => ?_; cases hv293) <;> refine xL 294 (q_fld tFl25_0_LdI) ?_ <;> (refine yL 295 (q_ld tNa3_LbB) fun v295 hv295 => ?_; cases hv295) <;> refine xL 296 q_mul ?_ <;> refine xL 297 q_gtr ?_ <;> refine aL_end (nav ?_) <;> try dsimp only)
                  (first | refine cCd ?_ ?_ | refine cC ?_ ?_) <;> intro hb297
                  · first
                    | exact Bool.noConfusion hb297
                    | (
                     refine nav ?_
                     (refine aC_region ?_ <;> refine xL 8 q_assign ?_ <;> refine aL_end (nav ?_) <;> try dsimp only)
                     exact ret_shr (Tryz.results12) rfl rfl)
                  · first
                    | exact Bool.noConfusion hb297
                    | (
                     refine nav ?_
                     (refine aC_region ?_ <;> refine xL 37 q_assign ?_ <;> refine aL_end (nav ?_) <;> try dsimp only)
                     (refine aC_region ?_ <;> (refine yL 298 (q_ld tNa22_LdI) fun v298 hv298 => ?_; cases hv298) <;> refine xL 299 (q_len tSl22_LbB) ?_ <;> refine xL 300 (q_shl (by omega) (shl_one hw7)) ?_ <;> refine xL 301 q_move ?_ <;> refine aL_end (nav ?_) <;> try dsimp only)
                     have hp2 : 2 ^ w.length ≤ 2 ^ 7 := Nat.pow_le_pow_right (by decide) hw7
                     refine aC_loop (ι := { s : Nat // s ≤ 2 ^ w.length }) (fun k => ⟨[(4, _, _), (5, _, _), (6, _, _), (13, _, _), (300, _, _), (37, .bool (mixB a b w k.1), pBool (mixB a b w k.1)), (301, .int .i64 k.1, pInt k.1)], []⟩) (fun k => 2 ^ w.length - k.1) ⟨0, Nat.zero_le _⟩ (fun a w H => H.weaken ⟨rfl, rfl, rfl, rfl, rfl, rfl, rfl, trivial⟩ trivial) ?_
                     rintro ⟨s, hs⟩
                     dsimp only
                     refine nav ?_
                     (refine aC_region ?_ <;> refine xL 302 q_lss ?_ <;> refine aL_end (nav ?_) <;> try dsimp only)
                     (first | refine cCd ?_ ?_ | refine cC ?_ ?_) <;> intro hb302
                     · first
                       | exact Bool.noConfusion hb302
                       | (
                        have hs1 : s < 2 ^ w.length := by omega
                        have hs7 : s < 128 := Nat.lt_of_lt_of_le hs1 hp2
                        refine nav ?_
                        (refine aC_region ?_ <;> refine xL 303 q_move ?_ <;> refine xL 38 q_assign ?_ <;> refine aL_end (nav ?_) <;> try dsimp only)
                        (refine aC_region ?_ <;> refine xL 39 q_assign ?_ <;> refine xL 40 q_assign ?_ <;> refine aL_end (nav ?_) <;> try dsimp only)
                        refine aC_ent (nilOwn 401 3 1 rfl) fun _ => ?_
                        refine aC_ent (nilOwn 402 3 1 rfl) fun _ => ?_
                        (refine aC_region ?_ <;> (refine yL 304 (q_ld tNa22_LdI) fun v304 hv304 => ?_; cases hv304) <;> refine xL 305 (q_len tSl22_LbB) ?_ <;> refine xL 306 q_move ?_ <;> refine aL_end (nav ?_) <;> try dsimp only)
                        refine aC_loop (ι := { q : Nat × Value × Value // q.1 ≤ w.length ∧ q.2.1.oneCell' = true ∧ q.2.2.oneCell' = true }) (fun k => ⟨[(4, _, _), (5, _, _), (6, _, _), (13, _, _), (37, _, _), (38, _, _), (300, _, _), (301, _, _), (304, _, _), (305, _, _), (39, k.1.2.1, .val k.1.2.1), (40, k.1.2.2, .val k.1.2.2), (306, .int .i64 k.1.1, pInt k.1.1)], [(401, k.1.2.1, .own 3 1 (oneL s 0 (w.take k.1.1)).length ((oneL s 0 (w.take k.1.1)).map pInt)), (402, k.1.2.2, .own 3 1 (twoL s 0 (w.take k.1.1)).length ((twoL s 0 (w.take k.1.1)).map pInt))]⟩) (fun k => w.length - k.1.1) ⟨(0, .slice none 0 0, .slice none 0 0), Nat.zero_le _, rfl, rfl⟩ (fun a w H => H.weaken ⟨rfl, rfl, rfl, rfl, rfl, rfl, rfl, rfl, rfl, rfl, rfl, rfl, rfl, trivial⟩ ⟨rfl, rfl, trivial⟩) ?_
                        rintro ⟨⟨j, hO, hT⟩, hj, hOo, hTo⟩
                        dsimp only
                        dsimp only at hj hOo hTo
                        have hml := mix_len (mix_of (w.take j) s)
                        rw [List.length_take] at hml
                        have hl1 : (oneL s 0 (w.take j)).length ≤ 7 := by omega
                        have hl2 : (twoL s 0 (w.take j)).length ≤ 7 := by omega
                        refine nav ?_
                        (refine aC_region ?_ <;> refine xL 307 q_lss ?_ <;> refine aL_end (nav ?_) <;> try dsimp only)
                        (first | refine cCd ?_ ?_ | refine cC ?_ ?_) <;> intro hb307
                        · first
                          | exact Bool.noConfusion hb307
                          | (
                           obtain ⟨y, hy⟩ := get_some (show j < w.length by omega)
                           have e1 := map_at (f := pInt) hy
                           have hj7 : j ≤ 7 := by omega
                           have hsj : s / 2 ^ j < 128 := Nat.lt_of_le_of_lt (Nat.div_le_self _ _) hs7
                           have o1 := oneL_snoc (s := s) hy
                           have o2 := twoL_snoc (s := s) hy
                           refine nav ?_
                           (refine aC_region ?_ <;> refine xL 308 q_move ?_ <;> refine xL 309 (q_idxN tSl22_LbB) ?_ <;> (refine yL 310 (q_ld tNa3_LbB) fun v310 hv310 => ?_; cases hv310) <;> refine xL 41 q_assign ?_ <;> refine xL 42 q_assign ?_ <;> refine aL_end (nav ?_) <;> try dsimp only)
                           (refine aC_region ?_ <;> refine xL 311 q_move ?_ <;> refine xL 312 q_move ?_ <;> refine xL 313 (q_shr (by omega) (shr_nat (a := s) hj7)) ?_ <;> refine xL 314 (q_and (and_one hsj)) ?_ <;> refine xL 315 q_eql ?_ <;> refine aL_end (nav ?_) <;> try dsimp only)
                           (first | refine cCd ?_ ?_ | refine cC ?_ ?_) <;> intro hb315
                           · first
                             | exact Bool.noConfusion hb315
                             | (
                              have hbit : s / 2 ^ j % 2 = 1 := by omega
                              rw [if_pos hbit] at o1 o2
                              refine aC_ent (recast (l := 402) (p' := .own 3 1 (twoL s 0 (w.take (j + 1))).length ((twoL s 0 (w.take (j + 1))).map pInt)) rfl (by rw [o2, List.append_nil])) fun _ => ?_
                              refine nav ?_
                              (refine aC_region ?_ <;> refine xL 316 q_move ?_ <;> refine xL 317 q_move ?_ <;> refine s_lit1 (kk := 1) 318 tEl22_LdI fun h318 ho318 => ?_ <;> (refine s_app 401 318 319 tEl22_LdI fun h319 ho319 => ?_; refine aL_ent (relabel (l := 319) 401 rfl rfl) fun _ => ?_; refine aL_ent (recast (l := 401) rfl ((own_ints _ (oneL s 0 (w.take j)) y).trans (by rw [← o1]))) fun _ => ?_) <;> refine xL 39 q_assign ?_ <;> refine aL_end (nav ?_) <;> try dsimp only)
                              (refine aC_region ?_ <;> refine xL 324 q_add ?_ <;> refine xL 306 q_move ?_ <;> refine aL_end (nav ?_) <;> try dsimp only)
                              first
                               | (exact aN_again (
                                   ⟨(j + 1, h319, hT), lt_of_get hy, ho319, hTo⟩
                                   ) (by dsimp only; omega) ⟨rfl, rfl, rfl, rfl, rfl, rfl, rfl, rfl, rfl, rfl, rfl, rfl, rfl, trivial⟩ ⟨rfl, rfl, trivial⟩)
                               | (exact aN_again (
                                   ⟨(j + 1, hO, h323), lt_of_get hy, hOo, ho323⟩
                                   ) (by dsimp only; omega) ⟨rfl, rfl, rfl, rfl, rfl, rfl, rfl, rfl, rfl, rfl, rfl, rfl, rfl, trivial⟩ ⟨rfl, rfl, trivial⟩))
                           · first
                             | exact Bool.noConfusion hb315
                             | (
                              have hbit : ¬ s / 2 ^ j % 2 = 1 := by omega
                              rw [if_neg hbit] at o1 o2
                              refine aC_ent (recast (l := 401) (p' := .own 3 1 (oneL s 0 (w.take (j + 1))).length ((oneL s 0 (w.take (j + 1))).map pInt)) rfl (by rw [o1, List.append_nil])) fun _ => ?_
                              refine nav ?_
                              (refine aC_region ?_ <;> refine xL 320 q_move ?_ <;> refine xL 321 q_move ?_ <;> refine s_lit1 (kk := 1) 322 tEl22_LdI fun h322 ho322 => ?_ <;> (refine s_app 402 322 323 tEl22_LdI fun h323 ho323 => ?_; refine aL_ent (relabel (l := 323) 402 rfl rfl) fun _ => ?_; refine aL_ent (recast (l := 402) rfl ((own_ints _ (twoL s 0 (w.take j)) y).trans (by rw [← o2]))) fun _ => ?_) <;> refine xL 40 q_assign ?_ <;> refine aL_end (nav ?_) <;> try dsimp only)
                              (refine aC_region ?_ <;> refine xL 324 q_add ?_ <;> refine xL 306 q_move ?_ <;> refine aL_end (nav ?_) <;> try dsimp only)
                              first
                               | (exact aN_again (
                                   ⟨(j + 1, h319, hT), lt_of_get hy, ho319, hTo⟩
                                   ) (by dsimp only; omega) ⟨rfl, rfl, rfl, rfl, rfl, rfl, rfl, rfl, rfl, rfl, rfl, rfl, rfl, trivial⟩ ⟨rfl, rfl, trivial⟩)
                               | (exact aN_again (
                                   ⟨(j + 1, hO, h323), lt_of_get hy, hOo, ho323⟩
                                   ) (by dsimp only; omega) ⟨rfl, rfl, rfl, rfl, rfl, rfl, rfl, rfl, rfl, rfl, rfl, rfl, rfl, trivial⟩ ⟨rfl, rfl, trivial⟩)))
                        · first
                          | exact Bool.noConfusion hb307
                          | (
                           rw [List.take_of_length_le (show w.length ≤ j by omega)]
                           have hml2 := mix_len (mix_of w s)
                           obtain ⟨w1, w2⟩ := oneL_in hwa s
                           obtain ⟨_, w3⟩ := oneL_in hwb s
                           have g8 := ta (oneL s 0 w) w1 (by omega)
                           have g9 := tb (twoL s 0 w) w3 (by omega)
                           refine nav ?_
                           refine aC_ent (En.freeze (l := 401) (t := 39) rfl rfl) fun _ => ?_
                           refine aC_ent (En.freeze (l := 402) (t := 40) rfl rfl) fun _ => ?_
                           rw [share_ints _ _ _ rfl, share_ints _ _ _ rfl]
                           (refine aC_region ?_ <;> (refine yL 326 (q_lda tAgg25_LdS) fun v326 hv326 => ?_; cases hv326) <;> refine xL 327 q_move ?_ <;> (refine cP 328 (cA Tryz.call39 (g8)) fun va328 vb328 hva328 hvb328 => ?_; cases hva328; cases hvb328) <;> refine xL 325 q_move ?_ <;> refine xL 329 q_extract ?_ <;> refine xL 330 q_extract ?_ <;> refine xL 43 q_assign ?_ <;> refine xL 44 q_assign ?_ <;> refine aL_end (nav ?_) <;> try dsimp only)
                           (refine aC_region ?_ <;> (refine yL 332 (q_lda tAgg25_LdS) fun v332 hv332 => ?_; cases hv332) <;> refine xL 333 q_move ?_ <;> (refine cP 334 (cA Tryz.call39 (g9)) fun va334 vb334 hva334 hvb334 => ?_; cases hva334; cases hvb334) <;> refine xL 331 q_move ?_ <;> refine xL 335 q_extract ?_ <;> refine xL 336 q_extract ?_ <;> refine xL 45 q_assign ?_ <;> refine xL 46 q_assign ?_ <;> refine aL_end (nav ?_) <;> try dsimp only)
                           (refine aC_region ?_ <;> refine xL 337 q_move ?_ <;> refine xL 338 q_move ?_ <;> (refine bL 338 (fun hb338 => ?_) (fun hb338 => ?_) <;> (first | refine kL 339 ?_ | refine xL 339 q_move ?_)) <;> (first | refine kL 340 ?_ | refine xL 340 q_move ?_) <;> (first | refine kL 341 ?_ | (refine bL 340 (fun hb340 => ?_) (fun hb340 => ?_) <;> (first | refine kL 341 ?_ | refine xL 341 q_move ?_))) <;> (first | refine kL 342 ?_ | refine xL 342 q_pick ?_) <;> refine xL 343 q_pick ?_ <;> (refine xL (v := .bool (mixB a b w (s + 1))) (p := pBool (mixB a b w (s + 1))) 37 (by first | (rw [show mixB a b w (s + 1) = true by rw [mixB_snoc, hb338]; rfl]; exact q_assign) | (rw [show mixB a b w (s + 1) = false by rw [mixB_snoc, hb338, hb340]; rfl]; exact q_assign) | (rw [show mixB a b w (s + 1) = accA b (twoL s 0 w) by rw [mixB_snoc, hb338, hb340]; rfl]; exact q_assign)) ?_) <;> refine aL_end (nav ?_) <;> try dsimp only) <;> (
                            (refine aC_region ?_ <;> refine xL 344 q_add ?_ <;> refine xL 301 q_move ?_ <;> refine aL_end (nav ?_) <;> try dsimp only)
                            refine aN_again (
                             ⟨s + 1, hs1⟩
                             ) (by dsimp only; omega) ⟨rfl, rfl, rfl, rfl, rfl, rfl, rfl, trivial⟩ trivial)))
                     · first
                       | exact Bool.noConfusion hb302
                       | (
                        have hsn : s = 2 ^ w.length := by omega
                        subst hsn
                        refine nav ?_
                        (refine aC_region ?_ <;> (refine yL 346 (q_lda tAgg25_LdS) fun v346 hv346 => ?_; cases hv346) <;> (refine yL 347 (q_lda tAgg25_LdS) fun v347 hv347 => ?_; cases hv347) <;> (refine cP 348 (cA Tryz.call37 (c8)) fun va348 vb348 hva348 hvb348 => ?_; cases hvb348) <;> refine xL 345 q_move ?_ <;> refine xL 349 q_extract ?_ <;> refine xL 350 q_extract ?_ <;> refine s_alloc [(.int .i64 0), (.int .i64 0), (.slice none 0 0), (.slice none 0 0), (.slice none 0 0)] 5 47 tZr25_LfD fun h47 => ?_ <;> refine s_sta 47 tAgg25_LdS ?_ <;> refine xL 48 q_assign ?_ <;> refine aL_end (nav ?_) <;> try dsimp only)
                        (refine aC_region ?_ <;> refine xL 351 q_move ?_ <;> (refine yL 352 (q_ldao 47 tAgg25_LdS) fun v352 hv352 => ?_; cases hv352) <;> refine xL 353 q_move ?_ <;> refine xL 354 q_move ?_ <;> (refine cS 355 (callF (f := 49) (ps := [.sptr 0 (cA5 a), .sptr 0 (cA5 b), .sptr 0 [pInts w]]) rfl ⟨_, rfl⟩ (Tryz.call49) rfl k8) fun v355 hv355 => ?_; cases hv355) <;> refine xL 8 q_assign ?_ <;> refine aL_end (nav ?_) <;> try dsimp only)
                        exact ret_shr (Tryz.results12) rfl rfl)))))))))
theorem autOperates_e (a b : Aut) (w : List Int) (op : Int) (_ : fitA a) (_ : fitA b) (_ : fitL w) (ho : fitI op) : AF Tryz.prog 12 [pAut a, pAut b, pInts w, pInt op] (· = pBool true) := by
 by_cases h : (accX a w).2 = 0 ∧ (accX b w).2 = 0
 · obtain ⟨ha, hl, hwa, xa⟩ := accX_in h.1
   obtain ⟨hb, _, hwb, xb⟩ := accX_in h.2
   have ta : ∀ v, InW a.syms v → v.length ≤ 200 → AF Tryz.prog 39 [pAut a, pInts v] (· = .tup [pBool (accA a v), pBool true]) := fun v h1 h2 => by
    have t := takes07_e a v
    rw [accX_fine ha h2 h1] at t
    exact t
   have tb : ∀ v, InW b.syms v → v.length ≤ 200 → AF Tryz.prog 39 [pAut b, pInts v] (· = .tup [pBool (accA b v), pBool true]) := fun v h1 h2 => by
    have t := takes07_e b v
    rw [accX_fine hb h2 h1] at t
    exact t
   have hst : stV a w (w.length + 1) 0 w.length = stF a w w.length := by unfold stV; rw [if_pos (by omega)]
   exact autOperates_c a b w op (accA a w) (accA b w) ha hb hl hwa hwb (by have := ho; unfold fitI at this; omega) (ta w hwa hl) (tb w hwb hl) ta tb
    (resW_R (aMinimalW_e a)) (autOp1_e a b w _ _ (right_min ha hl hwa))
    (resW_R (aComplement_e a)) (autOp1_e a b w _ _ (right_comp ha hl hwa))
    (resW_R (aProductW_e a b (opP op))) (autOp1_e a b w _ _ (right_prod (by have := opP_bd op; omega) ha hb hl hwa))
    (resW_R (aUnion_e a b)) (autOp1_e a b w _ _ (right_union ha hb hl hwa))
    (resW_R (aConcat_e a b)) (autOp1_e a b w _ _ (right_cat ha hb hl hwa))
    (resW_R (aStar_e a)) (by rw [hst]; exact autOp1_e a b w _ _ (right_star ha hl hwa))
    (resW_R (aReverse_e a)) (autOp1_e a b w _ _ (right_rev ha hl hwa))
    (resW_R (aShuffle_e a b)) (autOp1_e a b w _ _ (right_shuf ha hb hl hwa))
 · exact autOperates_no a b w op h
end Go.Proofs.YtgigclnaicbiaaaGreatDoor
