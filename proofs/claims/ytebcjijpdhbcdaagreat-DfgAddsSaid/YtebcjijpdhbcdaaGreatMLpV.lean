/-
  Plain laws: variants added to variants. No program in sight.
-/
import Derived.Test.YtebcjijpdhbcdaaGreatMLpR
import Derived.Test.YtebcjijpdhbcdaaGreatLa
namespace Go.Proofs.YtebcjijpdhbcdaaGreat
open Go.RowKit Go.Cb Go.En
set_option linter.all false

def addV : List Var → List ByteArray → Int → List Var
  | [], w, n => [⟨w, n⟩]
  | x :: l, w, n => if cmpStrs x.acts w < 0 then x :: addV l w n else if cmpStrs x.acts w = 0 then ⟨w, x.count + n⟩ :: l else ⟨w, n⟩ :: x :: l
theorem addV_old {w : List ByteArray} {n : Int} : ∀ {L : List Var} {k : Nat} {x : Var}, (∀ j y, j < k → L[j]? = some y → cmpStrs y.acts w < 0) → L[k]? = some x → cmpStrs x.acts w = 0 → addV L w n = L.take k ++ [⟨w, x.count + n⟩] ++ L.drop (k + 1)
  | [], k, x, _, hx, _ => by rw [List.getElem?_nil] at hx; cases hx
  | y :: L, 0, x, _, hx, he => by
    rw [List.getElem?_cons_zero] at hx; cases hx
    rw [addV, if_neg (by omega), if_pos he]; simp
  | y :: L, k + 1, x, h1, hx, he => by
    rw [List.getElem?_cons_succ] at hx
    rw [addV, if_pos (h1 0 y (Nat.succ_pos k) rfl), addV_old (k := k) (fun j z hj hz => h1 (j + 1) z (Nat.succ_lt_succ hj) (by rw [List.getElem?_cons_succ]; exact hz)) hx he]; simp
theorem addV_new {w : List ByteArray} {n : Int} : ∀ {L : List Var} {k : Nat}, (∀ j y, j < k → L[j]? = some y → cmpStrs y.acts w < 0) → k ≤ L.length → (∀ y, L[k]? = some y → ¬ cmpStrs y.acts w < 0 ∧ cmpStrs y.acts w ≠ 0) → addV L w n = L.take k ++ [⟨w, n⟩] ++ L.drop k
  | [], k, _, hk, _ => by
    have h0 : k = 0 := by have : k ≤ 0 := hk; omega
    subst h0; rfl
  | y :: L, 0, _, _, h2 => by
    have := h2 y rfl
    rw [addV, if_neg this.1, if_neg this.2]; simp
  | y :: L, k + 1, h1, hk, h2 => by
    rw [addV, if_pos (h1 0 y (Nat.succ_pos k) rfl), addV_new (k := k) (fun j z hj hz => h1 (j + 1) z (Nat.succ_lt_succ hj) (by rw [List.getElem?_cons_succ]; exact hz)) (Nat.le_of_succ_le_succ hk) (fun z hz => h2 z (by rw [List.getElem?_cons_succ]; exact hz))]; simp
def addsV (l m : List Var) : List Var := m.foldl (fun l x => addV l x.acts x.count) l
theorem addsV_snoc {l m : List Var} {k : Nat} {x : Var} (h : m[k]? = some x) : addsV l (m.take (k + 1)) = addV (addsV l (m.take k)) x.acts x.count := by unfold addsV; rw [take_snoc h, List.foldl_append]; rfl
def wtV (f : List ByteArray → Int) (l : List Var) : Int := (l.map fun x => x.count * f x.acts).sum
theorem wtV_cons (f : List ByteArray → Int) (x : Var) (l : List Var) : wtV f (x :: l) = x.count * f x.acts + wtV f l := by unfold wtV; rw [List.map_cons, List.sum_cons]
theorem wtV_addV (hz : ∀ l m : List ByteArray, cmpStrs l m = 0 → l = m) (f : List ByteArray → Int) (w : List ByteArray) (n : Int) : ∀ l : List Var, wtV f (addV l w n) = wtV f l + n * f w
  | [] => by rw [addV, wtV_cons]; unfold wtV; simp
  | x :: l => by
    rw [addV]
    split
    · rw [wtV_cons, wtV_cons, wtV_addV hz f w n l]; omega
    · split
      · rename_i h1 h2
        have := hz _ _ h2
        rw [wtV_cons, wtV_cons, this]
        show (x.count + n) * f w + _ = _
        rw [Int.add_mul]; omega
      · rw [wtV_cons]
        show n * f w + _ = _
        omega
theorem wtV_addsV (hz : ∀ l m : List ByteArray, cmpStrs l m = 0 → l = m) (f : List ByteArray → Int) : ∀ (m l : List Var), wtV f (addsV l m) = wtV f l + wtV f m
  | [], l => by unfold addsV wtV; simp
  | x :: m, l => by
    show wtV f (addsV (addV l x.acts x.count) m) = _
    rw [wtV_addsV hz f m, wtV_addV hz, wtV_cons]; omega
def BV (L : List Var) (n : Nat) (b : Int) : Prop := L.length ≤ n ∧ ∀ x ∈ L, fitS x.acts ∧ 1 ≤ x.count ∧ x.count ≤ b
theorem BV.add {w : List ByteArray} {c d b : Int} (hw : fitS w) (h1 : 1 ≤ c) (h2 : c ≤ d) (hb : 0 ≤ b) : ∀ {L : List Var} {n : Nat}, BV L n b → BV (addV L w c) (n + 1) (b + d)
  | [], n, h => by
    rw [addV]
    refine ⟨by simp, fun x hx => ?_⟩
    rw [List.mem_singleton] at hx
    subst hx
    exact ⟨hw, h1, by show c ≤ _; omega⟩
  | y :: L, n, h => by
    obtain ⟨hl, hx⟩ := h
    rw [List.length_cons] at hl
    have hy := hx y (List.mem_cons_self ..)
    have hL : ∀ x ∈ L, fitS x.acts ∧ 1 ≤ x.count ∧ x.count ≤ b + d := fun x hm => by
      have := hx x (List.mem_cons_of_mem _ hm)
      exact ⟨this.1, this.2.1, by omega⟩
    rw [addV]
    split
    · obtain ⟨n', rfl⟩ : ∃ n', n = n' + 1 := ⟨n - 1, by omega⟩
      have ih := BV.add hw h1 h2 hb (L := L) (n := n') ⟨by omega, fun x hm => hx x (List.mem_cons_of_mem _ hm)⟩
      refine ⟨by rw [List.length_cons]; have := ih.1; omega, fun x hm => ?_⟩
      rcases List.mem_cons.1 hm with rfl | hm
      · exact ⟨hy.1, hy.2.1, by omega⟩
      · exact ih.2 x hm
    · split
      · refine ⟨by rw [List.length_cons]; omega, fun x hm => ?_⟩
        rcases List.mem_cons.1 hm with rfl | hm
        · exact ⟨hw, by show 1 ≤ y.count + c; omega, by show y.count + c ≤ b + d; omega⟩
        · exact hL x hm
      · refine ⟨by rw [List.length_cons, List.length_cons]; omega, fun x hm => ?_⟩
        rcases List.mem_cons.1 hm with rfl | hm
        · exact ⟨hw, h1, by show c ≤ _; omega⟩
        rcases List.mem_cons.1 hm with rfl | hm
        · exact ⟨hy.1, hy.2.1, by omega⟩
        · exact hL x hm
section
variable {κ : Type} [DecidableEq κ]
theorem iget_permV {m m' : List (κ × Int)} (h : m.Perm m') (hn : (m.map (·.1)).Nodup) (k : κ) : iget m k = iget m' k := by
  have hn' : (m'.map (·.1)).Nodup := ((h.map (fun x : κ × Int => x.1)).pairwise_iff (R := (· ≠ ·)) fun h => Ne.symm h).1 hn
  by_cases hk : k ∈ m.map (·.1)
  · obtain ⟨x, hx, rfl⟩ := List.mem_map.1 hk
    rw [iget_mem hn hx, iget_mem hn' (h.mem_iff.1 hx)]
  · rw [iget_none fun x hx e => hk (List.mem_map.2 ⟨x, hx, e⟩), iget_none fun x hx e => hk (List.mem_map.2 ⟨x, h.mem_iff.2 hx, e⟩)]
theorem fold_iget {k : κ} (pr : M4 → List (κ × Int)) (f : List ByteArray → Int) (h : ∀ st x, iget (pr (mk1 st x)) k = iget (pr st) k + x.count * f x.acts) : ∀ (l : List Var) (st : M4), iget (pr (l.foldl mk1 st)) k = iget (pr st) k + wtV f l
  | [], st => by unfold wtV; simp
  | x :: l, st => by rw [List.foldl_cons, fold_iget pr f h l, h, wtV_cons]; omega
theorem make_iget {k : κ} (pr : M4 → List (κ × Int)) (f : List ByteArray → Int) (h0 : pr ⟨[], [], [], []⟩ = []) (h : ∀ st x, iget (pr (mk1 st x)) k = iget (pr st) k + x.count * f x.acts) (l : List Var) : iget (pr (makeM l)) k = wtV f l := by
  unfold makeM
  rw [fold_iget pr f h l, h0]
  show (0 : Int) + _ = _
  omega
end
def fA (k : ByteArray) (w : List ByteArray) : Int := cntI (fun x => decide (k = x)) w
def fQ (k : Pr) (w : List ByteArray) : Int := cntI (fun x => decide (k = x)) (pairsOf w)
def fS (k : ByteArray) (w : List ByteArray) : Int := match w with
  | [] => 0
  | s :: _ => if k = s then 1 else 0
def fF (k : ByteArray) (w : List ByteArray) : Int := match w.getLast? with
  | none => 0
  | some s => if k = s then 1 else 0
theorem make_a (k : ByteArray) (l : List Var) : iget (makeM l).a k = wtV (fA k) l := make_iget (·.a) _ rfl (fun st x => iget_addAll ..) l
theorem make_q (k : Pr) (l : List Var) : iget (makeM l).q k = wtV (fQ k) l := make_iget (k := k) (·.q) (fQ k) rfl (fun st x => iget_addAll k x.count (pairsOf x.acts) st.q) l
theorem make_s (k : ByteArray) (l : List Var) : iget (makeM l).s k = wtV (fS k) l := make_iget (·.s) _ rfl (fun st x => by
  unfold mk1 fS
  dsimp only
  cases hx : x.acts with
  | nil => dsimp only; omega
  | cons s w =>
    dsimp only
    rw [iget_iadd]
    by_cases e : k = s
    · rw [if_pos e, if_pos e]; omega
    · rw [if_neg e, if_neg e]; omega) l
theorem make_f (k : ByteArray) (l : List Var) : iget (makeM l).f k = wtV (fF k) l := make_iget (·.f) _ rfl (fun st x => by
  unfold mk1 fF
  dsimp only
  cases hx : x.acts.getLast? with
  | none => dsimp only; omega
  | some s =>
    dsimp only
    rw [iget_iadd]
    by_cases e : k = s
    · rw [if_pos e, if_pos e]; omega
    · rw [if_neg e, if_neg e]; omega) l
section
variable {κ : Type} [DecidableEq κ]
theorem two_iget {A B mA mB : List (κ × Int)} (hA : A.Perm mA) (hB : B.Perm mB) (nA : (A.map (·.1)).Nodup) (nB : (B.map (·.1)).Nodup) (k : κ) : iget (addsK (addsK [] A) B) k = iget mA k + iget mB k := by
  rw [iget_addsK, iget_addsK, sumK_nd nA, sumK_nd nB, iget_permV hA nA, iget_permV hB nB]
  show (0 : Int) + _ + _ = _
  omega
end
theorem sameC_perm {L : List Cnt} {m : List (ByteArray × Int)} (h : SameC L m) : (L.map unC).Perm m := by
  have h1 := h.1.map unC
  rw [List.map_map] at h1
  rwa [show (unC ∘ mkC) = id from rfl, List.map_id] at h1
theorem sameF_perm {L : List Flw} {m : List (Pr × Int)} (h : SameF L m) : (L.map unF).Perm m := by
  have h1 := h.1.map unF
  rw [List.map_map] at h1
  rwa [show (unF ∘ mkF) = id from rfl, List.map_id] at h1
theorem sameC_un {L : List Cnt} {m m' : List (ByteArray × Int)} (h : SameC L m) (hp : (L.map unC).Perm m') : SameC L m' := same_of_perm h ((sameC_perm h).symm.trans hp)
theorem sameF_un {L : List Flw} {m m' : List (Pr × Int)} (h : SameF L m) (hp : (L.map unF).Perm m') : SameF L m' := same_of_permF h ((sameF_perm h).symm.trans hp)
end Go.Proofs.YtebcjijpdhbcdaaGreat
