/-
  Walks: names, comparisons of strings and words, the searches of package slices over strings.
  Walks: the searches of package slices over strings, comparisons of words.
  Walks: lists of variants are valid (eventlog).
  Walks: the reference's names and words (casebookref02).
  Walks: the reference's comparison of words, the part of a name, lists of variants (casebookref02, 12, 36).
  Walks: searches over variants and over words; the bounds of the statements' own inputs (casebooklaw36: few, fewVariants).
  Walks: lists of variants are held against each other (casebookref12.SameVariants, slices.EqualFunc).
  Walks: the reference's test that a kind and parts are those of a cut (casebookref36.Formed).
-/
import Derived.Test.YtoanjgpdepaciaaProg
import Derived.Deep.DeepCutAuto
import Derived.Test.YtoanjgpdepaciaaPlain
import Derived.Test.YtoanjgpdepaciaaBase
namespace Go.Proofs.Ytoanjgpdepaciaa
open Go.RowKit Go.Cb

set_option maxHeartbeats 400000 in
theorem letter_c (c : Int) (w : World) : Calls Try.prog 51 #[.int .u8 c] w fun e w' => e = .returned (.bool (letterB c)) ∧ w = w' := by
  unfold letterB
  by_cases h1 : 65 ≤ c <;> by_cases h2 : c ≤ 90 <;> by_cases h3 : 97 ≤ c <;> by_cases h4 : c ≤ 122 <;> first | (exfalso; omega) | (
    go_enter Try.func51, Try.ntmps51
    go_wp2
    go_ret
    refine ⟨ret_bool ?_, rfl⟩
    simp [*])

set_option maxHeartbeats 400000 in
theorem part_c (c : Int) (w : World) : Calls Try.prog 52 #[.int .u8 c] w fun e w' => e = .returned (.bool (partB c)) ∧ w = w' := by
  unfold partB
  go_enter Try.func52, Try.ntmps52
  go_wp2_with (go_at_call 51; refine (letter_c _ _).mono ?_; rintro e w' ⟨rfl, rfl⟩)
  all_goals go_ret
  all_goals refine ⟨ret_bool ?_, rfl⟩
  all_goals simp_all
  have h48 : decide (48 ≤ c) = false := by simp; omega
  simp [h48]

theorem isName_get (s : ByteArray) (k : Nat) (h : k < s.size) : s.data.toList[k]? = some s[k] := by
  rw [List.getElem?_eq_getElem (by simpa using h)]; rfl

set_option maxHeartbeats 400000 in
theorem isName_c (s : ByteArray) (w : World) (hs : s.size ≤ 140737488355328) : Calls Try.prog 37 #[.string s] w fun e w' => e = .returned (.bool (isName s)) ∧ w = w' := by
  by_cases h1 : 1 ≤ s.size
  · by_cases h2 : s.size ≤ 40
    · have hg : s.data[0]?.getD 0 = s[0] := by
        rw [Array.getElem?_eq_getElem (show 0 < s.data.size from h1)]; rfl
      cases h3 : letterB (s[0].toNat)
      · have HG := Lib.hid hg; clear hg
        have H3 := Lib.hid h3; 
        go_enter Try.func37, Try.ntmps37
        go_wp2_with (go_at_call 51; refine (letter_c _ _).mono ?_; rintro e w' ⟨rfl, rfl⟩)
        go_ret
        refine ⟨ret_bool ?_, rfl⟩
        unfold isName; rw [HG.out, H3.out]; simp
      · have HG := Lib.hid hg; clear hg
        have H3 := Lib.hid h3
        go_enter Try.func37, Try.ntmps37
        go_wp2_with (go_at_call 51; refine (letter_c _ _).mono ?_; rintro e w' ⟨rfl, rfl⟩)
        go_loop [20] (fun i => ∃ k : Nat, k ≤ s.size ∧ i = .int .i64 k ∧ Hid (∀ j x, j < k → s.data.toList[j]? = some x → partB x.toNat = true)) (fun i => s.size - (intOf i).toNat)
        case atStart => exact ⟨0, by omega, rfl, fun j x hj => by omega⟩
        case round =>
          obtain ⟨k, hk, rfl, hall⟩ := hrel
          by_cases hlt : k < s.size
          · have hgk := Lib.hid (isName_get s k hlt)
            cases hp : partB (s[k].toNat)
            · have HP := Lib.hid hp
              go_wp2_with (go_at_call 52; refine (part_c _ _).mono ?_; rintro e w' ⟨rfl, rfl⟩)
              go_ret
              refine ⟨ret_bool ?_, rfl⟩
              symm
              unfold isName
              rw [Bool.and_eq_false_iff]; right
              rw [List.all_eq_false]
              exact ⟨s[k], List.mem_of_getElem? hgk.out, by rw [HP.out]; simp⟩
            · have HP := Lib.hid hp
              go_wp2_with (go_at_call 52; refine (part_c _ _).mono ?_; rintro e w' ⟨rfl, rfl⟩)
              go_round
              case rel =>
                refine ⟨k + 1, by omega, by go_num, fun j x hj hx => ?_⟩
                by_cases e : j = k
                · subst e; rw [hgk.out] at hx; cases hx; exact HP.out
                · exact hall.out j x (by omega) hx
              case measure => simp [intOf]; omega
          · go_wp2
            go_ret
            refine ⟨ret_bool ?_, rfl⟩
            symm
            unfold isName
            rw [HG.out, H3.out]
            simp only [h1, h2, decide_true, Bool.and_true, Bool.true_and]
            rw [List.all_eq_true]
            intro x hx
            obtain ⟨i, hi, rfl⟩ := List.getElem_of_mem hx
            exact hall.out i _ (by have : i < s.size := by simpa using hi
                                   omega) (List.getElem?_eq_getElem hi)
    · have h2' : 40 < s.size := by omega
      go_enter Try.func37, Try.ntmps37
      go_wp2
      go_ret
      refine ⟨ret_bool ?_, rfl⟩
      unfold isName; simp [h2]
  · have h2' : s.size < 1 := by omega
    go_enter Try.func37, Try.ntmps37
    go_wp2
    go_ret
    refine ⟨ret_bool ?_, rfl⟩
    unfold isName; simp [h1]
end Go.Proofs.Ytoanjgpdepaciaa

namespace Go.Proofs.Ytoanjgpdepaciaa
open Go.RowKit Go.Cb

set_option maxHeartbeats 400000 in
theorem indexFunc_strs (g : FuncId) (caps : Array Value) (p : ByteArray → Bool) (l : List ByteArray) (v : Value) (w : World) {M : Mut} (hl : Strs M w v l) (hg : ∀ args w, (callFunc g args).run Try.prog w = .ok (.enter g args) w)
    (hp : ∀ w' s, Ext w w' → s ∈ l → s.size ≤ 140737488355328 → Calls Try.prog g (#[.string s] ++ caps) w' fun e w'' => e = .returned (.bool (p s)) ∧ Ext w' w'') :
    Calls Try.prog 35 #[v, .func (.func g) #[] caps] w fun e w' => e = .returned (.int .i64 (idx p l)) ∧ Ext w w' := by
  have HP := Lib.hid hp; clear hp
  have hlen := hl.len
  rcases hl.cases with ⟨a, c, rfl, rfl, hc⟩ | ⟨b, off, c, rfl, hlc, hc, h0, hE⟩
  · go_enter Try.func35, Try.ntmps35
    go_wp2_with fail
    go_rounds 1
    go_ret
    exact ⟨rfl, Ext.rfl' _⟩
  · have HE := Lib.hid hE; clear hE
    clear hl
    go_enter Try.func35, Try.ntmps35
    go_wp2_with fail
    go_loopw [8] (fun i wr => ∃ k : Nat, k ≤ l.length ∧ i = .int .i64 k ∧ Ext w wr ∧ Hid (∀ j x, j < k → l[j]? = some x → p x = false)) (fun i _ => l.length - (intOf i).toNat)
    case atStart => exact ⟨0, by omega, rfl, Ext.rfl' _, fun j x hj => by omega⟩
    case round =>
      obtain ⟨k, hk, rfl, hb, hall⟩ := hrel
      by_cases hlt : k < l.length
      · obtain ⟨s, hs⟩ := get_some hlt
        have HS := Lib.hid hs; clear hs
        obtain ⟨⟨hc1, _⟩, hs2⟩ := HE.out k s HS.out
        have hc2 := hb.cell hc1
        clear hc1
        rw [Nat.mul_one] at hc2
        have hcall := fun w' (hw' : Ext w w') => HP.out w' s hw' (List.mem_of_getElem? HS.out) hs2
        have HCALL := Lib.hid hcall; clear hcall
        cases hps : p s
        · have HPS := Lib.hid hps; clear hps
          go_wp2_with fail
          refine (HCALL.out _ hb).mono ?_
          rintro e w1 ⟨rfl, he⟩
          rw [HPS.out]
          go_wp2_with fail
          go_roundw
          case rel => exact ⟨k + 1, by omega, by go_num, hb.tr he, fun j x hj hx => (by
            by_cases e : j = k
            · subst e; rw [HS.out] at hx; cases hx; exact HPS.out
            · exact hall.out j x (by omega) hx)⟩
          case measure => simp [intOf]; omega
        · have HPS := Lib.hid hps; clear hps
          go_wp2_with fail
          refine (HCALL.out _ hb).mono ?_
          rintro e w1 ⟨rfl, he⟩
          rw [HPS.out]
          go_wp2_with fail
          go_ret
          refine ⟨ret_int ?_, hb.tr he⟩
          rw [idx_here hall.out HS.out HPS.out]
      · go_wp2
        go_ret
        refine ⟨ret_int ?_, hb⟩
        rw [idx_none]
        exact fun j y hj hy => hall.out j y (by omega) hy

set_option maxHeartbeats 400000 in
theorem containsFunc_strs (g : FuncId) (caps : Array Value) (p : ByteArray → Bool) (l : List ByteArray) (v : Value) (w : World) {M : Mut} (hl : Strs M w v l) (hg : ∀ args w, (callFunc g args).run Try.prog w = .ok (.enter g args) w)
    (hp : ∀ w' s, Ext w w' → s ∈ l → s.size ≤ 140737488355328 → Calls Try.prog g (#[.string s] ++ caps) w' fun e w'' => e = .returned (.bool (p s)) ∧ Ext w' w'') :
    Calls Try.prog 14 #[v, .func (.func g) #[] caps] w fun e w' => e = .returned (.bool (l.any p)) ∧ Ext w w' := by
  have HP := Lib.hid (indexFunc_strs g caps p l v w hl hg hp); clear hp hg hl
  go_enter Try.func14, Try.ntmps14
  go_wp2_with (go_at_call 35; refine HP.out.mono ?_; rintro e w1 ⟨rfl, he⟩)
  go_ret
  exact ⟨ret_bool (idx_any p l), he⟩

set_option maxHeartbeats 400000 in
theorem names1_c (s : ByteArray) (w : World) (hs : s.size ≤ 140737488355328) : Calls Try.prog 53 #[.string s] w fun e w' => e = .returned (.bool (!isName s)) ∧ Ext w w' := by
  go_enter Try.func53, Try.ntmps53
  go_wp2_with (go_at_call 37; refine (isName_c _ _ hs).mono ?_; rintro e w' ⟨rfl, rfl⟩)
  go_ret
  exact ⟨rfl, Ext.rfl' _⟩

set_option maxHeartbeats 400000 in
theorem names_c (l : List ByteArray) (v : Value) (w : World) {M : Mut} (hl : Strs M w v l) : Calls Try.prog 38 #[v] w fun e w' => e = .returned (.bool (l.all isName)) ∧ Ext w w' := by
  have HP := Lib.hid (containsFunc_strs 53 #[] (fun s => !isName s) l v w hl Try.call53 (fun w' s _ _ hs => names1_c s w' hs))
  clear hl
  go_enter Try.func38, Try.ntmps38
  go_wp2_with (go_at_call 14; refine HP.out.mono ?_; rintro e w1 ⟨rfl, he⟩)
  go_ret
  refine ⟨ret_bool ?_, he⟩
  simp [List.all_eq_not_any_not]

set_option maxHeartbeats 400000 in
theorem isNaN_str (s : ByteArray) (w : World) : Calls Try.prog 75 #[.string s] w fun e w' => e = .returned (.bool false) ∧ w = w' := by
  go_enter Try.func75, Try.ntmps75
  go_wp2
  go_ret
  exact ⟨by simp, rfl⟩

set_option maxHeartbeats 400000 in
theorem cmp_str (a b : ByteArray) (w : World) : Calls Try.prog 66 #[.string a, .string b] w fun e w' => e = .returned (.int .i64 (cmpStr a b)) ∧ w = w' := by
  cases h1 : Op.bytesLess a.toList b.toList <;> cases h2 : (a.toList == b.toList)
  all_goals
    have H1 := Lib.hid h1
    have H2 := Lib.hid h2
    go_enter Try.func66, Try.ntmps66
    go_wp2_with (go_at_call 75; refine (isNaN_str _ _).mono ?_; rintro e w' ⟨rfl, rfl⟩)
    go_ret
    refine ⟨ret_int ?_, rfl⟩
    simp [cmpStr, strLt, strEq, H1.out, H2.out]

set_option maxHeartbeats 1000000 in
theorem compare_strs (l m : List ByteArray) (v u : Value) (w : World) {M : Mut} (hl : Strs M w v l) (hm : Strs M w u m) :
    Calls Try.prog 45 #[v, u] w fun e w' => e = .returned (.int .i64 (cmpStrs l m)) ∧ w = w' := by
  have hlen := hl.len
  have hmen := hm.len
  rcases hl.cases with ⟨a1, c1, rfl, rfl, hc1⟩ | ⟨b1, off1, c1, rfl, hlc1, hc1, h01, hE1⟩
  · obtain ⟨a2, c2, rfl, hm1, hm2, hm3⟩ := hm
    clear hm3 hl
    cases m with
    | nil =>
      go_enter Try.func45, Try.ntmps45
      go_wp2_with fail
      go_rounds 1
      go_ret
      exact ⟨rfl, rfl⟩
    | cons y m =>
      simp only [List.length_cons] at *
      go_enter Try.func45, Try.ntmps45
      go_wp2_with fail
      go_rounds 1
      go_ret
      exact ⟨rfl, rfl⟩
  · have HE1 := Lib.hid hE1; clear hE1 hl
    rcases hm.cases with ⟨a2, c2, rfl, rfl, hc2⟩ | ⟨b2, off2, c2, rfl, hlc2, hc2, h02, hE2⟩
    · clear hm
      obtain ⟨x, hx⟩ := get_some h01
      have hcell : w.cell? ⟨b1, off1, none⟩ = some (.string x) := by have := (HE1.out 0 x hx).1.1; simpa using this
      have HX := Lib.hid hx; clear hx
      go_enter Try.func45, Try.ntmps45
      go_wp2_with fail
      go_rounds 1
      go_ret
      refine ⟨ret_int ?_, rfl⟩
      cases l with
      | nil => simp at h01
      | cons y l => simp [cmpStrs]
    · have HE2 := Lib.hid hE2; clear hE2 hm
      go_enter Try.func45, Try.ntmps45
      go_wp2_with fail
      go_loop [11] (fun i => ∃ k : Nat, k ≤ l.length ∧ k ≤ m.length ∧ i = .int .i64 k ∧ Hid (cmpStrs l m = cmpStrs (l.drop k) (m.drop k))) (fun i => l.length - (intOf i).toNat)
      case atStart => exact ⟨0, by omega, by omega, rfl, rfl⟩
      case round =>
        obtain ⟨k, hk, hk2, rfl, hpre⟩ := hrel
        by_cases hlt : k < l.length
        · obtain ⟨x, hx⟩ := get_some hlt
          have hcx := (HE1.out k x hx).1.1
          rw [Nat.mul_one] at hcx
          have HX := Lib.hid hx; clear hx
          by_cases hlt2 : k < m.length
          · obtain ⟨y, hy⟩ := get_some hlt2
            have hcy := (HE2.out k y hy).1.1
            rw [Nat.mul_one] at hcy
            have HY := Lib.hid hy; clear hy
            by_cases h0 : cmpStr x y = 0
            · have H0 := Lib.hid h0; clear h0
              go_wp2_with (go_at_call 66; refine (cmp_str _ _ _).mono ?_; rintro e w' ⟨rfl, rfl⟩; rw [H0.out])
              go_round
              case rel =>
                refine ⟨k + 1, by omega, by omega, by go_num, ?_⟩
                show cmpStrs l m = _
                rw [hpre.out, drop_at HX.out, drop_at HY.out, cmpStrs, if_pos H0.out]
              case measure => simp [intOf]; omega
            · have hb : (cmpStr x y != 0) = true := by simpa using h0
              have H0 := Lib.hid h0; clear h0
              go_wp2_with (go_at_call 66; refine (cmp_str _ _ _).mono ?_; rintro e w' ⟨rfl, rfl⟩)
              go_ret
              refine ⟨ret_int ?_, rfl⟩
              rw [hpre.out, drop_at HX.out, drop_at HY.out, cmpStrs, if_neg H0.out]
          · go_wp2_with fail
            go_ret
            refine ⟨ret_int ?_, rfl⟩
            rw [hpre.out, drop_at HX.out, List.drop_eq_nil_of_le (by omega : m.length ≤ k), cmpStrs]
        · by_cases hlt2 : k < m.length
          · obtain ⟨y, hy⟩ := get_some hlt2
            have HY := Lib.hid hy; clear hy
            go_wp2_with fail
            go_ret
            refine ⟨ret_int ?_, rfl⟩
            rw [hpre.out, drop_at HY.out, List.drop_eq_nil_of_le (by omega : l.length ≤ k), cmpStrs]
          · go_wp2_with fail
            go_ret
            refine ⟨ret_int ?_, rfl⟩
            rw [hpre.out, List.drop_eq_nil_of_le (by omega : m.length ≤ k), List.drop_eq_nil_of_le (by omega : l.length ≤ k), cmpStrs]

set_option maxHeartbeats 400000 in
theorem nameCompare_c (l m : List ByteArray) (v u : Value) (w : World) {M : Mut} (hl : Strs M w v l) (hm : Strs M w u m) :
    Calls Try.prog 27 #[v, u] w fun e w' => e = .returned (.int .i64 (cmpStrs l m)) ∧ w = w' := by
  have HP := Lib.hid (compare_strs l m v u w hl hm); clear hl hm
  go_enter Try.func27, Try.ntmps27
  go_wp2_with (go_at_call 45; refine HP.out.mono ?_; rintro e w' ⟨rfl, rfl⟩)
  go_ret
  exact ⟨rfl, rfl⟩
end Go.Proofs.Ytoanjgpdepaciaa

namespace Go.Proofs.Ytoanjgpdepaciaa
open Go.RowKit Go.Cb
set_option linter.all false

/-- The test of one element, as the code makes it. -/
def stepBad (len count : Int) (t pos : Bool) (q : Int) : Bool := decide (200 < len) || !t || decide (count < 1) || decide (1048576 < count) || (pos && decide (0 ≤ q))

set_option maxHeartbeats 1000000 in
theorem validVariants_c (l : List Var) (v : Value) (w : World) {M : Mut} (hl : Vars M w v l) :
    Calls Try.prog 20 #[v] w fun e w' => e = .returned (.bool (validVars l)) ∧ Ext w w' := by
  have hlen := hl.len
  rcases hl.cases with ⟨a, c, rfl, rfl, hc⟩ | ⟨b, off, c, rfl, hlc, hc, h0, hE⟩
  · go_enter Try.func20, Try.ntmps20
    go_wp2_with fail
    go_rounds 1
    go_ret
    exact ⟨rfl, Ext.rfl' _⟩
  · have HE := Lib.hid hE; clear hE hl
    by_cases h300 : l.length ≤ 300
    · go_enter Try.func20, Try.ntmps20
      go_wp2_with fail
      go_loopw [10] (fun i wr => ∃ k : Nat, k ≤ l.length ∧ i = .int .i64 k ∧ Ext w wr ∧ Hid (∀ j, j < k → stepOk l j = true)) (fun i _ => l.length - (intOf i).toNat)
      case atStart => exact ⟨0, by omega, rfl, Ext.rfl' _, fun j hj => by omega⟩
      case round =>
        obtain ⟨k, hk, rfl, hb, hall⟩ := hrel
        by_cases hlt : k < l.length
        · obtain ⟨x, hx⟩ := get_some hlt
          obtain ⟨⟨u, ⟨hu, _⟩, hS⟩, ⟨hn, _⟩, hn1, hn2⟩ := HE.out k x hx
          have HX := Lib.hid hx; clear hx
          have gu := hb.cell hu; clear hu
          have gn := hb.cell hn; clear hn
          obtain ⟨a1, c1, rfl, hlx, hcx, hS3⟩ := hS
          have hS : Strs M w (.slice a1 x.acts.length c1) x.acts := ⟨a1, c1, rfl, hlx, hcx, hS3⟩
          clear hS3
          obtain ⟨t, ht⟩ : ∃ t, x.acts.all isName = t := ⟨_, rfl⟩
          have HN : Hid (∀ W, Ext w W → Calls Try.prog 38 #[.slice a1 x.acts.length c1] W fun e w' => e = .returned (.bool t) ∧ Ext W w') := fun W hW => by rw [← ht]; exact names_c _ _ _ (hS.up hW)
          have HT := Lib.hid ht; clear ht
          obtain ⟨q, p1, p2, p3, HC, HQ⟩ : ∃ (q : Int) (p1 : Option Addr) (p2 p3 : Nat), Hid (0 < k → wr.cell? ⟨b, off + (k - 1) * 2, none⟩ = some (.slice p1 p2 p3) ∧ ∀ W, Ext w W → Calls Try.prog 27 #[.slice p1 p2 p3, .slice a1 x.acts.length c1] W fun e w' => e = .returned (.int .i64 q) ∧ W = w') ∧ Hid (stepOk l k = !stepBad x.acts.length x.count t (decide (0 < k)) q) := by
            have hst : ∀ r : Bool, okVar x = (decide (x.acts.length ≤ 200) && t && decide (1 ≤ x.count) && decide (x.count ≤ 1048576)) := fun _ => by rw [← HT.out]; rfl
            have e1 : decide (x.acts.length ≤ 200) = !decide ((200 : Int) < (x.acts.length : Int)) := by rw [Bool.eq_iff_iff]; simp; omega
            have e3 : decide (1 ≤ x.count) = !decide (x.count < 1) := by rw [Bool.eq_iff_iff]; simp
            have e4 : decide (x.count ≤ 1048576) = !decide (1048576 < x.count) := by rw [Bool.eq_iff_iff]; simp
            by_cases hpos : 0 < k
            · obtain ⟨y, hy⟩ := get_some (show k - 1 < l.length by omega)
              obtain ⟨⟨u', ⟨hu', _⟩, hS'⟩, _⟩ := HE.out (k - 1) y hy
              obtain ⟨a2, c2, rfl, hly, hcy, hS3⟩ := id hS'
              refine ⟨cmpStrs y.acts x.acts, a2, y.acts.length, c2, fun _ => ⟨hb.cell hu', fun W hW => nameCompare_c _ _ _ _ _ (hS'.up hW) (hS.up hW)⟩, ?_⟩
              have e5 : decide (cmpStrs y.acts x.acts < 0) = !decide (0 ≤ cmpStrs y.acts x.acts) := by rw [Bool.eq_iff_iff]; simp
              show stepOk l k = _
              rw [stepOk_pos HX.out hy hpos, hst true, e1, e3, e4, e5]
              simp only [stepBad, Bool.not_or, Bool.not_not, hpos, decide_true, Bool.true_and]
            · obtain rfl : k = 0 := by omega
              refine ⟨0, none, 0, 0, fun h => absurd h (by omega), ?_⟩
              show stepOk l 0 = _
              rw [stepOk_zero HX.out, hst true, e1, e3, e4]
              simp [stepBad]
          go_wp2_with fail
          go_cut [50] (fun s wx => s = .bool (stepBad x.acts.length x.count t (decide (0 < k)) q) ∧ Ext wr wx)
          case first =>
            have f0 : ∀ z, ((wr.alloc (.cells #[.slice a1 x.acts.length c1, .int .i64 x.count] 40)).plus z).cell? ⟨wr.heap.size, 0, none⟩ = some (.slice a1 x.acts.length c1) := fun z => plus_cell (by simp) z
            have f1 : ∀ z, ((wr.alloc (.cells #[.slice a1 x.acts.length c1, .int .i64 x.count] 40)).plus z).cell? ⟨wr.heap.size, 1, none⟩ = some (.int .i64 x.count) := fun z => plus_cell (by simp) z
            have hW : ∀ z, Ext w ((wr.alloc (.cells #[.slice a1 x.acts.length c1, .int .i64 x.count] 40)).plus z) := fun z => hb.tr ((Ext.alloc _ _).tr (plus_ext _ z))
            have HW := Lib.hid hW; clear hW
            have HW0 : Hid (∀ z, Ext wr ((wr.alloc (.cells #[.slice a1 x.acts.length c1, .int .i64 x.count] 40)).plus z)) := fun z => (Ext.alloc _ _).tr (plus_ext _ z)
            by_cases d1 : 200 < x.acts.length
            · have d1' : decide ((200 : Int) < (x.acts.length : Int)) = true := by simp; omega
              refine wp_region_grow (by kernel_rfl) (by kernel_rfl) ?_
              repeat (go_big_quiet_step (fail))
              refine wpQuiet_nil ?_
              rintro w1 ⟨z, rfl⟩
              go_wp2_with fail
              go_meet
              exact ⟨by simp only [stepBad, d1', Bool.true_or], HW0.out z⟩
            · have d1' : decide ((200 : Int) < (x.acts.length : Int)) = false := by simp; omega
              cases t
              · refine wp_region_grow (by kernel_rfl) (by kernel_rfl) ?_
                repeat (go_big_quiet_step (first | (go_at_call 38; exact plus_call (HN.out _ (HW.out _)))))
                refine wpQuiet_nil ?_
                rintro w1 ⟨z, rfl⟩
                go_wp2_with fail
                go_meet
                exact ⟨by simp [stepBad], HW0.out z⟩
              · by_cases d3 : x.count < 1
                · have d3' : decide (x.count < 1) = true := by simp; omega
                  refine wp_region_grow (by kernel_rfl) (by kernel_rfl) ?_
                  repeat (go_big_quiet_step (first | (go_at_call 38; exact plus_call (HN.out _ (HW.out _)))))
                  refine wpQuiet_nil ?_
                  rintro w1 ⟨z, rfl⟩
                  go_wp2_with fail
                  go_meet
                  exact ⟨by simp [stepBad, d3], HW0.out z⟩
                · have d3' : decide (x.count < 1) = false := by simp; omega
                  by_cases d4 : 1048576 < x.count
                  · have d4' : decide (1048576 < x.count) = true := by simp; omega
                    refine wp_region_grow (by kernel_rfl) (by kernel_rfl) ?_
                    repeat (go_big_quiet_step (first | (go_at_call 38; exact plus_call (HN.out _ (HW.out _)))))
                    refine wpQuiet_nil ?_
                    rintro w1 ⟨z, rfl⟩
                    go_wp2_with fail
                    go_meet
                    exact ⟨by simp [stepBad, d4], HW0.out z⟩
                  · have d4' : decide (1048576 < x.count) = false := by simp; omega
                    by_cases d5 : 0 < k
                    · have d5' : decide ((0 : Int) < (k : Int)) = true := by simp; omega
                      have d5n : decide (0 < k) = true := by simp; omega
                      obtain ⟨hcell, hcmp⟩ := HC.out d5
                      have HCMP := Lib.hid hcmp; clear hcmp
                      have f2 : ∀ z, ((wr.alloc (.cells #[.slice a1 x.acts.length c1, .int .i64 x.count] 40)).plus z).cell? ⟨b, off + (k - 1) * 2, none⟩ = some (.slice p1 p2 p3) := fun z => (HW0.out z).cell hcell
                      refine wp_region_grow (by kernel_rfl) (by kernel_rfl) ?_
                      repeat (go_big_quiet_step (first | (go_at_call 38; exact plus_call (HN.out _ (HW.out _))) | (go_at_call 27; exact plus_call_same (HCMP.out _ (HW.out _)))))
                      refine wpQuiet_nil ?_
                      rintro w1 ⟨z, rfl⟩
                      go_wp2_with fail
                      go_meet
                      exact ⟨by simp only [stepBad, d1', d3', d4', d5n, Bool.not_true, Bool.false_or, Bool.true_and, Bool.false_and], HW0.out z⟩
                    · have d5' : decide ((0 : Int) < (k : Int)) = false := by simp; omega
                      have d5n : decide (0 < k) = false := by simp; omega
                      refine wp_region_grow (by kernel_rfl) (by kernel_rfl) ?_
                      repeat (go_big_quiet_step (first | (go_at_call 38; exact plus_call (HN.out _ (HW.out _)))))
                      refine wpQuiet_nil ?_
                      rintro w1 ⟨z, rfl⟩
                      go_wp2_with fail
                      go_meet
                      exact ⟨by simp only [stepBad, d1', d3', d4', d5n, Bool.not_true, Bool.false_or, Bool.true_and, Bool.false_and], HW0.out z⟩
          case rest =>
            obtain ⟨rfl, hbx⟩ := hcut
            cases hbad : stepBad x.acts.length x.count t (decide (0 < k)) q
            · have HB := Lib.hid hbad; clear hbad
              go_wp2_with fail
              go_roundw
              case rel =>
                refine ⟨k + 1, by omega, by go_num, hb.tr hbx, fun j hj => ?_⟩
                by_cases e : j = k
                · subst e; rw [HQ.out, HB.out]; rfl
                · exact hall.out j (by omega)
              case measure => simp [intOf]; omega
            · have HB := Lib.hid hbad; clear hbad
              go_wp2_with fail
              go_ret
              exact ⟨ret_bool (validVars_stop hlt (by rw [HQ.out, HB.out]; rfl)).symm, hb.tr hbx⟩
        · go_wp2
          go_ret
          exact ⟨ret_bool (validVars_end h300 (fun j hj => hall.out j (by omega))).symm, hb⟩
    · go_enter Try.func20, Try.ntmps20
      go_wp2_with fail
      go_ret
      exact ⟨ret_bool (by simp [validVars, h300]), Ext.rfl' _⟩
end Go.Proofs.Ytoanjgpdepaciaa

namespace Go.Proofs.Ytoanjgpdepaciaa
open Go.RowKit Go.Cb
set_option linter.all false

set_option maxHeartbeats 400000 in
theorem rLetter_c (c : Int) (w : World) : Calls Try.prog 76 #[.int .u8 c] w fun e w' => e = .returned (.bool (letterB c)) ∧ w = w' := by
  unfold letterB
  by_cases h1 : 65 ≤ c <;> by_cases h2 : c ≤ 90 <;> by_cases h3 : 97 ≤ c <;> by_cases h4 : c ≤ 122 <;> first | (exfalso; omega) | (
    go_enter Try.func76, Try.ntmps76
    go_wp2
    go_ret
    refine ⟨ret_bool ?_, rfl⟩
    simp [*])

theorem partB_iff (c : Int) : partB c = true ↔ letterB c = true ∨ (48 ≤ c ∧ c ≤ 57) ∨ c = 95 ∨ c = 45 ∨ c = 46 := by
  unfold partB; simp [or_assoc]

set_option maxHeartbeats 1000000 in
theorem rIsName_c (s : ByteArray) (w : World) (hs : s.size ≤ 140737488355328) : Calls Try.prog 67 #[.string s] w fun e w' => e = .returned (.bool (isName s)) ∧ w = w' := by
  by_cases h1 : 1 ≤ s.size
  · by_cases h2 : s.size ≤ 40
    · have hg : s.data[0]?.getD 0 = s[0] := by
        rw [Array.getElem?_eq_getElem (show 0 < s.data.size from h1)]; rfl
      cases h3 : letterB (s[0].toNat)
      · have HG := Lib.hid hg; clear hg
        have H3 := Lib.hid h3
        go_enter Try.func67, Try.ntmps67
        go_wp2_with (go_at_call 76; refine (rLetter_c _ _).mono ?_; rintro e w' ⟨rfl, rfl⟩)
        go_ret
        refine ⟨ret_bool ?_, rfl⟩
        unfold isName; rw [HG.out, H3.out]; simp
      · have HG := Lib.hid hg; clear hg
        have H3 := Lib.hid h3
        go_enter Try.func67, Try.ntmps67
        go_wp2_with (go_at_call 76; refine (rLetter_c _ _).mono ?_; rintro e w' ⟨rfl, rfl⟩)
        go_loop [3] (fun i => ∃ k : Nat, 1 ≤ k ∧ k ≤ s.size ∧ i = .int .i64 k ∧ Hid (∀ j x, j < k → s.data.toList[j]? = some x → partB x.toNat = true)) (fun i => s.size - (intOf i).toNat)
        case atStart =>
          refine ⟨1, by omega, by omega, rfl, fun j x hj hx => ?_⟩
          obtain rfl : j = 0 := by omega
          rw [isName_get s 0 (by omega)] at hx
          cases hx
          unfold partB; rw [H3.out]; simp
        case round =>
          obtain ⟨k, hk1, hk, rfl, hall⟩ := hrel
          by_cases hlt : k < s.size
          · have hgk := Lib.hid (isName_get s k hlt)
            have hb : (s[k].toNat : Int) ≤ 255 := by have := s[k].toNat_lt; omega
            go_wp2_with (go_at_call 76; refine (rLetter_c _ _).mono ?_; rintro e w' ⟨rfl, rfl⟩)
            all_goals first
              | (go_ret
                 have hpf : partB s[k].toNat = false := by
                   cases hpt : partB s[k].toNat
                   · rfl
                   · rw [partB_iff] at hpt
                     exfalso
                     rcases hpt with h | h | h | h | h <;> first | (simp_all; done) | (exfalso; omega)
                 refine ⟨ret_bool ?_, rfl⟩
                 symm
                 unfold isName
                 rw [Bool.and_eq_false_iff]; right
                 rw [List.all_eq_false]
                 exact ⟨s[k], List.mem_of_getElem? hgk.out, by rw [hpf]; simp⟩)
              | (have hpt : partB s[k].toNat = true := by
                   rw [partB_iff]
                   first | (left; assumption) | (right; first | omega | (simp_all; done) | (simp_all; omega))
                 go_round
                 case rel =>
                   refine ⟨k + 1, by omega, by omega, by go_num, fun j x hj hx => ?_⟩
                   by_cases e : j = k
                   · subst e; rw [hgk.out] at hx; cases hx; exact hpt
                   · exact hall.out j x (by omega) hx
                 case measure => simp [intOf]; omega)
          · go_wp2
            go_ret
            refine ⟨ret_bool ?_, rfl⟩
            symm
            unfold isName
            rw [HG.out, H3.out]
            simp only [h1, h2, decide_true, Bool.and_true, Bool.true_and]
            rw [List.all_eq_true]
            intro x hx
            obtain ⟨i, hi, rfl⟩ := List.getElem_of_mem hx
            exact hall.out i _ (by have : i < s.size := by simpa using hi
                                   omega) (List.getElem?_eq_getElem hi)
    · have h2' : 40 < s.size := by omega
      go_enter Try.func67, Try.ntmps67
      go_wp2
      go_ret
      refine ⟨ret_bool ?_, rfl⟩
      unfold isName; simp [h2]
  · have h2' : s.size < 1 := by omega
    go_enter Try.func67, Try.ntmps67
    go_wp2
    go_ret
    refine ⟨ret_bool ?_, rfl⟩
    unfold isName; simp [h1]

set_option maxHeartbeats 400000 in
theorem rNames_c (l : List ByteArray) (v : Value) (w : World) {M : Mut} (hl : Strs M w v l) : Calls Try.prog 46 #[v] w fun e w' => e = .returned (.bool (l.all isName)) ∧ w = w' := by
  have hlen := hl.len
  rcases hl.cases with ⟨a, c, rfl, rfl, hc⟩ | ⟨b, off, c, rfl, hlc, hc, h0, hE⟩
  · go_enter Try.func46, Try.ntmps46
    go_wp2_with fail
    go_rounds 1
    go_ret
    exact ⟨rfl, rfl⟩
  · have HE := Lib.hid hE; clear hE hl
    go_enter Try.func46, Try.ntmps46
    go_wp2_with fail
    go_loop [3] (fun i => ∃ k : Nat, k ≤ l.length ∧ i = .int .i64 k ∧ Hid (∀ j x, j < k → l[j]? = some x → isName x = true)) (fun i => l.length - (intOf i).toNat)
    case atStart => exact ⟨0, by omega, rfl, fun j x hj => by omega⟩
    case round =>
      obtain ⟨k, hk, rfl, hall⟩ := hrel
      by_cases hlt : k < l.length
      · obtain ⟨s, hs⟩ := get_some hlt
        have HS := Lib.hid hs; clear hs
        obtain ⟨⟨hc1, _⟩, hs2⟩ := HE.out k s HS.out
        rw [Nat.mul_one] at hc1
        cases hps : isName s
        · have HPS := Lib.hid hps; clear hps
          go_wp2_with (go_at_call 67; refine (rIsName_c _ _ hs2).mono ?_; rintro e w' ⟨rfl, rfl⟩; rw [HPS.out])
          go_ret
          refine ⟨ret_bool ?_, rfl⟩
          symm
          rw [List.all_eq_false]
          exact ⟨s, List.mem_of_getElem? HS.out, by rw [HPS.out]; simp⟩
        · have HPS := Lib.hid hps; clear hps
          go_wp2_with (go_at_call 67; refine (rIsName_c _ _ hs2).mono ?_; rintro e w' ⟨rfl, rfl⟩; rw [HPS.out])
          go_round
          case rel => exact ⟨k + 1, by omega, by go_num, fun j x hj hx => (by
            by_cases e : j = k
            · subst e; rw [HS.out] at hx; cases hx; exact HPS.out
            · exact hall.out j x (by omega) hx)⟩
          case measure => simp [intOf]; omega
      · go_wp2
        go_ret
        refine ⟨ret_bool ?_, rfl⟩
        symm
        rw [List.all_eq_true]
        intro x hx
        obtain ⟨i, hi, rfl⟩ := List.getElem_of_mem hx
        exact hall.out i _ (by omega) (List.getElem?_eq_getElem hi)

set_option maxHeartbeats 400000 in
theorem rIndex_c (l : List ByteArray) (s : ByteArray) (v : Value) (w : World) {M : Mut} (hl : Strs M w v l) : Calls Try.prog 49 #[v, .string s] w fun e w' => e = .returned (.int .i64 (idx (fun x => strEq x s) l)) ∧ w = w' := by
  have hlen := hl.len
  rcases hl.cases with ⟨a, c, rfl, rfl, hc⟩ | ⟨b, off, c, rfl, hlc, hc, h0, hE⟩
  · go_enter Try.func49, Try.ntmps49
    go_wp2_with fail
    go_rounds 1
    go_ret
    exact ⟨rfl, rfl⟩
  · have HE := Lib.hid hE; clear hE hl
    go_enter Try.func49, Try.ntmps49
    go_wp2_with fail
    go_loop [5] (fun i => ∃ k : Nat, k ≤ l.length ∧ i = .int .i64 k ∧ Hid (∀ j x, j < k → l[j]? = some x → strEq x s = false)) (fun i => l.length - (intOf i).toNat)
    case atStart => exact ⟨0, by omega, rfl, fun j x hj => by omega⟩
    case round =>
      obtain ⟨k, hk, rfl, hall⟩ := hrel
      by_cases hlt : k < l.length
      · obtain ⟨x, hx⟩ := get_some hlt
        have HX := Lib.hid hx; clear hx
        obtain ⟨⟨hc1, _⟩, hs2⟩ := HE.out k x HX.out
        rw [Nat.mul_one] at hc1
        cases hps : (x.toList == s.toList)
        · have HPS := Lib.hid hps
          go_wp2_with fail
          go_round
          case rel => exact ⟨k + 1, by omega, by go_num, fun j y hj hy => (by
            by_cases e : j = k
            · subst e; rw [HX.out] at hy; cases hy; exact HPS.out
            · exact hall.out j y (by omega) hy)⟩
          case measure => simp [intOf]; omega
        · have HPS := Lib.hid hps
          go_wp2_with fail
          go_ret
          refine ⟨ret_int ?_, rfl⟩
          rw [idx_here (p := fun x => strEq x s) hall.out HX.out HPS.out]
      · go_wp2
        go_ret
        refine ⟨ret_int ?_, rfl⟩
        rw [idx_none]
        exact fun j y hj hy => hall.out j y (by omega) hy

set_option maxHeartbeats 400000 in
theorem rAscends_c (l : List ByteArray) (v : Value) (w : World) {M : Mut} (hl : Strs M w v l) : Calls Try.prog 48 #[v] w fun e w' => e = .returned (.bool (chainB strLt l)) ∧ Ext w w' := by
  have hlen := hl.len
  rcases hl.cases with ⟨a, c, rfl, rfl, hc⟩ | ⟨b, off, c, rfl, hlc, hc, h0, hE⟩
  · go_enter Try.func48, Try.ntmps48
    go_wp2_with fail
    go_rounds 1
    go_ret
    exact ⟨rfl, Ext.rfl' _⟩
  · have HE := Lib.hid hE; clear hE hl
    go_enter Try.func48, Try.ntmps48
    go_wp2_with fail
    go_loopw [3] (fun i wr => ∃ k : Nat, 1 ≤ k ∧ k ≤ l.length ∧ i = .int .i64 k ∧ Ext w wr ∧ Hid (∀ j x y, 1 ≤ j → j < k → l[j - 1]? = some y → l[j]? = some x → strLt y x = true)) (fun i _ => l.length - (intOf i).toNat)
    case atStart => exact ⟨1, by omega, by omega, rfl, Ext.rfl' _, fun j x y h1 hj => by omega⟩
    case round =>
      obtain ⟨k, hk1, hk, rfl, hb, hall⟩ := hrel
      by_cases hlt : k < l.length
      · obtain ⟨x, hx⟩ := get_some hlt
        obtain ⟨y, hy⟩ := get_some (show k - 1 < l.length by omega)
        have HX := Lib.hid hx; clear hx
        have HY := Lib.hid hy; clear hy
        have hcx := hb.cell (HE.out k x HX.out).1.1
        have hcy := hb.cell (HE.out (k - 1) y HY.out).1.1
        rw [Nat.mul_one] at hcx hcy
        cases hps : Op.bytesLess y.toList x.toList
        · have HPS := Lib.hid hps
          go_wp2_with fail
          go_quiet (fail)
          go_wp2_with fail
          go_ret
          exact ⟨ret_bool (chainB_stop hk1 HY.out HX.out HPS.out).symm, hb.to_drewN _⟩
        · have HPS := Lib.hid hps
          go_wp2_with fail
          go_quiet (fail)
          go_wp2_with fail
          go_roundw
          case rel => exact ⟨k + 1, by omega, by omega, by go_num, hb.to_drewN _, fun j x' y' h1 hj hy' hx' => (by
            by_cases e : j = k
            · subst e; rw [HX.out] at hx'; rw [HY.out] at hy'; cases hx'; cases hy'; exact HPS.out
            · exact hall.out j x' y' h1 (by omega) hy' hx')⟩
          case measure => simp [intOf]; omega
      · go_wp2
        go_ret
        exact ⟨ret_bool (chainB_end fun j x y h1 hy hx => hall.out j x y h1 (by have := (List.getElem?_eq_some_iff.1 hx).1; omega) hy hx).symm, hb⟩
end Go.Proofs.Ytoanjgpdepaciaa

namespace Go.Proofs.Ytoanjgpdepaciaa
open Go.RowKit Go.Cb
set_option linter.all false

set_option maxHeartbeats 1000000 in
theorem rCompare_c (l m : List ByteArray) (v u : Value) (w : World) {M : Mut} (hl : Strs M w v l) (hm : Strs M w u m) :
    Calls Try.prog 47 #[v, u] w fun e w' => e = .returned (.int .i64 (cmpStrs l m)) ∧ Ext w w' := by
  have hlen := hl.len
  have hmen := hm.len
  rcases hl.cases with ⟨a1, c1, rfl, rfl, hc1⟩ | ⟨b1, off1, c1, rfl, hlc1, hc1, h01, hE1⟩
  · obtain ⟨a2, c2, rfl, hm1, hm2, hm3⟩ := hm
    clear hm3 hl
    cases m with
    | nil =>
      go_enter Try.func47, Try.ntmps47
      go_wp2_with fail
      go_rounds 1
      go_ret
      exact ⟨rfl, Ext.rfl' _⟩
    | cons y m =>
      simp only [List.length_cons] at *
      go_enter Try.func47, Try.ntmps47
      go_wp2_with fail
      go_rounds 1
      go_ret
      exact ⟨rfl, Ext.rfl' _⟩
  · have HE1 := Lib.hid hE1; clear hE1 hl
    rcases hm.cases with ⟨a2, c2, rfl, rfl, hc2⟩ | ⟨b2, off2, c2, rfl, hlc2, hc2, h02, hE2⟩
    · clear hm
      have d1 : decide ((0 : Int) < (l.length : Int)) = true := by simp; omega
      go_enter Try.func47, Try.ntmps47
      go_wp2_with fail
      go_rounds 1
      go_ret
      refine ⟨ret_int ?_, Ext.rfl' _⟩
      cases l with
      | nil => simp at h01
      | cons y l => simp [cmpStrs]
    · have HE2 := Lib.hid hE2; clear hE2 hm
      go_enter Try.func47, Try.ntmps47
      go_wp2_with fail
      go_loopw [5] (fun i wr => ∃ k : Nat, k ≤ l.length ∧ k ≤ m.length ∧ i = .int .i64 k ∧ Ext w wr ∧ Hid (cmpStrs l m = cmpStrs (l.drop k) (m.drop k))) (fun i _ => l.length - (intOf i).toNat)
      case atStart => exact ⟨0, by omega, by omega, rfl, Ext.rfl' _, rfl⟩
      case round =>
        obtain ⟨k, hk, hk2, rfl, hb, hpre⟩ := hrel
        by_cases hlt : k < l.length
        · obtain ⟨x, hx⟩ := get_some hlt
          have hcx := hb.cell (HE1.out k x hx).1.1
          rw [Nat.mul_one] at hcx
          have HX := Lib.hid hx; clear hx
          have d1 : decide ((k : Int) < (l.length : Int)) = true := by simp; omega
          by_cases hlt2 : k < m.length
          · obtain ⟨y, hy⟩ := get_some hlt2
            have hcy := hb.cell (HE2.out k y hy).1.1
            rw [Nat.mul_one] at hcy
            have HY := Lib.hid hy; clear hy
            cases h1 : Op.bytesLess x.toList y.toList
            · have H1 := Lib.hid h1
              cases h2 : (x.toList == y.toList)
              · have H2 := Lib.hid h2
                go_wp2_with fail
                go_quiet (fail)
                go_wp2_with fail
                go_quiet (fail)
                go_wp2_with fail
                go_ret
                refine ⟨ret_int ?_, (by first | exact hb.to_drewN _ | exact (hb.to_drewN _).to_drewN _)⟩
                rw [hpre.out, drop_at HX.out, drop_at HY.out, cmpStrs]
                simp [cmpStr, strLt, strEq, H1.out, H2.out]
              · have H2 := Lib.hid h2
                go_wp2_with fail
                go_quiet (fail)
                go_wp2_with fail
                go_quiet (fail)
                go_wp2_with fail
                go_roundw
                case rel =>
                  refine ⟨k + 1, by omega, by omega, by go_num, (by first | exact hb.to_drewN _ | exact (hb.to_drewN _).to_drewN _), ?_⟩
                  show cmpStrs l m = _
                  rw [hpre.out, drop_at HX.out, drop_at HY.out, cmpStrs]
                  simp [cmpStr, strLt, strEq, H1.out, H2.out]
                case measure => simp [intOf]; omega
            · have H1 := Lib.hid h1
              go_wp2_with fail
              go_quiet (fail)
              go_wp2_with fail
              go_ret
              refine ⟨ret_int ?_, (by first | exact hb.to_drewN _ | exact (hb.to_drewN _).to_drewN _)⟩
              rw [hpre.out, drop_at HX.out, drop_at HY.out, cmpStrs]
              simp [cmpStr, strLt, H1.out]
          · go_wp2_with fail
            go_ret
            refine ⟨ret_int ?_, hb⟩
            rw [hpre.out, drop_at HX.out, List.drop_eq_nil_of_le (by omega : m.length ≤ k), cmpStrs]
        · by_cases hlt2 : k < m.length
          · obtain ⟨y, hy⟩ := get_some hlt2
            have HY := Lib.hid hy; clear hy
            go_wp2_with fail
            go_ret
            refine ⟨ret_int ?_, hb⟩
            rw [hpre.out, drop_at HY.out, List.drop_eq_nil_of_le (by omega : l.length ≤ k), cmpStrs]
          · go_wp2_with fail
            go_ret
            refine ⟨ret_int ?_, hb⟩
            rw [hpre.out, List.drop_eq_nil_of_le (by omega : m.length ≤ k), List.drop_eq_nil_of_le (by omega : l.length ≤ k), cmpStrs]

set_option maxHeartbeats 400000 in
theorem rSame_c (l m : List ByteArray) (v u : Value) (w : World) {M : Mut} (hl : Strs M w v l) (hm : Strs M w u m) :
    Calls Try.prog 33 #[v, u] w fun e w' => e = .returned (.bool (decide (cmpStrs l m = 0))) ∧ Ext w w' := by
  have HP := Lib.hid (rCompare_c l m v u w hl hm); clear hl hm
  go_enter Try.func33, Try.ntmps33
  go_wp2_with (go_at_call 47; refine HP.out.mono ?_; rintro e w1 ⟨rfl, he⟩)
  go_ret
  exact ⟨ret_bool (by rw [Bool.eq_iff_iff]; simp), he⟩

set_option maxHeartbeats 400000 in
theorem rPart_c (c : Cut) (s : ByteArray) (v : Value) (w : World) {M : Mut} (hc : CutR M w v c) : Calls Try.prog 30 #[v, .string s] w fun e w' => e = .returned (.int .i64 (partOf c.parts s)) ∧ Ext w w' := by
  obtain ⟨u, rfl, hp, hk1, hk2⟩ := hc
  have hlen := hp.len
  rcases hp.cases with ⟨a, c1, rfl, hnil, hc1⟩ | ⟨b, off, c1, rfl, hlc, hc1, h0, hE⟩
  · have HN := Lib.hid hnil; clear hnil hp
    go_enter Try.func30, Try.ntmps30
    go_wp2_with fail
    go_rounds 1
    go_ret
    exact ⟨ret_int (by rw [HN.out]; rfl), Ext.alloc _ _⟩
  · have HE := Lib.hid hE; clear hE hp
    go_enter Try.func30, Try.ntmps30
    go_wp2_with fail
    have q1 : (w.alloc (.cells #[.int .i64 c.kind, .slice (some ⟨b, off, none⟩) c.parts.length c1] 25)).cell? ⟨w.heap.size, 1, none⟩ = some (.slice (some ⟨b, off, none⟩) c.parts.length c1) := by simp
    have HQ1 := Lib.hid q1; clear q1
    go_loopw [5] (fun i wr => ∃ k : Nat, k ≤ c.parts.length ∧ i = .int .i64 k ∧ Ext (w.alloc (.cells #[.int .i64 c.kind, .slice (some ⟨b, off, none⟩) c.parts.length c1] 25)) wr ∧ Hid (∀ j x, j < k → c.parts[j]? = some x → hasStr x s = false)) (fun i _ => c.parts.length - (intOf i).toNat)
    case atStart => exact ⟨0, by omega, rfl, Ext.rfl' _, fun j x hj => by omega⟩
    case round =>
      obtain ⟨k, hk, rfl, hb, hall⟩ := hrel
      have q1 := hb.cell HQ1.out
      by_cases hlt : k < c.parts.length
      · obtain ⟨p, hx⟩ := get_some hlt
        obtain ⟨u, ⟨hu, _⟩, hS⟩ := HE.out k p hx
        have HX := Lib.hid hx; clear hx
        have gu := hb.cell ((Ext.alloc _ _).cell hu); clear hu
        rw [Nat.mul_one] at gu
        have hS' := hS.up ((Ext.alloc _ _).tr hb)
        have HC := Lib.hid (rIndex_c p s u wr hS'); clear hS hS'
        have hbd := idx_bd (fun x => strEq x s) p
        have hany := idx_any (fun x => strEq x s) p
        obtain ⟨q, hq⟩ : ∃ q, q = idx (fun x => strEq x s) p := ⟨_, rfl⟩
        rw [← hq] at HC hbd hany
        clear hq
        by_cases h0 : 0 ≤ q
        · have HA : Hid (hasStr p s = true) := by show hasStr p s = true; unfold hasStr; rw [← hany]; simpa using h0
          clear hany
          go_wp2_with (go_at_call 49; refine HC.out.mono ?_; rintro e w' ⟨rfl, rfl⟩)
          go_ret
          refine ⟨ret_int ?_, (Ext.alloc _ _).tr hb⟩
          unfold partOf
          rw [idx_here (p := fun p => hasStr p s) hall.out HX.out HA.out]
        · have HA : Hid (hasStr p s = false) := by show hasStr p s = false; unfold hasStr; rw [← hany]; simpa using h0
          clear hany
          go_wp2_with (go_at_call 49; refine HC.out.mono ?_; rintro e w' ⟨rfl, rfl⟩)
          go_roundw
          case rel => exact ⟨k + 1, by omega, by go_num, hb, fun j y hj hy => (by
            by_cases e : j = k
            · subst e; rw [HX.out] at hy; cases hy; exact HA.out
            · exact hall.out j y (by omega) hy)⟩
          case measure => simp [intOf]; omega
      · go_wp2_with fail
        go_ret
        refine ⟨ret_int ?_, (Ext.alloc _ _).tr hb⟩
        unfold partOf
        rw [idx_none]
        exact fun j y hj hy => hall.out j y (by omega) hy

theorem okVar_eq {x : Var} {t : Bool} (ht : x.acts.all isName = t) : okVar x = !(decide ((200 : Int) < (x.acts.length : Int)) || !t || decide (x.count < 1) || decide (1048576 < x.count)) := by
  have e1 : decide (x.acts.length ≤ 200) = !decide ((200 : Int) < (x.acts.length : Int)) := by rw [Bool.eq_iff_iff]; simp; omega
  have e3 : decide (1 ≤ x.count) = !decide (x.count < 1) := by rw [Bool.eq_iff_iff]; simp
  have e4 : decide (x.count ≤ 1048576) = !decide (1048576 < x.count) := by rw [Bool.eq_iff_iff]; simp
  unfold okVar
  rw [ht, e1, e3, e4]
  simp only [Bool.not_or, Bool.not_not]

set_option maxHeartbeats 1000000 in
theorem rValidVariants_c (l : List Var) (v : Value) (w : World) {M : Mut} (hl : Vars M w v l) :
    Calls Try.prog 28 #[v] w fun e w' => e = .returned (.bool (validVars l)) ∧ Ext w w' := by
  have hlen := hl.len
  rcases hl.cases with ⟨a, c, rfl, rfl, hc⟩ | ⟨b, off, c, rfl, hlc, hc, h0, hE⟩
  · go_enter Try.func28, Try.ntmps28
    go_wp2_with fail
    go_rounds 1
    go_ret
    exact ⟨rfl, Ext.rfl' _⟩
  · have HE := Lib.hid hE; clear hE hl
    by_cases h300 : l.length ≤ 300
    · go_enter Try.func28, Try.ntmps28
      go_wp2_with fail
      go_loopw [3] (fun i wr => ∃ k : Nat, k ≤ l.length ∧ i = .int .i64 k ∧ Ext w wr ∧ Hid (∀ j, j < k → stepOk l j = true)) (fun i _ => l.length - (intOf i).toNat)
      case atStart => exact ⟨0, by omega, rfl, Ext.rfl' _, fun j hj => by omega⟩
      case round =>
        obtain ⟨k, hk, rfl, hb, hall⟩ := hrel
        by_cases hlt : k < l.length
        · obtain ⟨x, hx⟩ := get_some hlt
          obtain ⟨⟨u, ⟨hu, _⟩, hS⟩, ⟨hn, _⟩, hn1, hn2⟩ := HE.out k x hx
          have HX := Lib.hid hx; clear hx
          have gu := hb.cell hu; clear hu
          have gn := hb.cell hn; clear hn
          obtain ⟨a1, c1, rfl, hlx, hcx, hS3⟩ := hS
          have hS : Strs M w (.slice a1 x.acts.length c1) x.acts := ⟨a1, c1, rfl, hlx, hcx, hS3⟩
          clear hS3
          obtain ⟨t, ht⟩ : ∃ t, x.acts.all isName = t := ⟨_, rfl⟩
          have HN : Hid (∀ W, Ext w W → Calls Try.prog 46 #[.slice a1 x.acts.length c1] W fun e w' => e = .returned (.bool t) ∧ W = w') := fun W hW => by rw [← ht]; exact rNames_c _ _ _ (hS.up hW)
          have HT := Lib.hid (okVar_eq ht); clear ht
          have HS := Lib.hid hS; clear hS
          by_cases hok : okVar x = true
          · have HK : Hid (okVar x = true) := hok
            rw [HT.out] at hok
            simp only [Bool.not_eq_true', Bool.or_eq_false_iff] at hok
            obtain ⟨⟨⟨d1, d2⟩, d3⟩, d4⟩ := hok
            obtain rfl : t = true := by simpa using d2
            clear d2
            by_cases hpos : 0 < k
            · obtain ⟨y, hy⟩ := get_some (show k - 1 < l.length by omega)
              obtain ⟨⟨u', ⟨hu', _⟩, hS'⟩, _⟩ := HE.out (k - 1) y hy
              have HY := Lib.hid hy; clear hy
              obtain ⟨a2, c2, rfl, hly, hcy, hS3⟩ := id hS'
              clear hS3
              have gu' := hb.cell hu'; clear hu'
              obtain ⟨q, hq⟩ : ∃ q, cmpStrs y.acts x.acts = q := ⟨_, rfl⟩
              have HC : Hid (∀ W, Ext w W → Calls Try.prog 47 #[.slice a2 y.acts.length c2, .slice a1 x.acts.length c1] W fun e w' => e = .returned (.int .i64 q) ∧ Ext W w') := fun W hW => by rw [← hq]; exact rCompare_c _ _ _ _ _ (hS'.up hW) (HS.out.up hW)
              have HS' := Lib.hid hS'; clear hS'
              have HQ := Lib.hid hq; clear hq
              have d5 : decide ((0 : Int) < (k : Int)) = true := by simp; omega
              have f1 : ∀ z, (wr.plus z).cell? ⟨b, off + k * 2, none⟩ = some (.slice a1 x.acts.length c1) := fun z => plus_cell gu z
              have f2 : ∀ z, (wr.plus z).cell? ⟨b, off + (k - 1) * 2, none⟩ = some (.slice a2 y.acts.length c2) := fun z => plus_cell gu' z
              by_cases h0q : 0 ≤ q
              · have d6 : decide (0 ≤ q) = true := by simpa using h0q
                go_wp2_with (go_at_call 46; refine (HN.out _ hb).mono ?_; rintro e w' ⟨rfl, rfl⟩)
                refine wp_region_grow (by kernel_rfl) (by kernel_rfl) ?_
                repeat (go_big_quiet_step (first | (go_at_call 47; exact plus_call (HC.out _ (hb.tr (plus_ext _ _))))))
                refine wpQuiet_nil ?_
                rintro wq ⟨z, rfl⟩
                go_wp2_with fail
                go_ret
                refine ⟨ret_bool (validVars_stop hlt ?_).symm, hb.tr (plus_ext _ z)⟩
                rw [stepOk_pos HX.out HY.out hpos, HQ.out]
                have : decide (q < 0) = false := by simpa using h0q
                rw [this, Bool.and_false]
              · have d6 : decide (0 ≤ q) = false := by simpa using h0q
                go_wp2_with (go_at_call 46; refine (HN.out _ hb).mono ?_; rintro e w' ⟨rfl, rfl⟩)
                refine wp_region_grow (by kernel_rfl) (by kernel_rfl) ?_
                repeat (go_big_quiet_step (first | (go_at_call 47; exact plus_call (HC.out _ (hb.tr (plus_ext _ _))))))
                refine wpQuiet_nil ?_
                rintro wq ⟨z, rfl⟩
                go_wp2_with fail
                go_roundw
                case rel =>
                  refine ⟨k + 1, by omega, by go_num, hb.tr (plus_ext _ z), fun j hj => ?_⟩
                  by_cases e : j = k
                  · subst e
                    rw [stepOk_pos HX.out HY.out hpos, HQ.out, HK.out]
                    simp only [Bool.true_and, decide_eq_true_eq]
                    omega
                  · exact hall.out j (by omega)
                case measure => simp [intOf]; omega
            · have d5 : decide ((0 : Int) < (k : Int)) = false := by simp; omega
              go_wp2_with (go_at_call 46; refine (HN.out _ hb).mono ?_; rintro e w' ⟨rfl, rfl⟩)
              refine wp_region_grow (by kernel_rfl) (by kernel_rfl) ?_
              repeat (go_big_quiet_step (fail))
              refine wpQuiet_nil ?_
              rintro wq ⟨z, rfl⟩
              go_wp2_with fail
              go_roundw
              case rel =>
                refine ⟨k + 1, by omega, by go_num, hb.tr (plus_ext _ z), fun j hj => ?_⟩
                obtain rfl : j = 0 := by omega
                obtain rfl : k = 0 := by omega
                rw [stepOk_zero HX.out, HK.out]
              case measure => simp [intOf]; omega
          · have HK : Hid (okVar x = false) := by show okVar x = false; simpa using hok
            have hst : Hid (validVars l = false) := by
              refine validVars_stop hlt ?_
              by_cases hpos : 0 < k
              · obtain ⟨y, hy⟩ := get_some (show k - 1 < l.length by omega)
                rw [stepOk_pos HX.out hy hpos, HK.out, Bool.false_and]
              · obtain rfl : k = 0 := by omega
                rw [stepOk_zero HX.out, HK.out]
            clear hok
            by_cases d1 : 200 < x.acts.length
            · have d1' : decide ((200 : Int) < (x.acts.length : Int)) = true := by simp; omega
              go_wp2_with fail
              go_ret
              exact ⟨ret_bool hst.out.symm, hb⟩
            · have d1' : decide ((200 : Int) < (x.acts.length : Int)) = false := by simp; omega
              cases t
              · go_wp2_with (go_at_call 46; refine (HN.out _ hb).mono ?_; rintro e w' ⟨rfl, rfl⟩)
                go_ret
                exact ⟨ret_bool hst.out.symm, hb⟩
              · by_cases d3 : x.count < 1
                · have d3' : decide (x.count < 1) = true := by simp; omega
                  go_wp2_with (go_at_call 46; refine (HN.out _ hb).mono ?_; rintro e w' ⟨rfl, rfl⟩)
                  go_ret
                  exact ⟨ret_bool hst.out.symm, hb⟩
                · have d3' : decide (x.count < 1) = false := by simp; omega
                  have d4 : 1048576 < x.count := by
                    have h4 := HK.out
                    rw [HT.out, d1', d3'] at h4
                    simpa using h4
                  have d4' : decide (1048576 < x.count) = true := by simp; omega
                  go_wp2_with (go_at_call 46; refine (HN.out _ hb).mono ?_; rintro e w' ⟨rfl, rfl⟩)
                  go_ret
                  exact ⟨ret_bool hst.out.symm, hb⟩
        · go_wp2
          go_ret
          exact ⟨ret_bool (validVars_end h300 (fun j hj => hall.out j (by omega))).symm, hb⟩
    · go_enter Try.func28, Try.ntmps28
      go_wp2_with fail
      go_ret
      exact ⟨ret_bool (by simp [validVars, h300]), Ext.rfl' _⟩
end Go.Proofs.Ytoanjgpdepaciaa

namespace Go.Proofs.Ytoanjgpdepaciaa
open Go.RowKit Go.Cb
set_option linter.all false

set_option maxHeartbeats 400000 in
theorem indexFunc_vars (g : FuncId) (caps : Array Value) (p : Var → Bool) (l : List Var) (v : Value) (w : World) {M : Mut} (hl : Vars M w v l) (hg : ∀ args w, (callFunc g args).run Try.prog w = .ok (.enter g args) w)
    (hp : ∀ w' u x, Ext w w' → x ∈ l → Strs M w' u x.acts → -9223372036854775808 ≤ x.count → x.count ≤ 9223372036854775807 → Calls Try.prog g (#[.agg #[u, .int .i64 x.count]] ++ caps) w' fun e w'' => e = .returned (.bool (p x)) ∧ Ext w' w'') :
    Calls Try.prog 34 #[v, .func (.func g) #[] caps] w fun e w' => e = .returned (.int .i64 (idx p l)) ∧ Ext w w' := by
  have HP := Lib.hid hp; clear hp
  have hlen := hl.len
  rcases hl.cases with ⟨a, c, rfl, rfl, hc⟩ | ⟨b, off, c, rfl, hlc, hc, h0, hE⟩
  · go_enter Try.func34, Try.ntmps34
    go_wp2_with fail
    go_rounds 1
    go_ret
    exact ⟨rfl, Ext.rfl' _⟩
  · have HE := Lib.hid hE; clear hE
    clear hl
    go_enter Try.func34, Try.ntmps34
    go_wp2_with fail
    go_loopw [8] (fun i wr => ∃ k : Nat, k ≤ l.length ∧ i = .int .i64 k ∧ Ext w wr ∧ Hid (∀ j x, j < k → l[j]? = some x → p x = false)) (fun i _ => l.length - (intOf i).toNat)
    case atStart => exact ⟨0, by omega, rfl, Ext.rfl' _, fun j x hj => by omega⟩
    case round =>
      obtain ⟨k, hk, rfl, hb, hall⟩ := hrel
      by_cases hlt : k < l.length
      · obtain ⟨x, hx⟩ := get_some hlt
        have HX := Lib.hid hx; clear hx
        obtain ⟨⟨u, ⟨hu, _⟩, hS⟩, ⟨hn, _⟩, hn1, hn2⟩ := HE.out k x HX.out
        have gu := hb.cell hu; clear hu
        have gn := hb.cell hn; clear hn
        have HCALL : Hid (Calls Try.prog g (#[.agg #[u, .int .i64 x.count]] ++ caps) wr fun e w'' => e = .returned (.bool (p x)) ∧ Ext wr w'') := HP.out wr u x hb (List.mem_of_getElem? HX.out) (hS.up hb) hn1 hn2
        clear hS
        cases hps : p x
        · have HPS := Lib.hid hps; clear hps
          go_wp2_with fail
          refine HCALL.out.mono ?_
          rintro e w1 ⟨rfl, he⟩
          rw [HPS.out]
          go_wp2_with fail
          go_roundw
          case rel => exact ⟨k + 1, by omega, by go_num, hb.tr he, fun j x hj hx => (by
            by_cases e : j = k
            · subst e; rw [HX.out] at hx; cases hx; exact HPS.out
            · exact hall.out j x (by omega) hx)⟩
          case measure => simp [intOf]; omega
        · have HPS := Lib.hid hps; clear hps
          go_wp2_with fail
          refine HCALL.out.mono ?_
          rintro e w1 ⟨rfl, he⟩
          rw [HPS.out]
          go_wp2_with fail
          go_ret
          refine ⟨ret_int ?_, hb.tr he⟩
          rw [idx_here hall.out HX.out HPS.out]
      · go_wp2
        go_ret
        refine ⟨ret_int ?_, hb⟩
        rw [idx_none]
        exact fun j y hj hy => hall.out j y (by omega) hy

set_option maxHeartbeats 400000 in
theorem containsFunc_vars (g : FuncId) (caps : Array Value) (p : Var → Bool) (l : List Var) (v : Value) (w : World) {M : Mut} (hl : Vars M w v l) (hg : ∀ args w, (callFunc g args).run Try.prog w = .ok (.enter g args) w)
    (hp : ∀ w' u x, Ext w w' → x ∈ l → Strs M w' u x.acts → -9223372036854775808 ≤ x.count → x.count ≤ 9223372036854775807 → Calls Try.prog g (#[.agg #[u, .int .i64 x.count]] ++ caps) w' fun e w'' => e = .returned (.bool (p x)) ∧ Ext w' w'') :
    Calls Try.prog 12 #[v, .func (.func g) #[] caps] w fun e w' => e = .returned (.bool (l.any p)) ∧ Ext w w' := by
  have HP := Lib.hid (indexFunc_vars g caps p l v w hl hg hp); clear hp hg hl
  go_enter Try.func12, Try.ntmps12
  go_wp2_with (go_at_call 34; refine HP.out.mono ?_; rintro e w1 ⟨rfl, he⟩)
  go_ret
  exact ⟨ret_bool (idx_any p l), he⟩

set_option maxHeartbeats 400000 in
theorem indexFunc_strss (g : FuncId) (caps : Array Value) (p : (List ByteArray) → Bool) (l : List (List ByteArray)) (v : Value) (w : World) {M : Mut} (hl : Strss M w v l) (hg : ∀ args w, (callFunc g args).run Try.prog w = .ok (.enter g args) w)
    (hp : ∀ w' u x, Ext w w' → x ∈ l → Strs M w' u x → Calls Try.prog g (#[u] ++ caps) w' fun e w'' => e = .returned (.bool (p x)) ∧ Ext w' w'') :
    Calls Try.prog 36 #[v, .func (.func g) #[] caps] w fun e w' => e = .returned (.int .i64 (idx p l)) ∧ Ext w w' := by
  have HP := Lib.hid hp; clear hp
  have hlen := hl.len
  rcases hl.cases with ⟨a, c, rfl, rfl, hc⟩ | ⟨b, off, c, rfl, hlc, hc, h0, hE⟩
  · go_enter Try.func36, Try.ntmps36
    go_wp2_with fail
    go_rounds 1
    go_ret
    exact ⟨rfl, Ext.rfl' _⟩
  · have HE := Lib.hid hE; clear hE
    clear hl
    go_enter Try.func36, Try.ntmps36
    go_wp2_with fail
    go_loopw [8] (fun i wr => ∃ k : Nat, k ≤ l.length ∧ i = .int .i64 k ∧ Ext w wr ∧ Hid (∀ j x, j < k → l[j]? = some x → p x = false)) (fun i _ => l.length - (intOf i).toNat)
    case atStart => exact ⟨0, by omega, rfl, Ext.rfl' _, fun j x hj => by omega⟩
    case round =>
      obtain ⟨k, hk, rfl, hb, hall⟩ := hrel
      by_cases hlt : k < l.length
      · obtain ⟨x, hx⟩ := get_some hlt
        have HX := Lib.hid hx; clear hx
        obtain ⟨u, ⟨hu, _⟩, hS⟩ := HE.out k x HX.out
        have gu := hb.cell hu; clear hu
        rw [Nat.mul_one] at gu
        have HCALL : Hid (Calls Try.prog g (#[u] ++ caps) wr fun e w'' => e = .returned (.bool (p x)) ∧ Ext wr w'') := HP.out wr u x hb (List.mem_of_getElem? HX.out) (Strs.up hS hb)
        clear hS
        cases hps : p x
        · have HPS := Lib.hid hps; clear hps
          go_wp2_with fail
          refine HCALL.out.mono ?_
          rintro e w1 ⟨rfl, he⟩
          rw [HPS.out]
          go_wp2_with fail
          go_roundw
          case rel => exact ⟨k + 1, by omega, by go_num, hb.tr he, fun j x hj hx => (by
            by_cases e : j = k
            · subst e; rw [HX.out] at hx; cases hx; exact HPS.out
            · exact hall.out j x (by omega) hx)⟩
          case measure => simp [intOf]; omega
        · have HPS := Lib.hid hps; clear hps
          go_wp2_with fail
          refine HCALL.out.mono ?_
          rintro e w1 ⟨rfl, he⟩
          rw [HPS.out]
          go_wp2_with fail
          go_ret
          refine ⟨ret_int ?_, hb.tr he⟩
          rw [idx_here hall.out HX.out HPS.out]
      · go_wp2
        go_ret
        refine ⟨ret_int ?_, hb⟩
        rw [idx_none]
        exact fun j y hj hy => hall.out j y (by omega) hy

set_option maxHeartbeats 400000 in
theorem containsFunc_strss (g : FuncId) (caps : Array Value) (p : (List ByteArray) → Bool) (l : List (List ByteArray)) (v : Value) (w : World) {M : Mut} (hl : Strss M w v l) (hg : ∀ args w, (callFunc g args).run Try.prog w = .ok (.enter g args) w)
    (hp : ∀ w' u x, Ext w w' → x ∈ l → Strs M w' u x → Calls Try.prog g (#[u] ++ caps) w' fun e w'' => e = .returned (.bool (p x)) ∧ Ext w' w'') :
    Calls Try.prog 16 #[v, .func (.func g) #[] caps] w fun e w' => e = .returned (.bool (l.any p)) ∧ Ext w w' := by
  have HP := Lib.hid (indexFunc_strss g caps p l v w hl hg hp); clear hp hg hl
  go_enter Try.func16, Try.ntmps16
  go_wp2_with (go_at_call 36; refine HP.out.mono ?_; rintro e w1 ⟨rfl, he⟩)
  go_ret
  exact ⟨ret_bool (idx_any p l), he⟩

set_option maxHeartbeats 400000 in
theorem fewVariants11_c (s : ByteArray) (w : World) (hs : s.size ≤ 140737488355328) : Calls Try.prog 15 #[.string s] w fun e w' => e = .returned (.bool (decide ((60 : Int) < (s.size : Int)))) ∧ Ext w w' := by
  go_enter Try.func15, Try.ntmps15
  go_wp2
  go_ret
  exact ⟨rfl, Ext.rfl' _⟩

set_option maxHeartbeats 400000 in
theorem few11_c (s : ByteArray) (w : World) (hs : s.size ≤ 140737488355328) : Calls Try.prog 18 #[.string s] w fun e w' => e = .returned (.bool (decide ((60 : Int) < (s.size : Int)))) ∧ Ext w w' := by
  go_enter Try.func18, Try.ntmps18
  go_wp2
  go_ret
  exact ⟨rfl, Ext.rfl' _⟩

def longStr (s : ByteArray) : Bool := decide ((60 : Int) < (s.size : Int))
def manyVar (x : Var) : Bool := decide ((15 : Int) < (x.acts.length : Int)) || x.acts.any longStr
def fewVarsB (l : List Var) : Bool := decide ((l.length : Int) ≤ 12) && !l.any manyVar
def manyPart (p : List ByteArray) : Bool := decide ((12 : Int) < (p.length : Int)) || p.any longStr
def fewB (c : Cut) : Bool := decide ((c.parts.length : Int) ≤ 10) && !c.parts.any manyPart

set_option maxHeartbeats 400000 in
theorem fewVariants1_c (u : Value) (x : Var) (w : World) {M : Mut} (hS : Strs M w u x.acts) : Calls Try.prog 13 #[.agg #[u, .int .i64 x.count]] w fun e w' => e = .returned (.bool (manyVar x)) ∧ Ext w w' := by
  have hlen := hS.len
  have HC : Hid (∀ W, Ext w W → Calls Try.prog 14 #[u, .func (.func 15) #[] #[]] W fun e w' => e = .returned (.bool (x.acts.any longStr)) ∧ Ext W w') :=
    fun W hW => containsFunc_strs 15 #[] longStr x.acts u W (hS.up hW) Try.call15 (fun w' s _ _ hs => fewVariants11_c s w' hs)
  obtain ⟨a1, c1, rfl, hlx, hcx, hS3⟩ := hS
  clear hS3
  obtain ⟨t, ht⟩ : ∃ t, x.acts.any longStr = t := ⟨_, rfl⟩
  rw [ht] at HC
  have HT := Lib.hid ht; clear ht
  by_cases d1 : 15 < x.acts.length
  · have d1' : decide ((15 : Int) < (x.acts.length : Int)) = true := by simp; omega
    go_enter Try.func13, Try.ntmps13
    go_wp2_with fail
    go_ret
    exact ⟨ret_bool (by unfold manyVar; rw [d1', Bool.true_or]), Ext.alloc _ _⟩
  · have d1' : decide ((15 : Int) < (x.acts.length : Int)) = false := by simp; omega
    go_enter Try.func13, Try.ntmps13
    go_wp2_with (go_at_call 14; refine (HC.out _ (Ext.alloc _ _)).mono ?_; rintro e w1 ⟨rfl, he⟩)
    go_ret
    exact ⟨ret_bool (by unfold manyVar; rw [d1', Bool.false_or, HT.out]), (Ext.alloc _ _).tr he⟩

set_option maxHeartbeats 400000 in
theorem fewVariants_c (l : List Var) (v : Value) (w : World) {M : Mut} (hl : Vars M w v l) : Calls Try.prog 5 #[v] w fun e w' => e = .returned (.bool (fewVarsB l)) ∧ Ext w w' := by
  have hlen := hl.len
  have HC : Hid (Calls Try.prog 12 #[v, .func (.func 13) #[] #[]] w fun e w' => e = .returned (.bool (l.any manyVar)) ∧ Ext w w') :=
    containsFunc_vars 13 #[] manyVar l v w hl Try.call13 (fun w' u x _ _ hS _ _ => fewVariants1_c u x w' hS)
  obtain ⟨a1, c1, rfl, hlx, hcx, hS3⟩ := hl
  clear hS3
  obtain ⟨t, ht⟩ : ∃ t, l.any manyVar = t := ⟨_, rfl⟩
  rw [ht] at HC
  have HT := Lib.hid ht; clear ht
  by_cases d1 : l.length ≤ 12
  · have d1' : decide ((l.length : Int) ≤ 12) = true := by simp; omega
    go_enter Try.func5, Try.ntmps5
    go_wp2_with (go_at_call 12; refine HC.out.mono ?_; rintro e w1 ⟨rfl, he⟩)
    go_ret
    exact ⟨ret_bool (by unfold fewVarsB; rw [d1', Bool.true_and, HT.out]), he⟩
  · have d1' : decide ((l.length : Int) ≤ 12) = false := by simp; omega
    go_enter Try.func5, Try.ntmps5
    go_wp2_with fail
    go_ret
    exact ⟨ret_bool (by unfold fewVarsB; rw [d1', Bool.false_and]), Ext.rfl' _⟩

set_option maxHeartbeats 400000 in
theorem few1_c (u : Value) (p : List ByteArray) (w : World) {M : Mut} (hS : Strs M w u p) : Calls Try.prog 17 #[u] w fun e w' => e = .returned (.bool (manyPart p)) ∧ Ext w w' := by
  have hlen := hS.len
  have HC : Hid (Calls Try.prog 14 #[u, .func (.func 18) #[] #[]] w fun e w' => e = .returned (.bool (p.any longStr)) ∧ Ext w w') :=
    containsFunc_strs 18 #[] longStr p u w hS Try.call18 (fun w' s _ _ hs => few11_c s w' hs)
  obtain ⟨a1, c1, rfl, hlx, hcx, hS3⟩ := hS
  clear hS3
  obtain ⟨t, ht⟩ : ∃ t, p.any longStr = t := ⟨_, rfl⟩
  rw [ht] at HC
  have HT := Lib.hid ht; clear ht
  by_cases d1 : 12 < p.length
  · have d1' : decide ((12 : Int) < (p.length : Int)) = true := by simp; omega
    go_enter Try.func17, Try.ntmps17
    go_wp2_with fail
    go_ret
    exact ⟨ret_bool (by unfold manyPart; rw [d1', Bool.true_or]), Ext.rfl' _⟩
  · have d1' : decide ((12 : Int) < (p.length : Int)) = false := by simp; omega
    go_enter Try.func17, Try.ntmps17
    go_wp2_with (go_at_call 14; refine HC.out.mono ?_; rintro e w1 ⟨rfl, he⟩)
    go_ret
    exact ⟨ret_bool (by unfold manyPart; rw [d1', Bool.false_or, HT.out]), he⟩

set_option maxHeartbeats 400000 in
theorem few_c (c : Cut) (v : Value) (w : World) {M : Mut} (hc : CutR M w v c) : Calls Try.prog 6 #[v] w fun e w' => e = .returned (.bool (fewB c)) ∧ Ext w w' := by
  obtain ⟨u, rfl, hp, hk1, hk2⟩ := hc
  have hlen := hp.len
  have HC : Hid (∀ W, Ext w W → Calls Try.prog 16 #[u, .func (.func 17) #[] #[]] W fun e w' => e = .returned (.bool (c.parts.any manyPart)) ∧ Ext W w') :=
    fun W hW => containsFunc_strss 17 #[] manyPart c.parts u W (hp.up hW) Try.call17 (fun w' u x _ _ hS => few1_c u x w' hS)
  obtain ⟨a1, c1, rfl, hlx, hcx, hS3⟩ := hp
  clear hS3
  obtain ⟨t, ht⟩ : ∃ t, c.parts.any manyPart = t := ⟨_, rfl⟩
  rw [ht] at HC
  have HT := Lib.hid ht; clear ht
  by_cases d1 : c.parts.length ≤ 10
  · have d1' : decide ((c.parts.length : Int) ≤ 10) = true := by simp; omega
    go_enter Try.func6, Try.ntmps6
    go_wp2_with (go_at_call 16; refine (HC.out _ (Ext.alloc _ _)).mono ?_; rintro e w1 ⟨rfl, he⟩)
    go_ret
    exact ⟨ret_bool (by unfold fewB; rw [d1', Bool.true_and, HT.out]), (Ext.alloc _ _).tr he⟩
  · have d1' : decide ((c.parts.length : Int) ≤ 10) = false := by simp; omega
    go_enter Try.func6, Try.ntmps6
    go_wp2_with fail
    go_ret
    exact ⟨ret_bool (by unfold fewB; rw [d1', Bool.false_and]), Ext.alloc _ _⟩
end Go.Proofs.Ytoanjgpdepaciaa

namespace Go.Proofs.Ytoanjgpdepaciaa
open Go.RowKit Go.Cb
set_option linter.all false

set_option maxHeartbeats 1000000 in
theorem rSameVariants_c (l m : List Var) (v u : Value) (w : World) {M : Mut} (hl : Vars M w v l) (hm : Vars M w u m) :
    Calls Try.prog 11 #[v, u] w fun e w' => e = .returned (.bool (sameVars l m)) ∧ Ext w w' := by
  have hlen := hl.len
  have hmen := hm.len
  by_cases hne : l.length = m.length
  · rcases hl.cases with ⟨a1, c1, rfl, rfl, hc1⟩ | ⟨b1, off1, c1, rfl, hlc1, hc1, h01, hE1⟩
    · cases m with
      | cons y m => simp at hne
      | nil =>
        obtain ⟨a2, c2, rfl, hm1, hm2, hm3⟩ := hm
        clear hm3 hl
        go_enter Try.func11, Try.ntmps11
        go_wp2_with fail
        go_rounds 1
        go_ret
        exact ⟨rfl, Ext.rfl' _⟩
    · rcases hm.cases with ⟨a2, c2, rfl, rfl, hc2⟩ | ⟨b2, off2, c2, rfl, hlc2, hc2, h02, hE2⟩
      · rw [hne] at h01; simp at h01
      · have HE1 := Lib.hid hE1; clear hE1 hl
        have HE2 := Lib.hid hE2; clear hE2 hm
        have d0 : ((l.length : Int) != (m.length : Int)) = false := by simp; omega
        have HN := Lib.hid hne
        have hne1 : l.length ≤ m.length := by omega
        clear hne
        go_enter Try.func11, Try.ntmps11
        go_wp2_with fail
        go_loopw [5] (fun i wr => ∃ k : Nat, k ≤ l.length ∧ i = .int .i64 k ∧ Ext w wr ∧ Hid (sameVars l m = sameVars (l.drop k) (m.drop k))) (fun i _ => l.length - (intOf i).toNat)
        case atStart => exact ⟨0, by omega, rfl, Ext.rfl' _, rfl⟩
        case round =>
          obtain ⟨k, hk, rfl, hb, hpre⟩ := hrel
          by_cases hlt : k < l.length
          · obtain ⟨x, hx⟩ := get_some hlt
            obtain ⟨y, hy⟩ := get_some (show k < m.length by omega)
            obtain ⟨⟨u1, ⟨hu1, _⟩, hS1⟩, ⟨hn1, _⟩, hx1, hx2⟩ := HE1.out k x hx
            obtain ⟨⟨u2, ⟨hu2, _⟩, hS2⟩, ⟨hn2, _⟩, hy1, hy2⟩ := HE2.out k y hy
            have HD := Lib.hid (sameVars_drop hx hy)
            clear hx hy
            have f1 : ∀ z, (wr.plus z).cell? ⟨b1, off1 + k * 2, none⟩ = some u1 := fun z => plus_cell (hb.cell hu1) z
            have f2 : ∀ z, (wr.plus z).cell? ⟨b1, off1 + k * 2 + 1, none⟩ = some (.int .i64 x.count) := fun z => plus_cell (hb.cell hn1) z
            have f3 : ∀ z, (wr.plus z).cell? ⟨b2, off2 + k * 2, none⟩ = some u2 := fun z => plus_cell (hb.cell hu2) z
            have f4 : ∀ z, (wr.plus z).cell? ⟨b2, off2 + k * 2 + 1, none⟩ = some (.int .i64 y.count) := fun z => plus_cell (hb.cell hn2) z
            clear hu1 hn1 hu2 hn2
            obtain ⟨t, ht⟩ : ∃ t, decide (cmpStrs x.acts y.acts = 0) = t := ⟨_, rfl⟩
            have HC : Hid (∀ W, Ext w W → Calls Try.prog 33 #[u1, u2] W fun e w' => e = .returned (.bool t) ∧ Ext W w') := fun W hW => by rw [← ht]; exact rSame_c _ _ _ _ _ (hS1.up hW) (hS2.up hW)
            have HT := Lib.hid ht
            clear hS1 hS2 ht
            by_cases hc : x.count = y.count
            · have d1 : (x.count != y.count) = false := by simpa using hc
              have HCC := Lib.hid hc; clear hc
              cases t
              · go_wp2_with fail
                refine wp_region_grow (by kernel_rfl) (by kernel_rfl) ?_
                repeat (go_big_quiet_step (first | (go_at_call 33; exact plus_call (HC.out _ (hb.tr (plus_ext _ _))))))
                refine wpQuiet_nil ?_
                rintro wq ⟨z, rfl⟩
                go_wp2_with fail
                go_ret
                refine ⟨ret_bool ?_, hb.tr (plus_ext _ z)⟩
                rw [hpre.out, HD.out, sameVar, HT.out]
                simp
              · go_wp2_with fail
                refine wp_region_grow (by kernel_rfl) (by kernel_rfl) ?_
                repeat (go_big_quiet_step (first | (go_at_call 33; exact plus_call (HC.out _ (hb.tr (plus_ext _ _))))))
                refine wpQuiet_nil ?_
                rintro wq ⟨z, rfl⟩
                go_wp2_with fail
                go_roundw
                case rel =>
                  refine ⟨k + 1, by omega, by go_num, hb.tr (plus_ext _ z), ?_⟩
                  show sameVars l m = _
                  rw [hpre.out, HD.out, sameVar, HT.out, HCC.out]
                  simp
                case measure => simp [intOf]; omega
            · have d1 : (x.count != y.count) = true := by simpa using hc
              have HCC := Lib.hid hc; clear hc
              go_wp2_with fail
              refine wp_region_grow (by kernel_rfl) (by kernel_rfl) ?_
              repeat (go_big_quiet_step (fail))
              refine wpQuiet_nil ?_
              rintro wq ⟨z, rfl⟩
              go_wp2_with fail
              go_ret
              refine ⟨ret_bool ?_, hb.tr (plus_ext _ z)⟩
              rw [hpre.out, HD.out, sameVar, beq_eq_false_iff_ne.2 HCC.out]
              simp
          · go_wp2_with fail
            go_ret
            refine ⟨ret_bool ?_, hb⟩
            rw [hpre.out, List.drop_eq_nil_of_le (by omega : l.length ≤ k), List.drop_eq_nil_of_le (by have := HN.out; omega : m.length ≤ k)]
            rfl
  · have d0 : ((l.length : Int) != (m.length : Int)) = true := by simp; omega
    have HF : Hid (sameVars l m = false) := by
      show sameVars l m = false
      cases h : sameVars l m
      · rfl
      · exact absurd (sameVars_len h) hne
    obtain ⟨a1, c1, rfl, _, _, _⟩ := hl
    obtain ⟨a2, c2, rfl, _, _, _⟩ := hm
    clear hne
    go_enter Try.func11, Try.ntmps11
    go_wp2_with fail
    go_ret
    exact ⟨ret_bool HF.out.symm, Ext.rfl' _⟩

set_option maxHeartbeats 400000 in
theorem cutSplits1_c (l m : List Var) (v u : Value) (w : World) {M : Mut} (hl : Vars M w v l) (hm : Vars M w u m) :
    Calls Try.prog 10 #[v, u] w fun e w' => e = .returned (.bool (sameVars l m)) ∧ Ext w w' := by
  have HP := Lib.hid (rSameVariants_c l m v u w hl hm); clear hl hm
  go_enter Try.func10, Try.ntmps10
  go_wp2_with (go_at_call 11; refine HP.out.mono ?_; rintro e w1 ⟨rfl, he⟩)
  go_ret
  exact ⟨rfl, he⟩

set_option maxHeartbeats 1000000 in
theorem equalFunc_varss (g : FuncId) (r : List Var → List Var → Bool) (l m : List (List Var)) (v u : Value) (w : World) {M : Mut} (hl : Varss M w v l) (hm : Varss M w u m)
    (hg : ∀ args w, (callFunc g args).run Try.prog w = .ok (.enter g args) w)
    (hp : ∀ w' x y a b, Ext w w' → Vars M w' a x → Vars M w' b y → Calls Try.prog g #[a, b] w' fun e w'' => e = .returned (.bool (r x y)) ∧ Ext w' w'') :
    Calls Try.prog 9 #[v, u, .func (.func g) #[] #[]] w fun e w' => e = .returned (.bool (all2 r l m)) ∧ Ext w w' := by
  have HP := Lib.hid hp; clear hp
  have hlen := hl.len
  have hmen := hm.len
  by_cases hne : l.length = m.length
  · rcases hl.cases with ⟨a1, c1, rfl, rfl, hc1⟩ | ⟨b1, off1, c1, rfl, hlc1, hc1, h01, hE1⟩
    · cases m with
      | cons y m => simp at hne
      | nil =>
        obtain ⟨a2, c2, rfl, hm1, hm2, hm3⟩ := hm
        clear hm3 hl
        go_enter Try.func9, Try.ntmps9
        go_wp2_with fail
        go_rounds 1
        go_ret
        exact ⟨rfl, Ext.rfl' _⟩
    · rcases hm.cases with ⟨a2, c2, rfl, rfl, hc2⟩ | ⟨b2, off2, c2, rfl, hlc2, hc2, h02, hE2⟩
      · rw [hne] at h01; simp at h01
      · have HE1 := Lib.hid hE1; clear hE1 hl
        have HE2 := Lib.hid hE2; clear hE2 hm
        have d0 : ((l.length : Int) != (m.length : Int)) = false := by simp; omega
        have HN := Lib.hid hne
        have hne1 : l.length ≤ m.length := by omega
        clear hne
        go_enter Try.func9, Try.ntmps9
        go_wp2_with fail
        go_loopw [17] (fun i wr => ∃ k : Nat, k ≤ l.length ∧ i = .int .i64 k ∧ Ext w wr ∧ Hid (all2 r l m = all2 r (l.drop k) (m.drop k))) (fun i _ => l.length - (intOf i).toNat)
        case atStart => exact ⟨0, by omega, rfl, Ext.rfl' _, rfl⟩
        case round =>
          obtain ⟨k, hk, rfl, hb, hpre⟩ := hrel
          by_cases hlt : k < l.length
          · obtain ⟨x, hx⟩ := get_some hlt
            obtain ⟨y, hy⟩ := get_some (show k < m.length by omega)
            obtain ⟨u1, ⟨hu1, _⟩, hS1⟩ := HE1.out k x hx
            obtain ⟨u2, ⟨hu2, _⟩, hS2⟩ := HE2.out k y hy
            have HD : Hid (all2 r (l.drop k) (m.drop k) = (r x y && all2 r (l.drop (k + 1)) (m.drop (k + 1)))) := by
              show _ = _
              rw [drop_at hx, drop_at hy, all2]
            clear hx hy
            have g1 := hb.cell hu1
            have g2 := hb.cell hu2
            rw [Nat.mul_one] at g1 g2
            clear hu1 hu2
            have HC := Lib.hid (HP.out wr x y u1 u2 hb (hS1.up hb) (hS2.up hb))
            clear hS1 hS2
            cases ht : r x y
            · have HT := Lib.hid ht; clear ht
              go_wp2_with fail
              refine HC.out.mono ?_
              rintro e w1 ⟨rfl, he⟩
              rw [HT.out]
              go_wp2_with fail
              go_ret
              refine ⟨ret_bool ?_, hb.tr he⟩
              rw [hpre.out, HD.out, HT.out, Bool.false_and]
            · have HT := Lib.hid ht; clear ht
              go_wp2_with fail
              refine HC.out.mono ?_
              rintro e w1 ⟨rfl, he⟩
              rw [HT.out]
              go_wp2_with fail
              go_roundw
              case rel =>
                refine ⟨k + 1, by omega, by go_num, hb.tr he, ?_⟩
                show all2 r l m = _
                rw [hpre.out, HD.out, HT.out, Bool.true_and]
              case measure => simp [intOf]; omega
          · go_wp2_with fail
            go_ret
            refine ⟨ret_bool ?_, hb⟩
            rw [hpre.out, List.drop_eq_nil_of_le (by omega : l.length ≤ k), List.drop_eq_nil_of_le (by have := HN.out; omega : m.length ≤ k)]
            rfl
  · have d0 : ((l.length : Int) != (m.length : Int)) = true := by simp; omega
    have HF : Hid (all2 r l m = false) := by
      show all2 r l m = false
      cases h : all2 r l m
      · rfl
      · exact absurd (all2_len h) hne
    obtain ⟨a1, c1, rfl, _, _, _⟩ := hl
    obtain ⟨a2, c2, rfl, _, _, _⟩ := hm
    clear hne
    go_enter Try.func9, Try.ntmps9
    go_wp2_with fail
    go_ret
    exact ⟨ret_bool HF.out.symm, Ext.rfl' _⟩
end Go.Proofs.Ytoanjgpdepaciaa

namespace Go.Proofs.Ytoanjgpdepaciaa
open Go.RowKit Go.Cb
set_option linter.all false

theorem elemT_of {P : Program} {t e k bytes : Nat} {z : Value} (ht : P.underlying t = some (.slice e)) (h : (P.info? e).map (fun i => (i.zero, i.size, i.bytes)) = some (some z, k, bytes)) (hz : z.cells.size = k) (hk : 0 < k) : ElemT P t e k bytes := by
  obtain ⟨i, h1, h2, h3, h4⟩ := info_parts h
  exact ⟨ht, ⟨i, z, h1, h2, h3, h4, hz⟩, hk⟩
theorem tStrs : ElemT Try.prog 38 9 1 16 := elemT_of (z := .string ByteArray.empty) Try.underlying38 (by kernel_rfl) rfl (by decide)

set_option maxRecDepth 100000 in
set_option maxHeartbeats 1000000 in
theorem rFormed_c (c : Cut) (v : Value) (w : World) {M : Mut} (hM : ∀ b, M b → b < w.heap.size) (hc : CutR M w v c) (hsum : c.parts.flatten.length ≤ 100000) : Calls Try.prog 29 #[v] w fun e w' => e = .returned (.bool (formedB c)) ∧ Ext w w' := by
  obtain ⟨u, rfl, hp, hk1, hk2⟩ := hc
  have hlen := hp.len
  by_cases hk : 1 ≤ c.kind ∧ c.kind ≤ 4 ∧ 2 ≤ c.parts.length
  · obtain ⟨hk3, hk4, hp2⟩ := hk
    rcases hp.cases with ⟨a, c1, rfl, hnil, hc1⟩ | ⟨b, off, c1, rfl, hlc, hc1, h0, hE⟩
    · rw [hnil] at hp2; simp at hp2
    have HE := Lib.hid hE; clear hE hp
    have hF0 : Hid (formedB c = formedGo [] c.parts) := by
      show formedB c = _
      unfold formedB
      simp [hk3, hk4, hp2]
    have d1 : decide (c.kind < 1) = false := by simp; omega
    have d2 : decide (4 < c.kind) = false := by simp; omega
    have d3 : decide ((c.parts.length : Int) < 2) = false := by simp; omega
    go_enter Try.func29, Try.ntmps29
    go_wp2_with fail
    obtain ⟨w1, hw1⟩ : ∃ w1, w1 = w.alloc (.cells #[.int .i64 c.kind, .slice (some ⟨b, off, none⟩) c.parts.length c1] 25) := ⟨_, rfl⟩
    have q1 : w1.cell? ⟨w.heap.size, 1, none⟩ = some (.slice (some ⟨b, off, none⟩) c.parts.length c1) := by rw [hw1]; simp
    have hx1 : Ext w w1 := by rw [hw1]; exact Ext.alloc _ _
    have hs1 : w.heap.size < w1.heap.size := by rw [hw1]; simp
    rw [← hw1]
    have HQ1 := Lib.hid q1; clear q1 hw1
    have hM1 : ∀ b, M b → b < w1.heap.size := fun b hb => by have := hM b hb; omega
    have HM := Lib.hid hM1; clear hM hM1
    go_loopw [3, 4] (fun sn i wr => ∃ k : Nat, k ≤ c.parts.length ∧ i = .int .i64 k ∧ Ext w1 wr ∧ OwnL w1.heap.size 9 1 VStr M wr sn (c.parts.take k).flatten ∧ Hid (formedGo [] c.parts = formedGo (c.parts.take k).flatten (c.parts.drop k))) (fun _ i _ => c.parts.length - (intOf i).toNat)
    case atStart => exact ⟨0, by omega, rfl, Ext.rfl' _, OwnL.nil, rfl⟩
    case round =>
      obtain ⟨k, hk, rfl, hb, hown, hpre⟩ := hrel
      have q1 := hb.cell HQ1.out
      by_cases hlt : k < c.parts.length
      · obtain ⟨p, hx⟩ := get_some hlt
        obtain ⟨up, ⟨hu, _⟩, hS⟩ := HE.out k p hx
        have HX := Lib.hid hx; clear hx
        have gu := hb.cell (hx1.cell hu); clear hu
        rw [Nat.mul_one] at gu
        have HSW := Lib.hid hS
        have hS := hS.up (hx1.tr hb)
        have hpl := hS.len
        obtain ⟨ap, cp, rfl, hlp, hcp, hS3⟩ := id hS
        clear hS3
        have hfl := flat_take_le c.parts k
        have hfl2 := flat_take_le c.parts (k + 1)
        rw [flat_snoc HX.out, List.length_append] at hfl2
        have HD : Hid (formedGo (c.parts.take k).flatten (c.parts.drop k) = (partOk p && freshB (c.parts.take k).flatten p && formedGo (c.parts.take (k + 1)).flatten (c.parts.drop (k + 1)))) := by
          show _ = _
          rw [drop_at HX.out, formedGo, flat_snoc HX.out]
        have HN := Lib.hid (rNames_c p _ wr hS)
        have HA : Hid (∀ W, Ext wr W → Calls Try.prog 48 #[.slice ap p.length cp] W fun e w' => e = .returned (.bool (chainB strLt p)) ∧ Ext W w') := fun W hW => rAscends_c p _ W (hS.up hW)
        obtain ⟨t1, ht1⟩ : ∃ t, p.all isName = t := ⟨_, rfl⟩
        obtain ⟨t2, ht2⟩ : ∃ t, chainB strLt p = t := ⟨_, rfl⟩
        rw [ht1] at HN
        rw [ht2] at HA
        have HOK : Hid (partOk p = (!p.isEmpty && t1 && t2)) := by show partOk p = _; unfold partOk; rw [ht1, ht2]
        clear ht1 ht2
        have HS := Lib.hid hS; clear hS
        by_cases hp0 : p.length = 0
        · have d1 : ((p.length : Int) == 0) = true := beq_iff_eq.2 (by omega)
          have HP0 : Hid (partOk p = false) := by
            show partOk p = false
            rw [HOK.out, List.eq_nil_of_length_eq_zero hp0]; rfl
          clear hp0
          go_wp2_with fail
          go_ret
          refine ⟨ret_bool ?_, hx1.tr hb⟩
          rw [hF0.out, hpre.out, HD.out, HP0.out]; rfl
        have d1 : ((p.length : Int) == 0) = false := beq_eq_false_iff_ne.2 (by omega)
        cases t1
        · go_wp2_with (go_at_call 46; refine HN.out.mono ?_; rintro e w' ⟨rfl, rfl⟩)
          go_ret
          refine ⟨ret_bool ?_, hx1.tr hb⟩
          rw [hF0.out, hpre.out, HD.out, HOK.out]; simp
        cases t2
        · go_wp2_with (first | (go_at_call 46; refine HN.out.mono ?_; rintro e w' ⟨rfl, rfl⟩) | (go_at_call 48; refine (HA.out _ (Ext.rfl' _)).mono ?_; rintro e w' ⟨rfl, he⟩))
          go_ret
          refine ⟨ret_bool ?_, hx1.tr (hb.tr he)⟩
          rw [hF0.out, hpre.out, HD.out, HOK.out]; simp
        have HPT : Hid (partOk p = true) := by
          show partOk p = true
          rw [HOK.out]
          cases p with
          | nil => simp at d1
          | cons a p => rfl
        go_wp2_with (first | (go_at_call 46; refine HN.out.mono ?_; rintro e w' ⟨rfl, rfl⟩) | (go_at_call 48; refine (HA.out _ (Ext.rfl' _)).mono ?_; rintro e w2 ⟨rfl, he⟩))
        have hown2 := hown.up evStr he
        have hb2 := hb.tr he
        clear hown hb HS HN HA q1 gu he
        obtain ⟨flat, hflat⟩ : ∃ fl, fl = (c.parts.take k).flatten := ⟨_, rfl⟩
        rw [← hflat] at hown2 hfl hfl2
        have HFL := Lib.hid hflat; clear hflat
        have hp1 : 0 < p.length := by omega
        obtain ⟨bp, op, rfl, HEP⟩ : ∃ bp op, ap = some ⟨bp, op, none⟩ ∧ Hid (∀ i x, p[i]? = some x → EStr M w bp (op + i) x) := by
          rcases HSW.out.cases with ⟨a, c', _, h2, _⟩ | ⟨b', o', c', h1, _, _, _, h5⟩
          · rw [h2] at hp1; simp at hp1
          · cases h1
            refine ⟨b', o', rfl, fun i x hx => ?_⟩
            have := h5 i x hx
            rwa [Nat.mul_one] at this
        go_loopw [3, 6] (fun sn i wi => ∃ j : Nat, j ≤ p.length ∧ i = .int .i64 j ∧ Ext w1 wi ∧ OwnL w1.heap.size 9 1 VStr M wi sn (flat ++ p.take j) ∧ Hid (freshB flat p = freshB (flat ++ p.take j) (p.drop j))) (fun _ i _ => p.length - (intOf i).toNat)
        case atStart =>
          refine ⟨0, by omega, rfl, hb2, ?_, ?_⟩
          · simpa using hown2
          · show freshB flat p = _; simp
        case round =>
          obtain ⟨j, hj, rfl, hbi, howni, hprei⟩ := hrel
          by_cases hltj : j < p.length
          · obtain ⟨s, hsj⟩ := get_some hltj
            have HSJ := Lib.hid hsj; clear hsj
            obtain ⟨⟨hcs, _⟩, hss⟩ := HEP.out j s HSJ.out
            have gs := hbi.cell (hx1.cell hcs); clear hcs
            have HDF : Hid (freshB (flat ++ p.take j) (p.drop j) = (!hasStr (flat ++ p.take j) s && freshB (flat ++ p.take (j + 1)) (p.drop (j + 1)))) := by
              show _ = _
              rw [drop_at HSJ.out, freshB, take_snoc HSJ.out, List.append_assoc]
            have hlj : (flat ++ p.take j).length ≤ 100000 := by simp; omega
            have hrd := howni.rd evStr (by omega)
            have HIX := Lib.hid (rIndex_c _ s _ _ hrd)
            have hbd := idx_bd (fun x => strEq x s) (flat ++ p.take j)
            have hany := idx_any (fun x => strEq x s) (flat ++ p.take j)
            obtain ⟨q, hq⟩ : ∃ q, q = idx (fun x => strEq x s) (flat ++ p.take j) := ⟨_, rfl⟩
            rw [← hq] at HIX hbd hany
            clear hq hrd
            by_cases h0q : 0 ≤ q
            · have HA : Hid (hasStr (flat ++ p.take j) s = true) := by show hasStr _ s = true; unfold hasStr; rw [← hany]; simpa using h0q
              clear hany
              go_wp2_with (go_at_call 49; refine HIX.out.mono ?_; rintro e w' ⟨rfl, rfl⟩)
              go_ret
              refine ⟨ret_bool ?_, hx1.tr hbi⟩
              rw [hF0.out, hpre.out, HD.out, ← HFL.out, hprei.out, HDF.out, HA.out]
              simp
            · have HA : Hid (hasStr (flat ++ p.take j) s = false) := by show hasStr _ s = false; unfold hasStr; rw [← hany]; simpa using h0q
              clear hany
              obtain ⟨v', w', hrun, hown', hchg, _⟩ := append_L tStrs evStr (w := wr.alloc (.cells #[.string s] 9)) 38 (howni.up evStr (Ext.alloc _ _)) (SlR.lit1 evStr 9 (cs := [.string s]) ⟨rfl, hss⟩ (howni.not_new (fun hb => by have := HM.out _ hb; have := hbi.size; omega))) (by simp; omega) (by simp; omega) (by have := hbi.size; simp; omega) (fun hb => by have h1 := HM.out _ hb; have h2 := hbi.size; simp at h1; omega)
              have HOWN := Lib.hid hown'; clear hown'
              have HCHG := Lib.hid hchg; clear hchg
              have HRUN := Lib.hid hrun; clear hrun
              go_wp2_with (first | (go_at_call 49; refine HIX.out.mono ?_; rintro e w' ⟨rfl, rfl⟩) | (at_builtin; refine wpList_append_run rfl _ _ _ rfl HRUN.out ?_))
              go_roundw
              case rel =>
                refine ⟨j + 1, by omega, by go_num, (hbi.to_alloc _).own HCHG.out (fun b hb => (howni.lt b hb).1), ?_, ?_⟩
                · rw [take_snoc HSJ.out, ← List.append_assoc]; exact HOWN.out
                · show freshB flat p = _
                  rw [hprei.out, HDF.out, HA.out]; rfl
              case measure => simp [intOf]; omega
          · go_wp2_with fail
            go_roundw
            case rel =>
              refine ⟨k + 1, by omega, by go_num, hbi, ?_, ?_⟩
              · rw [flat_snoc HX.out, ← HFL.out]
                rw [List.take_of_length_le (by omega)] at howni
                exact howni
              · show formedGo [] c.parts = _
                rw [hpre.out, HD.out, HPT.out, ← HFL.out, hprei.out, List.drop_eq_nil_of_le (by omega : p.length ≤ j), freshB]
                rfl
            case measure => simp [intOf]; omega
      · go_wp2_with fail
        go_ret
        refine ⟨ret_bool ?_, hx1.tr hb⟩
        rw [hF0.out, hpre.out, List.drop_eq_nil_of_le (by omega : c.parts.length ≤ k), formedGo]
  · obtain ⟨a1, c1, rfl, hlp, hcp, hS3⟩ := hp
    clear hS3
    have hF : Hid (formedB c = false) := by
      show formedB c = false
      cases h : formedB c
      · rfl
      · exfalso
        apply hk
        unfold formedB at h
        simp at h
        omega
    by_cases d1 : c.kind < 1
    · have d1' : decide (c.kind < 1) = true := by simp; omega
      go_enter Try.func29, Try.ntmps29
      go_wp2_with fail
      go_ret
      exact ⟨ret_bool hF.out.symm, Ext.alloc _ _⟩
    · have d1' : decide (c.kind < 1) = false := by simp; omega
      by_cases d2 : 4 < c.kind
      · have d2' : decide (4 < c.kind) = true := by simp; omega
        go_enter Try.func29, Try.ntmps29
        go_wp2_with fail
        go_ret
        exact ⟨ret_bool hF.out.symm, Ext.alloc _ _⟩
      · have d2' : decide (4 < c.kind) = false := by simp; omega
        have d3' : decide ((c.parts.length : Int) < 2) = true := by simp; omega
        go_enter Try.func29, Try.ntmps29
        go_wp2_with fail
        go_ret
        exact ⟨ret_bool hF.out.symm, Ext.alloc _ _⟩
end Go.Proofs.Ytoanjgpdepaciaa
