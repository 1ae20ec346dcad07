/-
  Walks: names, comparisons of strings and words, the searches of package slices over strings.
  Walks: the searches of package slices over strings, comparisons of words.
-/
import Derived.Test.YtoanjgpdepaciaaGreatProg
import Derived.Test.YtoanjgpdepaciaaGreatPlain
namespace Go.Proofs.YtoanjgpdepaciaaGreat
open Go.RowKit Go.Cb

set_option maxHeartbeats 400000 in
theorem letter_c (c : Int) (w : World) : Calls Tryz.prog 133 #[.int .u8 c] w fun e w' => e = .returned (.bool (letterB c)) ∧ w = w' := by
  unfold letterB
  by_cases h1 : 65 ≤ c <;> by_cases h2 : c ≤ 90 <;> by_cases h3 : 97 ≤ c <;> by_cases h4 : c ≤ 122 <;> first | (exfalso; omega) | (
    go_enter Tryz.func133, Tryz.ntmps133
    go_wp2
    go_ret
    refine ⟨ret_bool ?_, rfl⟩
    simp [*])

set_option maxHeartbeats 400000 in
theorem part_c (c : Int) (w : World) : Calls Tryz.prog 134 #[.int .u8 c] w fun e w' => e = .returned (.bool (partB c)) ∧ w = w' := by
  unfold partB
  go_enter Tryz.func134, Tryz.ntmps134
  go_wp2_with (go_at_call 133; refine (letter_c _ _).mono ?_; rintro e w' ⟨rfl, rfl⟩)
  all_goals go_ret
  all_goals refine ⟨ret_bool ?_, rfl⟩
  all_goals simp_all
  have h48 : decide (48 ≤ c) = false := by simp; omega
  simp [h48]

theorem isName_get (s : ByteArray) (k : Nat) (h : k < s.size) : s.data.toList[k]? = some s[k] := by
  rw [List.getElem?_eq_getElem (by simpa using h)]; rfl

set_option maxHeartbeats 400000 in
theorem isName_c (s : ByteArray) (w : World) (hs : s.size ≤ 140737488355328) : Calls Tryz.prog 103 #[.string s] w fun e w' => e = .returned (.bool (isName s)) ∧ w = w' := by
  by_cases h1 : 1 ≤ s.size
  · by_cases h2 : s.size ≤ 40
    · have hg : s.data[0]?.getD 0 = s[0] := by
        rw [Array.getElem?_eq_getElem (show 0 < s.data.size from h1)]; rfl
      cases h3 : letterB (s[0].toNat)
      · have HG := Lib.hid hg; clear hg
        have H3 := Lib.hid h3; 
        go_enter Tryz.func103, Tryz.ntmps103
        go_wp2_with (go_at_call 133; refine (letter_c _ _).mono ?_; rintro e w' ⟨rfl, rfl⟩)
        go_ret
        refine ⟨ret_bool ?_, rfl⟩
        unfold isName; rw [HG.out, H3.out]; simp
      · have HG := Lib.hid hg; clear hg
        have H3 := Lib.hid h3
        go_enter Tryz.func103, Tryz.ntmps103
        go_wp2_with (go_at_call 133; refine (letter_c _ _).mono ?_; rintro e w' ⟨rfl, rfl⟩)
        go_loop [20] (fun i => ∃ k : Nat, k ≤ s.size ∧ i = .int .i64 k ∧ Hid (∀ j x, j < k → s.data.toList[j]? = some x → partB x.toNat = true)) (fun i => s.size - (intOf i).toNat)
        case atStart => exact ⟨0, by omega, rfl, fun j x hj => by omega⟩
        case round =>
          obtain ⟨k, hk, rfl, hall⟩ := hrel
          by_cases hlt : k < s.size
          · have hgk := Lib.hid (isName_get s k hlt)
            cases hp : partB (s[k].toNat)
            · have HP := Lib.hid hp
              go_wp2_with (go_at_call 134; refine (part_c _ _).mono ?_; rintro e w' ⟨rfl, rfl⟩)
              go_ret
              refine ⟨ret_bool ?_, rfl⟩
              symm
              unfold isName
              rw [Bool.and_eq_false_iff]; right
              rw [List.all_eq_false]
              exact ⟨s[k], List.mem_of_getElem? hgk.out, by rw [HP.out]; simp⟩
            · have HP := Lib.hid hp
              go_wp2_with (go_at_call 134; refine (part_c _ _).mono ?_; rintro e w' ⟨rfl, rfl⟩)
              go_round
              case rel =>
                refine ⟨k + 1, by omega, by go_num, fun j x hj hx => ?_⟩
                by_cases e : j = k
                · subst e; rw [hgk.out] at hx; cases hx; exact HP.out
                · exact hall.out j x (by omega) hx
              case measure => simp [intOf]; omega
          · go_wp2
            go_ret
            refine ⟨ret_bool ?_, rfl⟩
            symm
            unfold isName
            rw [HG.out, H3.out]
            simp only [h1, h2, decide_true, Bool.and_true, Bool.true_and]
            rw [List.all_eq_true]
            intro x hx
            obtain ⟨i, hi, rfl⟩ := List.getElem_of_mem hx
            exact hall.out i _ (by have : i < s.size := by simpa using hi
                                   omega) (List.getElem?_eq_getElem hi)
    · have h2' : 40 < s.size := by omega
      go_enter Tryz.func103, Tryz.ntmps103
      go_wp2
      go_ret
      refine ⟨ret_bool ?_, rfl⟩
      unfold isName; simp [h2]
  · have h2' : s.size < 1 := by omega
    go_enter Tryz.func103, Tryz.ntmps103
    go_wp2
    go_ret
    refine ⟨ret_bool ?_, rfl⟩
    unfold isName; simp [h1]
end Go.Proofs.YtoanjgpdepaciaaGreat

namespace Go.Proofs.YtoanjgpdepaciaaGreat
open Go.RowKit Go.Cb

set_option maxHeartbeats 400000 in
theorem indexFunc_strs (g : FuncId) (caps : Array Value) (p : ByteArray → Bool) (l : List ByteArray) (v : Value) (w : World) {M : Mut} (hl : Strs M w v l) (hg : ∀ args w, (callFunc g args).run Tryz.prog w = .ok (.enter g args) w)
    (hp : ∀ w' s, Ext w w' → s ∈ l → s.size ≤ 140737488355328 → Calls Tryz.prog g (#[.string s] ++ caps) w' fun e w'' => e = .returned (.bool (p s)) ∧ Ext w' w'') :
    Calls Tryz.prog 60 #[v, .func (.func g) #[] caps] w fun e w' => e = .returned (.int .i64 (idx p l)) ∧ Ext w w' := by
  have HP := Lib.hid hp; clear hp
  have hlen := hl.len
  rcases hl.cases with ⟨a, c, rfl, rfl, hc⟩ | ⟨b, off, c, rfl, hlc, hc, h0, hE⟩
  · go_enter Tryz.func60, Tryz.ntmps60
    go_wp2_with fail
    go_rounds 1
    go_ret
    exact ⟨rfl, Ext.rfl' _⟩
  · have HE := Lib.hid hE; clear hE
    clear hl
    go_enter Tryz.func60, Tryz.ntmps60
    go_wp2_with fail
    go_loopw [8] (fun i wr => ∃ k : Nat, k ≤ l.length ∧ i = .int .i64 k ∧ Ext w wr ∧ Hid (∀ j x, j < k → l[j]? = some x → p x = false)) (fun i _ => l.length - (intOf i).toNat)
    case atStart => exact ⟨0, by omega, rfl, Ext.rfl' _, fun j x hj => by omega⟩
    case round =>
      obtain ⟨k, hk, rfl, hb, hall⟩ := hrel
      by_cases hlt : k < l.length
      · obtain ⟨s, hs⟩ := get_some hlt
        have HS := Lib.hid hs; clear hs
        obtain ⟨⟨hc1, _⟩, hs2⟩ := HE.out k s HS.out
        have hc2 := hb.cell hc1
        clear hc1
        rw [Nat.mul_one] at hc2
        have hcall := fun w' (hw' : Ext w w') => HP.out w' s hw' (List.mem_of_getElem? HS.out) hs2
        have HCALL := Lib.hid hcall; clear hcall
        cases hps : p s
        · have HPS := Lib.hid hps; clear hps
          go_wp2_with fail
          refine (HCALL.out _ hb).mono ?_
          rintro e w1 ⟨rfl, he⟩
          rw [HPS.out]
          go_wp2_with fail
          go_roundw
          case rel => exact ⟨k + 1, by omega, by go_num, hb.tr he, fun j x hj hx => (by
            by_cases e : j = k
            · subst e; rw [HS.out] at hx; cases hx; exact HPS.out
            · exact hall.out j x (by omega) hx)⟩
          case measure => simp [intOf]; omega
        · have HPS := Lib.hid hps; clear hps
          go_wp2_with fail
          refine (HCALL.out _ hb).mono ?_
          rintro e w1 ⟨rfl, he⟩
          rw [HPS.out]
          go_wp2_with fail
          go_ret
          refine ⟨ret_int ?_, hb.tr he⟩
          rw [idx_here hall.out HS.out HPS.out]
      · go_wp2
        go_ret
        refine ⟨ret_int ?_, hb⟩
        rw [idx_none]
        exact fun j y hj hy => hall.out j y (by omega) hy

set_option maxHeartbeats 400000 in
theorem containsFunc_strs (g : FuncId) (caps : Array Value) (p : ByteArray → Bool) (l : List ByteArray) (v : Value) (w : World) {M : Mut} (hl : Strs M w v l) (hg : ∀ args w, (callFunc g args).run Tryz.prog w = .ok (.enter g args) w)
    (hp : ∀ w' s, Ext w w' → s ∈ l → s.size ≤ 140737488355328 → Calls Tryz.prog g (#[.string s] ++ caps) w' fun e w'' => e = .returned (.bool (p s)) ∧ Ext w' w'') :
    Calls Tryz.prog 17 #[v, .func (.func g) #[] caps] w fun e w' => e = .returned (.bool (l.any p)) ∧ Ext w w' := by
  have HP := Lib.hid (indexFunc_strs g caps p l v w hl hg hp); clear hp hg hl
  go_enter Tryz.func17, Tryz.ntmps17
  go_wp2_with (go_at_call 60; refine HP.out.mono ?_; rintro e w1 ⟨rfl, he⟩)
  go_ret
  exact ⟨ret_bool (idx_any p l), he⟩

set_option maxHeartbeats 400000 in
theorem names1_c (s : ByteArray) (w : World) (hs : s.size ≤ 140737488355328) : Calls Tryz.prog 116 #[.string s] w fun e w' => e = .returned (.bool (!isName s)) ∧ Ext w w' := by
  go_enter Tryz.func116, Tryz.ntmps116
  go_wp2_with (go_at_call 103; refine (isName_c _ _ hs).mono ?_; rintro e w' ⟨rfl, rfl⟩)
  go_ret
  exact ⟨rfl, Ext.rfl' _⟩

set_option maxHeartbeats 400000 in
theorem names_c (l : List ByteArray) (v : Value) (w : World) {M : Mut} (hl : Strs M w v l) : Calls Tryz.prog 85 #[v] w fun e w' => e = .returned (.bool (l.all isName)) ∧ Ext w w' := by
  have HP := Lib.hid (containsFunc_strs 116 #[] (fun s => !isName s) l v w hl Tryz.call116 (fun w' s _ _ hs => names1_c s w' hs))
  clear hl
  go_enter Tryz.func85, Tryz.ntmps85
  go_wp2_with (go_at_call 17; refine HP.out.mono ?_; rintro e w1 ⟨rfl, he⟩)
  go_ret
  refine ⟨ret_bool ?_, he⟩
  simp [List.all_eq_not_any_not]

set_option maxHeartbeats 400000 in
theorem isNaN_str (s : ByteArray) (w : World) : Calls Tryz.prog 182 #[.string s] w fun e w' => e = .returned (.bool false) ∧ w = w' := by
  go_enter Tryz.func182, Tryz.ntmps182
  go_wp2
  go_ret
  exact ⟨by simp, rfl⟩

set_option maxHeartbeats 400000 in
theorem cmp_str (a b : ByteArray) (w : World) : Calls Tryz.prog 157 #[.string a, .string b] w fun e w' => e = .returned (.int .i64 (cmpStr a b)) ∧ w = w' := by
  cases h1 : Op.bytesLess a.toList b.toList <;> cases h2 : (a.toList == b.toList)
  all_goals
    have H1 := Lib.hid h1
    have H2 := Lib.hid h2
    go_enter Tryz.func157, Tryz.ntmps157
    go_wp2_with (go_at_call 182; refine (isNaN_str _ _).mono ?_; rintro e w' ⟨rfl, rfl⟩)
    go_ret
    refine ⟨ret_int ?_, rfl⟩
    simp [cmpStr, strLt, strEq, H1.out, H2.out]

set_option maxHeartbeats 1000000 in
theorem compare_strs (l m : List ByteArray) (v u : Value) (w : World) {M : Mut} (hl : Strs M w v l) (hm : Strs M w u m) :
    Calls Tryz.prog 117 #[v, u] w fun e w' => e = .returned (.int .i64 (cmpStrs l m)) ∧ w = w' := by
  have hlen := hl.len
  have hmen := hm.len
  rcases hl.cases with ⟨a1, c1, rfl, rfl, hc1⟩ | ⟨b1, off1, c1, rfl, hlc1, hc1, h01, hE1⟩
  · obtain ⟨a2, c2, rfl, hm1, hm2, hm3⟩ := hm
    clear hm3 hl
    cases m with
    | nil =>
      go_enter Tryz.func117, Tryz.ntmps117
      go_wp2_with fail
      go_rounds 1
      go_ret
      exact ⟨rfl, rfl⟩
    | cons y m =>
      simp only [List.length_cons] at *
      go_enter Tryz.func117, Tryz.ntmps117
      go_wp2_with fail
      go_rounds 1
      go_ret
      exact ⟨rfl, rfl⟩
  · have HE1 := Lib.hid hE1; clear hE1 hl
    rcases hm.cases with ⟨a2, c2, rfl, rfl, hc2⟩ | ⟨b2, off2, c2, rfl, hlc2, hc2, h02, hE2⟩
    · clear hm
      obtain ⟨x, hx⟩ := get_some h01
      have hcell : w.cell? ⟨b1, off1, none⟩ = some (.string x) := by have := (HE1.out 0 x hx).1.1; simpa using this
      have HX := Lib.hid hx; clear hx
      go_enter Tryz.func117, Tryz.ntmps117
      go_wp2_with fail
      go_rounds 1
      go_ret
      refine ⟨ret_int ?_, rfl⟩
      cases l with
      | nil => simp at h01
      | cons y l => simp [cmpStrs]
    · have HE2 := Lib.hid hE2; clear hE2 hm
      go_enter Tryz.func117, Tryz.ntmps117
      go_wp2_with fail
      go_loop [11] (fun i => ∃ k : Nat, k ≤ l.length ∧ k ≤ m.length ∧ i = .int .i64 k ∧ Hid (cmpStrs l m = cmpStrs (l.drop k) (m.drop k))) (fun i => l.length - (intOf i).toNat)
      case atStart => exact ⟨0, by omega, by omega, rfl, rfl⟩
      case round =>
        obtain ⟨k, hk, hk2, rfl, hpre⟩ := hrel
        by_cases hlt : k < l.length
        · obtain ⟨x, hx⟩ := get_some hlt
          have hcx := (HE1.out k x hx).1.1
          rw [Nat.mul_one] at hcx
          have HX := Lib.hid hx; clear hx
          by_cases hlt2 : k < m.length
          · obtain ⟨y, hy⟩ := get_some hlt2
            have hcy := (HE2.out k y hy).1.1
            rw [Nat.mul_one] at hcy
            have HY := Lib.hid hy; clear hy
            by_cases h0 : cmpStr x y = 0
            · have H0 := Lib.hid h0; clear h0
              go_wp2_with (go_at_call 157; refine (cmp_str _ _ _).mono ?_; rintro e w' ⟨rfl, rfl⟩; rw [H0.out])
              go_round
              case rel =>
                refine ⟨k + 1, by omega, by omega, by go_num, ?_⟩
                show cmpStrs l m = _
                rw [hpre.out, drop_at HX.out, drop_at HY.out, cmpStrs, if_pos H0.out]
              case measure => simp [intOf]; omega
            · have hb : (cmpStr x y != 0) = true := by simpa using h0
              have H0 := Lib.hid h0; clear h0
              go_wp2_with (go_at_call 157; refine (cmp_str _ _ _).mono ?_; rintro e w' ⟨rfl, rfl⟩)
              go_ret
              refine ⟨ret_int ?_, rfl⟩
              rw [hpre.out, drop_at HX.out, drop_at HY.out, cmpStrs, if_neg H0.out]
          · go_wp2_with fail
            go_ret
            refine ⟨ret_int ?_, rfl⟩
            rw [hpre.out, drop_at HX.out, List.drop_eq_nil_of_le (by omega : m.length ≤ k), cmpStrs]
        · by_cases hlt2 : k < m.length
          · obtain ⟨y, hy⟩ := get_some hlt2
            have HY := Lib.hid hy; clear hy
            go_wp2_with fail
            go_ret
            refine ⟨ret_int ?_, rfl⟩
            rw [hpre.out, drop_at HY.out, List.drop_eq_nil_of_le (by omega : l.length ≤ k), cmpStrs]
          · go_wp2_with fail
            go_ret
            refine ⟨ret_int ?_, rfl⟩
            rw [hpre.out, List.drop_eq_nil_of_le (by omega : m.length ≤ k), List.drop_eq_nil_of_le (by omega : l.length ≤ k), cmpStrs]

set_option maxHeartbeats 400000 in
theorem nameCompare_c (l m : List ByteArray) (v u : Value) (w : World) {M : Mut} (hl : Strs M w v l) (hm : Strs M w u m) :
    Calls Tryz.prog 86 #[v, u] w fun e w' => e = .returned (.int .i64 (cmpStrs l m)) ∧ w = w' := by
  have HP := Lib.hid (compare_strs l m v u w hl hm); clear hl hm
  go_enter Tryz.func86, Tryz.ntmps86
  go_wp2_with (go_at_call 117; refine HP.out.mono ?_; rintro e w' ⟨rfl, rfl⟩)
  go_ret
  exact ⟨rfl, rfl⟩
end Go.Proofs.YtoanjgpdepaciaaGreat
