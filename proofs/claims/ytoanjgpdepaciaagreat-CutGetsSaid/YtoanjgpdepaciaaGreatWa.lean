/-
  Walks: names, comparisons of strings and words, the searches of package slices over strings.
  Walks: the searches of package slices over strings, comparisons of words.
-/
import Derived.Test.YtoanjgpdepaciaaGreatProg
import Derived.Test.YtoanjgpdepaciaaGreatPlain
namespace Go.Proofs.YtoanjgpdepaciaaGreat
open Go.RowKit Go.Cb

end Go.Proofs.YtoanjgpdepaciaaGreat

namespace Go.Proofs.YtoanjgpdepaciaaGreat
open Go.RowKit Go.Cb

set_option maxHeartbeats 400000 in
theorem isNaN_str (s : ByteArray) (w : World) : Calls Tryz.prog 182 #[.string s] w fun e w' => e = .returned (.bool false) ∧ w = w' := by
  go_enter Tryz.func182, Tryz.ntmps182
  go_wp2
  go_ret
  exact ⟨by simp, rfl⟩

set_option maxHeartbeats 400000 in
theorem cmp_str (a b : ByteArray) (w : World) : Calls Tryz.prog 157 #[.string a, .string b] w fun e w' => e = .returned (.int .i64 (cmpStr a b)) ∧ w = w' := by
  cases h1 : Op.bytesLess a.toList b.toList <;> cases h2 : (a.toList == b.toList)
  all_goals
    have H1 := Lib.hid h1
    have H2 := Lib.hid h2
    go_enter Tryz.func157, Tryz.ntmps157
    go_wp2_with (go_at_call 182; refine (isNaN_str _ _).mono ?_; rintro e w' ⟨rfl, rfl⟩)
    go_ret
    refine ⟨ret_int ?_, rfl⟩
    simp [cmpStr, strLt, strEq, H1.out, H2.out]

set_option maxHeartbeats 1000000 in
theorem compare_strs (l m : List ByteArray) (v u : Value) (w : World) {M : Mut} (hl : Strs M w v l) (hm : Strs M w u m) :
    Calls Tryz.prog 117 #[v, u] w fun e w' => e = .returned (.int .i64 (cmpStrs l m)) ∧ w = w' := by
  have hlen := hl.len
  have hmen := hm.len
  rcases hl.cases with ⟨a1, c1, rfl, rfl, hc1⟩ | ⟨b1, off1, c1, rfl, hlc1, hc1, h01, hE1⟩
  · obtain ⟨a2, c2, rfl, hm1, hm2, hm3⟩ := hm
    clear hm3 hl
    cases m with
    | nil =>
      go_enter Tryz.func117, Tryz.ntmps117
      go_wp2_with fail
      go_rounds 1
      go_ret
      exact ⟨rfl, rfl⟩
    | cons y m =>
      simp only [List.length_cons] at *
      go_enter Tryz.func117, Tryz.ntmps117
      go_wp2_with fail
      go_rounds 1
      go_ret
      exact ⟨rfl, rfl⟩
  · have HE1 := Lib.hid hE1; clear hE1 hl
    rcases hm.cases with ⟨a2, c2, rfl, rfl, hc2⟩ | ⟨b2, off2, c2, rfl, hlc2, hc2, h02, hE2⟩
    · clear hm
      obtain ⟨x, hx⟩ := get_some h01
      have hcell : w.cell? ⟨b1, off1, none⟩ = some (.string x) := by have := (HE1.out 0 x hx).1.1; simpa using this
      have HX := Lib.hid hx; clear hx
      go_enter Tryz.func117, Tryz.ntmps117
      go_wp2_with fail
      go_rounds 1
      go_ret
      refine ⟨ret_int ?_, rfl⟩
      cases l with
      | nil => simp at h01
      | cons y l => simp [cmpStrs]
    · have HE2 := Lib.hid hE2; clear hE2 hm
      go_enter Tryz.func117, Tryz.ntmps117
      go_wp2_with fail
      go_loop [11] (fun i => ∃ k : Nat, k ≤ l.length ∧ k ≤ m.length ∧ i = .int .i64 k ∧ Hid (cmpStrs l m = cmpStrs (l.drop k) (m.drop k))) (fun i => l.length - (intOf i).toNat)
      case atStart => exact ⟨0, by omega, by omega, rfl, rfl⟩
      case round =>
        obtain ⟨k, hk, hk2, rfl, hpre⟩ := hrel
        by_cases hlt : k < l.length
        · obtain ⟨x, hx⟩ := get_some hlt
          have hcx := (HE1.out k x hx).1.1
          rw [Nat.mul_one] at hcx
          have HX := Lib.hid hx; clear hx
          by_cases hlt2 : k < m.length
          · obtain ⟨y, hy⟩ := get_some hlt2
            have hcy := (HE2.out k y hy).1.1
            rw [Nat.mul_one] at hcy
            have HY := Lib.hid hy; clear hy
            by_cases h0 : cmpStr x y = 0
            · have H0 := Lib.hid h0; clear h0
              go_wp2_with (go_at_call 157; refine (cmp_str _ _ _).mono ?_; rintro e w' ⟨rfl, rfl⟩; rw [H0.out])
              go_round
              case rel =>
                refine ⟨k + 1, by omega, by omega, by go_num, ?_⟩
                show cmpStrs l m = _
                rw [hpre.out, drop_at HX.out, drop_at HY.out, cmpStrs, if_pos H0.out]
              case measure => simp [intOf]; omega
            · have hb : (cmpStr x y != 0) = true := by simpa using h0
              have H0 := Lib.hid h0; clear h0
              go_wp2_with (go_at_call 157; refine (cmp_str _ _ _).mono ?_; rintro e w' ⟨rfl, rfl⟩)
              go_ret
              refine ⟨ret_int ?_, rfl⟩
              rw [hpre.out, drop_at HX.out, drop_at HY.out, cmpStrs, if_neg H0.out]
          · go_wp2_with fail
            go_ret
            refine ⟨ret_int ?_, rfl⟩
            rw [hpre.out, drop_at HX.out, List.drop_eq_nil_of_le (by omega : m.length ≤ k), cmpStrs]
        · by_cases hlt2 : k < m.length
          · obtain ⟨y, hy⟩ := get_some hlt2
            have HY := Lib.hid hy; clear hy
            go_wp2_with fail
            go_ret
            refine ⟨ret_int ?_, rfl⟩
            rw [hpre.out, drop_at HY.out, List.drop_eq_nil_of_le (by omega : l.length ≤ k), cmpStrs]
          · go_wp2_with fail
            go_ret
            refine ⟨ret_int ?_, rfl⟩
            rw [hpre.out, List.drop_eq_nil_of_le (by omega : m.length ≤ k), List.drop_eq_nil_of_le (by omega : l.length ≤ k), cmpStrs]

set_option maxHeartbeats 400000 in
theorem nameCompare_c (l m : List ByteArray) (v u : Value) (w : World) {M : Mut} (hl : Strs M w v l) (hm : Strs M w u m) :
    Calls Tryz.prog 86 #[v, u] w fun e w' => e = .returned (.int .i64 (cmpStrs l m)) ∧ w = w' := by
  have HP := Lib.hid (compare_strs l m v u w hl hm); clear hl hm
  go_enter Tryz.func86, Tryz.ntmps86
  go_wp2_with (go_at_call 117; refine HP.out.mono ?_; rintro e w' ⟨rfl, rfl⟩)
  go_ret
  exact ⟨rfl, rfl⟩
end Go.Proofs.YtoanjgpdepaciaaGreat
