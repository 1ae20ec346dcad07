/-
  Walks: variants added to a list in order (casebookref12.Add).
  Walks: the pieces of a word for a loop (casebookref36.pieces).
  Walks: a word is split by a cut (casebookref36.split).
  Walks: variants are split by a cut (casebookref36.Split).
-/
import Derived.Deep.DeepCutAuto
import Derived.Test.YtoanjgpdepaciaaWalkOne
import Derived.Test.YtoanjgpdepaciaaPlain
import Derived.Test.YtoanjgpdepaciaaBase
namespace Go.Proofs.Ytoanjgpdepaciaa
open Go.RowKit Go.Cb
set_option linter.all false

theorem tVars : ElemT Try.prog 22 40 2 32 := elemT_of (z := .agg #[.slice none 0 0, .int .i64 0]) Try.underlying22 (by kernel_rfl) rfl (by decide)
/-- What a call that makes a datum returns. -/
def Ret {α : Type} (R : Rd α) (M : Mut) (w : World) (x : α) (e : Ending) (w' : World) : Prop := ∃ r, e = .returned r ∧ R M w' r x ∧ Ext w w'

set_option maxRecDepth 100000 in
set_option maxHeartbeats 2000000 in
theorem rAdd_c (l : List Var) (ws : List ByteArray) (n : Int) (v u : Value) (w : World) {M : Mut} (hM : ∀ b, M b → b < w.heap.size) (hl : Vars M w v l) (hw : Strs M w u ws)
    (hcnt : ∀ x ∈ l, 0 ≤ x.count ∧ x.count ≤ 1125899906842624) (hn0 : 0 ≤ n) (hn1 : n ≤ 1125899906842624) (hlen : l.length ≤ 100000) :
    Calls Try.prog 32 #[v, u, .int .i64 n] w (Ret Vars M w (addVar l ws n)) := by
  obtain ⟨a, c, rfl, hlc, hcm, hlm, han, hE⟩ := id hl
  obtain ⟨au, cu, rfl, _⟩ := id hw
  have HL := Lib.hid hl
  have HE := Lib.hid hE
  have HW := Lib.hid hw
  have HCN := Lib.hid hcnt
  have HM := Lib.hid hM
  have hnb : ∀ n, w.heap.size ≤ n → ¬ M n := fun n hn hm => by have := HM.out n hm; omega
  have HNB := Lib.hid hnb
  clear hl hw hcnt hM hE han hnb
  go_enter Try.func32, Try.ntmps32
  go_wp2_with fail
  go_loopw [7] (fun i wr => ∃ k : Nat, k ≤ l.length ∧ i = .int .i64 k ∧ Ext w wr ∧ Hid (addVar l ws n = l.take k ++ addVar (l.drop k) ws n)) (fun i _ => l.length - (intOf i).toNat)
  case atStart => exact ⟨0, by omega, rfl, Ext.rfl' _, (by show addVar l ws n = _; simp)⟩
  case round =>
    obtain ⟨k, hk, rfl, hb, hpre⟩ := hrel
    by_cases hlt : k < l.length
    · obtain ⟨x, hx⟩ := get_some hlt
      obtain ⟨b, off, rfl, ⟨ux, ⟨hu, _⟩, hS⟩, ⟨hn, _⟩, hx1, hx2⟩ := HE.out k x hx
      obtain ⟨hcx0, hcx1⟩ := HCN.out x (List.mem_of_getElem? hx)
      have HX := Lib.hid hx; clear hx
      have gu := hb.cell hu
      have gn := hb.cell hn
      have d1 : decide ((k : Int) < (l.length : Int)) = true := by simp; omega
      obtain ⟨q, hq⟩ : ∃ q, cmpStrs x.acts ws = q := ⟨_, rfl⟩
      have HC : Hid (∀ W, Ext w W → Calls Try.prog 47 #[ux, .slice au ws.length cu] W fun e w' => e = .returned (.int .i64 q) ∧ Ext W w') := fun W hW => by rw [← hq]; exact rCompare_c _ _ _ _ _ (hS.up hW) (HW.out.up hW)
      have HQ := Lib.hid hq; clear hq hS
      by_cases hq0 : q < 0
      · have d2 : decide (q < 0) = true := by simpa using hq0
        go_wp2_with (go_at_call 47; refine (HC.out _ hb).mono ?_; rintro e w' ⟨rfl, he⟩)
        go_roundw
        case rel => exact ⟨k + 1, by omega, by go_num, hb.tr he, addVar_pass hpre.out HX.out (by rw [HQ.out]; exact hq0)⟩
        case measure => simp [intOf]; omega
      have d2 : decide (q < 0) = false := by simpa using hq0
      by_cases hq1 : q = 0
      · have d3 : (q == 0) = true := beq_iff_eq.2 hq1
        have HQ0 := Lib.hid hq1; clear hq1
        go_upto_region 4 with (go_at_call 47; refine (HC.out _ hb).mono ?_; rintro e wc ⟨rfl, he⟩)
        have hbc := hb.tr he
        have hsz := hbc.size
        have ho0 : OwnL w.heap.size 40 2 VVar M (wc.alloc (.cells #[] 40)) (.slice (some ⟨wc.heap.size, 0, none⟩) 0 0) [] := OwnL.lit0 (HNB.out _ hsz) hsz
        obtain ⟨vs, hsl, hrs⟩ := slice_to tVars (Vars.up (Vars.mono.re HL.out ho0.news) (hbc.to_alloc (.cells #[] 40))) k hk
        obtain ⟨v1, w1, hr1, ho1, hc1, _⟩ := append_L tVars evVar 22 ho0 hrs (by simp; omega) (by simp; omega) (by simp; omega) (HNB.out _ (by simp; omega))
        have hb1 : Ext w w1 := (hbc.to_alloc _).own hc1 (fun b hb' => (ho0.lt b hb').1)
        have g1 := hb1.cell hu
        have HR1 := Lib.hid hr1
        have HSL := Lib.hid hsl
        have HO1 := Lib.hid ho1
        clear hrs hr1 hsl ho0 ho1 hc1 gu gn he hbc hsz
        go_upto_region 6 with (first | (go_at_call 47; refine (HC.out _ hb1).mono ?_; rintro e wd ⟨rfl, he⟩) | ((with_reducible refine wpList_sl 28 vs ?_ ?_); exact HSL.out) | ((with_reducible refine wpList_ap 29 v1 w1 ?_ ?_); exact HR1.out))
        have hbd := hb1.tr he
        have ho1 := HO1.out.up evVar he
        obtain ⟨v2, w2, hr2, ho2, hc2, _⟩ := append_L tVars evVar 22 (ho1.up evVar (Ext.alloc _ (.cells #[.slice au ws.length cu, .int .i64 (x.count + n)] 40))) (SlR.lit1 evVar 40 (cs := [.slice au ws.length cu, .int .i64 (x.count + n)]) (y := ⟨ws, x.count + n⟩) ⟨_, rfl, Strs.up (Strs.mono.re HW.out ho1.news) hbd, by simp; omega, by simp; omega⟩ (ho1.not_new (HNB.out _ hbd.size))) (by simp; omega) (by simp; omega) (by have := hbd.size; simp; omega) (HNB.out _ (by have := hbd.size; simp; omega))
        have hb2 : Ext w w2 := (hbd.to_alloc _).own hc2 (fun b hb' => (ho1.lt b hb').1)
        obtain ⟨vt, hst, hrt⟩ := slice_from tVars (Vars.up (Vars.mono.re HL.out ho2.news) hb2) (k + 1) (by omega)
        obtain ⟨v3, w3, hr3, ho3, hc3, _⟩ := append_L tVars evVar 22 ho2 hrt (by simp; omega) (by simp; omega) hb2.size (HNB.out _ hb2.size)
        have hb3 : Ext w w3 := hb2.own hc3 (fun b hb' => (ho2.lt b hb').1)
        have gn := hbd.cell hn
        have HR2 := Lib.hid hr2
        have HR3 := Lib.hid hr3
        have HST := Lib.hid hst
        have HFIN : Hid (Ret Vars M w (addVar l ws n) (.returned v3) w3) := ⟨v3, rfl, by
          rw [addVar_hit hpre.out HX.out (by rw [HQ.out]; exact HQ0.out)]
          have := ho3.rd evVar (by simp; omega)
          simpa using this, hb3⟩
        clear hr2 hr3 hst hrt ho1 ho2 ho3 hc2 hc3 hb1 hb2 hb3 hbd
        go_wp2_with (first | ((with_reducible refine wpList_ap 55 v2 w2 ?_ ?_); exact HR2.out) | ((with_reducible refine wpList_sl 67 vt ?_ ?_); exact HST.out) | ((with_reducible refine wpList_ap 68 v3 w3 ?_ ?_); exact HR3.out))
        go_ret
        exact HFIN.out
      · have d3 : (q == 0) = false := beq_eq_false_iff_ne.2 hq1
        have HQ0 : Hid (0 < q) := by show 0 < q; omega
        clear hq1
        go_upto_region 4 with (go_at_call 47; refine (HC.out _ hb).mono ?_; rintro e wc ⟨rfl, he⟩)
        have hbc := hb.tr he
        have hsz := hbc.size
        have ho0 : OwnL w.heap.size 40 2 VVar M (wc.alloc (.cells #[] 40)) (.slice (some ⟨wc.heap.size, 0, none⟩) 0 0) [] := OwnL.lit0 (HNB.out _ hsz) hsz
        obtain ⟨vs, hsl, hrs⟩ := slice_to tVars (Vars.up (Vars.mono.re HL.out ho0.news) (hbc.to_alloc (.cells #[] 40))) k hk
        obtain ⟨v1, w1, hr1, ho1, hc1, _⟩ := append_L tVars evVar 22 ho0 hrs (by simp; omega) (by simp; omega) (by simp; omega) (HNB.out _ (by simp; omega))
        have hb1 : Ext w w1 := (hbc.to_alloc _).own hc1 (fun b hb' => (ho0.lt b hb').1)
        have g1 := hb1.cell hu
        have HR1 := Lib.hid hr1
        have HSL := Lib.hid hsl
        have HO1 := Lib.hid ho1
        clear hrs hr1 hsl ho0 ho1 hc1 gu gn he hbc hsz
        go_upto_region 8 with (first | (go_at_call 47; refine (HC.out _ hb1).mono ?_; rintro e wd ⟨rfl, he⟩) | ((with_reducible refine wpList_sl 28 vs ?_ ?_); exact HSL.out) | ((with_reducible refine wpList_ap 29 v1 w1 ?_ ?_); exact HR1.out))
        have hbd := hb1.tr he
        have ho1 := HO1.out.up evVar he
        obtain ⟨v2, w2, hr2, ho2, hc2, _⟩ := append_L tVars evVar 22 (ho1.up evVar (Ext.alloc _ (.cells #[.slice au ws.length cu, .int .i64 (n)] 40))) (SlR.lit1 evVar 40 (cs := [.slice au ws.length cu, .int .i64 (n)]) (y := ⟨ws, n⟩) ⟨_, rfl, Strs.up (Strs.mono.re HW.out ho1.news) hbd, by simp; omega, by simp; omega⟩ (ho1.not_new (HNB.out _ hbd.size))) (by simp; omega) (by simp; omega) (by have := hbd.size; simp; omega) (HNB.out _ (by have := hbd.size; simp; omega))
        have hb2 : Ext w w2 := (hbd.to_alloc _).own hc2 (fun b hb' => (ho1.lt b hb').1)
        obtain ⟨vt, hst, hrt⟩ := slice_from tVars (Vars.up (Vars.mono.re HL.out ho2.news) hb2) (k) (by omega)
        obtain ⟨v3, w3, hr3, ho3, hc3, _⟩ := append_L tVars evVar 22 ho2 hrt (by simp; omega) (by simp; omega) hb2.size (HNB.out _ hb2.size)
        have hb3 : Ext w w3 := hb2.own hc3 (fun b hb' => (ho2.lt b hb').1)
        have gn := hbd.cell hn
        have HR2 := Lib.hid hr2
        have HR3 := Lib.hid hr3
        have HST := Lib.hid hst
        have HFIN : Hid (Ret Vars M w (addVar l ws n) (.returned v3) w3) := ⟨v3, rfl, by
          rw [addVar_new hpre.out HX.out (by rw [HQ.out]; exact HQ0.out)]
          have := ho3.rd evVar (by simp; omega)
          simpa using this, hb3⟩
        clear hr2 hr3 hst hrt ho1 ho2 ho3 hc2 hc3 hb1 hb2 hb3 hbd
        go_wp2_with (first | ((with_reducible refine wpList_ap 63 v2 w2 ?_ ?_); exact HR2.out) | ((with_reducible refine wpList_sl 67 vt ?_ ?_); exact HST.out) | ((with_reducible refine wpList_ap 68 v3 w3 ?_ ?_); exact HR3.out))
        go_ret
        exact HFIN.out
    · have d1 : decide ((k : Int) < (l.length : Int)) = false := by simp; omega
      have hsz := hb.size
      have ho0 : OwnL w.heap.size 40 2 VVar M (wr.alloc (.cells #[] 40)) (.slice (some ⟨wr.heap.size, 0, none⟩) 0 0) [] := OwnL.lit0 (HNB.out _ hsz) hsz
      obtain ⟨vs, hsl, hrs⟩ := slice_to tVars (Vars.up (Vars.mono.re HL.out ho0.news) (hb.to_alloc (.cells #[] 40))) k hk
      obtain ⟨v1, w1, hr1, ho1, hc1, _⟩ := append_L tVars evVar 22 ho0 hrs (by simp; omega) (by simp; omega) (by simp; omega) (HNB.out _ (by simp; omega))
      have hb1 : Ext w w1 := (hb.to_alloc _).own hc1 (fun b hb' => (ho0.lt b hb').1)
      clear hrs
      obtain ⟨v2, w2, hr2, ho2, hc2, _⟩ := append_L tVars evVar 22 (ho1.up evVar (Ext.alloc _ (.cells #[.slice au ws.length cu, .int .i64 n] 40))) (SlR.lit1 evVar 40 (cs := [.slice au ws.length cu, .int .i64 n]) (y := ⟨ws, n⟩) ⟨_, rfl, Strs.up (Strs.mono.re HW.out ho1.news) hb1, by simp; omega, by simp; omega⟩ (ho1.not_new (HNB.out _ hb1.size))) (by simp; omega) (by simp; omega) (by have := hb1.size; simp; omega) (HNB.out _ (by have := hb1.size; simp; omega))
      have hb2 : Ext w w2 := (hb1.to_alloc _).own hc2 (fun b hb' => (ho1.lt b hb').1)
      obtain ⟨vt, hst, hrt⟩ := slice_from tVars (Vars.up (Vars.mono.re HL.out ho2.news) hb2) k hk
      obtain ⟨v3, w3, hr3, ho3, hc3, _⟩ := append_L tVars evVar 22 ho2 hrt (by simp; omega) (by simp; omega) hb2.size (HNB.out _ hb2.size)
      have hb3 : Ext w w3 := hb2.own hc3 (fun b hb' => (ho2.lt b hb').1)
      have HR1 := Lib.hid hr1
      have HR2 := Lib.hid hr2
      have HR3 := Lib.hid hr3
      have HSL := Lib.hid hsl
      have HST := Lib.hid hst
      have HFIN : Hid (Ret Vars M w (addVar l ws n) (.returned v3) w3) := ⟨v3, rfl, by
        rw [addVar_end hpre.out (by omega)]
        have := ho3.rd evVar (by simp; omega)
        simpa using this, hb3⟩
      clear hr1 hr2 hr3 hsl hst hrt ho0 ho1 ho2 ho3 hc1 hc2 hc3 hb1 hb2 hb3
      go_wp2_with (first | ((with_reducible refine wpList_sl 28 vs ?_ ?_); exact HSL.out) | ((with_reducible refine wpList_ap 29 v1 w1 ?_ ?_); exact HR1.out) | ((with_reducible refine wpList_ap 63 v2 w2 ?_ ?_); exact HR2.out) | ((with_reducible refine wpList_sl 67 vt ?_ ?_); exact HST.out) | ((with_reducible refine wpList_ap 68 v3 w3 ?_ ?_); exact HR3.out))
      go_ret
      exact HFIN.out
end Go.Proofs.Ytoanjgpdepaciaa

namespace Go.Proofs.Ytoanjgpdepaciaa
open Go.RowKit Go.Cb
set_option linter.all false

theorem tRPieces : ElemT Try.prog 63 68 2 32 := elemT_of (z := .agg #[.int .i64 0, .slice none 0 0]) Try.underlying63 (by kernel_rfl) rfl (by decide)

/-- What pieces and a truth read as. -/
def RetPieces (M : Mut) (w : World) (x : Option (List Piece)) (e : Ending) (w' : World) : Prop := ∃ r, e = .returned (.tuple #[r, .bool x.isSome]) ∧ Ext w w' ∧ ∀ ps, x = some ps → Pieces M w' r ps
/-- The pieces so far. -/
def PcState (w1 wr : World) (out : Value) (ps : List Piece) (k : Nat) : Prop :=
  PcOwn w1.heap.size 68 9 wr out ps ∧ (k = 0 ↔ ps = []) ∧ ps.length ≤ k ∧ ∀ p ∈ ps, p.word.length ≤ k
/-- The pieces before the name is laid to the last. -/
def PcBefore (w1 wr : World) (out : Value) (k : Nat) (step : Option (List Piece)) (s : ByteArray) : Prop :=
  ∃ ps q g cap, out = .slice (some ⟨g, 0, none⟩) ps.length cap ∧ PcOwn w1.heap.size 68 9 wr out ps ∧ 0 < ps.length ∧ ps.length ≤ k + 1 ∧ cap ≤ 9223372036854775807 ∧ ps.length ≤ cap ∧
    ps[ps.length - 1]? = some q ∧ (∀ p ∈ ps, p.word.length ≤ k) ∧ Ext w1 wr ∧ g < wr.heap.size ∧ w1.heap.size ≤ g ∧ step = some (ps.set (ps.length - 1) ⟨q.part, q.word ++ [s]⟩)

set_option maxRecDepth 100000 in
set_option maxHeartbeats 2000000 in
theorem rPieces_c (ws : List ByteArray) (c : Cut) (v u : Value) (w : World) {M : Mut} (hM : ∀ b, M b → b < w.heap.size) (hw : Strs M w v ws) (hc : CutR M w u c) (hlen : ws.length ≤ 1000) :
    Calls Try.prog 50 #[v, u] w (RetPieces M w (piecesOf c.parts ws)) := by
  obtain ⟨up, rfl, hp, hk1, hk2⟩ := id hc
  obtain ⟨ap, cp, rfl, hpl, hpc, _⟩ := id hp
  have HC := Lib.hid hc
  have HW := Lib.hid hw
  have HM := Lib.hid hM
  clear hc hp hM
  rcases hw.cases with ⟨a, c1, rfl, hnil, hc1⟩ | ⟨b, off, c1, rfl, hlc, hc1, h0, hE⟩
  · subst hnil
    have hres : Hid (Pieces M ((w.alloc (.cells #[.int .i64 c.kind, .slice ap c.parts.length cp] 25)).alloc (.cells #[.int .i64 0, .slice none 0 0] 68)) (.slice (some ⟨w.heap.size + 1, 0, none⟩) 1 1) [⟨0, []⟩]) := by
      refine ⟨_, 1, rfl, by simp, by decide, by simp, (by intro h; cases h), fun i x hx => ⟨w.heap.size + 1, 0, rfl, ?_⟩⟩
      have hi : i = 0 := by have := (List.getElem?_eq_some_iff.1 hx).1; simp at this; omega
      subst hi
      simp at hx
      subst hx
      have hnm : ¬ M (w.heap.size + 1) := fun hm => by have := HM.out _ hm; omega
      exact ⟨⟨by simp, hnm⟩, .slice none 0 0, ⟨by simp, hnm⟩, SlR.nil⟩
    clear hw
    go_enter Try.func50, Try.ntmps50
    go_wp2_with fail
    go_rounds 1
    go_ret2
    refine ⟨.slice (some ⟨w.heap.size + 1, 0, none⟩) 1 1, ?_, (Ext.alloc _ _).to_alloc _, fun ps h => ?_⟩
    · rfl
    · simp [piecesOf] at h
      rw [← h]
      exact hres.out
  have HE := Lib.hid hE; clear hE hw
  go_enter Try.func50, Try.ntmps50
  go_wp2_with fail
  obtain ⟨w1, hw1⟩ : ∃ w1, w1 = w.alloc (.cells #[.int .i64 c.kind, .slice ap c.parts.length cp] 25) := ⟨_, rfl⟩
  have q0 : w1.cell? ⟨w.heap.size, 0, none⟩ = some (.int .i64 c.kind) := by rw [hw1]; simp
  have q1 : w1.cell? ⟨w.heap.size, 1, none⟩ = some (.slice ap c.parts.length cp) := by rw [hw1]; simp
  have hx1 : Ext w w1 := by rw [hw1]; exact Ext.alloc _ _
  have hs1 : w.heap.size < w1.heap.size := by rw [hw1]; simp
  rw [← hw1]
  have HQ0 := Lib.hid q0
  have HQ1 := Lib.hid q1
  clear q0 q1 hw1
  go_loopw [6, 7] (fun out i wr => ∃ (k : Nat) (ps : List Piece), k ≤ ws.length ∧ i = .int .i64 k ∧ Ext w1 wr ∧ PcState w1 wr out ps k ∧ Hid (piecesGo c.parts [] ws = piecesGo c.parts ps (ws.drop k))) (fun _ i _ => ws.length - (intOf i).toNat)
  case atStart => exact ⟨0, [], by omega, rfl, Ext.rfl' _, ⟨PcOwn.nil, by simp, by simp, by simp⟩, rfl⟩
  case round =>
    obtain ⟨k, ps, hk, rfl, hb, hst, hpre⟩ := hrel
    by_cases hlt : k < ws.length
    · obtain ⟨s, hs⟩ := get_some hlt
      have HS := Lib.hid hs; clear hs
      obtain ⟨⟨hcs, _⟩, hss⟩ := HE.out k s HS.out
      rw [Nat.mul_one] at hcs
      have hxw := hx1.tr hb
      have gs := hxw.cell hcs
      have q0 := hb.cell HQ0.out
      have q1 := hb.cell HQ1.out
      have f0 : ∀ z, (wr.plus z).cell? ⟨w.heap.size, 0, none⟩ = some (.int .i64 c.kind) := fun z => plus_cell q0 z
      have f1 : ∀ z, (wr.plus z).cell? ⟨w.heap.size, 1, none⟩ = some (.slice ap c.parts.length cp) := fun z => plus_cell q1 z
      have f2 : ∀ z, (wr.plus z).cell? ⟨b, off + k, none⟩ = some (.string s) := fun z => plus_cell gs z
      obtain ⟨p, hp⟩ : ∃ p, partOf c.parts s = p := ⟨_, rfl⟩
      have HPC : Hid (∀ W, Ext w W → Calls Try.prog 30 #[.agg #[.int .i64 c.kind, .slice ap c.parts.length cp], .string s] W fun e w' => e = .returned (.int .i64 p) ∧ Ext W w') := fun W hW => by rw [← hp]; exact rPart_c c s _ W (HC.out.up hW)
      have hbd := idx_bd (fun x => hasStr x s) c.parts
      rw [show idx (fun x => hasStr x s) c.parts = p from hp] at hbd
      have HP := Lib.hid hp; clear hp
      go_wp2_with fail
      refine wp_region_grow (by kernel_rfl) (by kernel_rfl) ?_
      repeat (go_big_quiet_step (first | (go_at_call 30; exact plus_call (HPC.out _ (hxw.tr (plus_ext _ _))))))
      refine wpQuiet_nil ?_
      rintro wq ⟨z, rfl⟩
      obtain ⟨W, hW⟩ : ∃ W, W = wr.plus z := ⟨_, rfl⟩
      have hxz : Ext wr W := by rw [hW]; exact plus_ext _ z
      rw [← hW]
      clear hW f0 f1 f2
      have hbW := hb.tr hxz
      obtain ⟨hpo, hk0, hpl, hpw⟩ := hst
      have hpo := hpo.up hxz
      clear gs q0 q1
      by_cases hk0' : k = 0
      · obtain rfl := hk0.1 hk0'
        have d1 : ((k : Int) == 0) = true := beq_iff_eq.2 (by omega)
        have d2 : decide ((0 : Int) < (k : Int)) = false := by simp; omega
        have hk00 : k < 1 := by omega
        obtain ⟨v2, w2, hr2, hpo2, hc2⟩ := PcOwn.append tRPieces p 63 hpo (by simp) (by simp) hbW.size
        have hbf : PcBefore w1 w2 v2 k (pieceStep c.parts [] s) s := by
          obtain ⟨g, cap, hv2, h1, h2, h3, h4⟩ := hpo2.form (by simp)
          refine ⟨[] ++ [⟨p, []⟩], ⟨p, []⟩, g, cap, hv2, hpo2, by simp, by simp, h2, h1, rfl, by simp, (hbW.to_alloc _).own hc2 (fun b' hb' => ?_), h4, h3, ?_⟩
          · obtain ⟨cells, h1', _⟩ := hpo
            exact (h1'.row.lt b' hb').1
          · rw [← HP.out]; exact step_nil
        have HR2 := Lib.hid hr2; clear hr2 hpo2 hc2 hk0'
        have HBF := Lib.hid hbf; clear hbf
        go_upto_region 10 with ((with_reducible refine wpList_ap 55 v2 w2 ?_ ?_); exact HR2.out)
        have hbf := HBF.out
        obtain ⟨WC, hWC⟩ : ∃ W', W' = w2 := ⟨_, rfl⟩
        rw [← hWC] at hbf ⊢
        clear HBF HR2 hpo hxz hWC
        -- from here: hbf : PcBefore w1 WC out k step s
        obtain ⟨ps', q, g, cap, rfl, hpo', hps0, hpsk, hcap1, hcap2, hq, hpw', hbx, hgs, hgb, hstep⟩ := hbf
        obtain ⟨n, hn⟩ : ∃ n, n = ps'.length := ⟨_, rfl⟩
        have HSTEP := Lib.hid hstep; clear hstep
        obtain ⟨u, hu1, hu2, huo, hug, hupd⟩ := hpo'.word hq
        obtain ⟨au, cu, rfl, hcu1, hcu2⟩ := huo.form
        have hqw : q.word.length ≤ k := hpw' q (List.mem_of_getElem? hq)
        have HQQ := Lib.hid hq
        have HPW := Lib.hid hpw'
        obtain ⟨u', w5, hr5, ho5, hc5, hb5⟩ := append_L tStrs evStr 38 (huo.up evStr ((Ext.drew _).to_alloc (.cells #[.string s] 9))) (SlR.lit1 evStr 9 (cs := [.string s]) ⟨rfl, hss⟩ ((huo.up evStr (Ext.drew _)).not_new (fun h => h))) (by simp; omega) (by simp; omega) (by have := hbx.size; simp; omega) (fun h => h)
        have HUPD := Lib.hid (hupd u' w5 (q.word ++ [s]) ho5 (Ext.chg_tr ((Ext.drew _).to_alloc _) hc5) (by
          rcases hb5 with h | h
          · exact .inl h
          · exact .inr ⟨_, h, by simp⟩))
        have hx5 : Ext w1 w5 := (hbx.tr ((Ext.drew _).to_alloc _)).own hc5 (fun b hb => (huo.lt b hb).1)
        have HBLK : Hid (w5.heap[g]? = WC.heap[g]?) := by
          show _ = _
          rw [hc5.block g (by simp; omega) hug]
          exact Below.block ((Ext.drew WC).to_alloc (.cells #[.string s] 9)) g hgs
        have hc5g : w5.cell? ⟨g, (ps'.length - 1) * 2 + 1, none⟩ = some (.slice au q.word.length cu) := by
          rw [World.cell?_of_block (w := WC) (a := ⟨g, (ps'.length - 1) * 2 + 1, none⟩) HBLK.out]; exact hu1
        have hf5g : w5.frozen? ⟨g, (ps'.length - 1) * 2 + 1, none⟩ = false := by
          rw [World.frozen?_of_block (w := WC) (a := ⟨g, (ps'.length - 1) * 2 + 1, none⟩) HBLK.out]; exact hu2
        have gs : WC.cell? ⟨b, off + k, none⟩ = some (.string s) := (hx1.tr hbx).cell hcs
        obtain ⟨a5, c5, hu5, _, _⟩ := ho5.form
        rw [show (q.word ++ [s]).length = q.word.length + 1 by simp] at hu5
        rw [hu5] at hr5 HUPD
        have HR5 := Lib.hid hr5
        have HX5 := Lib.hid hx5
        clear hr5 ho5 hc5 hb5 huo hupd hu5 hpo' hpw' hq hn hx5 hug
        go_upto_region 11 with fail
        refine wp_region_cls 11 (fun W' => W'.cell? ⟨g, (ps'.length - 1) * 2 + 1, none⟩ = some (.slice au q.word.length cu) ∧ W'.cell? ⟨b, off + k, none⟩ = some (.string s)) (by kernel_rfl) (by kernel_rfl) ⟨hu1, gs⟩ ?_
        intro hne
        have y1 : ∀ y : Cls (fun W' => W'.cell? ⟨g, (ps'.length - 1) * 2 + 1, none⟩ = some (.slice au q.word.length cu) ∧ W'.cell? ⟨b, off + k, none⟩ = some (.string s)), y.wd.cell? ⟨g, (ps'.length - 1) * 2 + 1, none⟩ = some (.slice au q.word.length cu) := fun y => y.ok.1
        have y2 : ∀ y : Cls (fun W' => W'.cell? ⟨g, (ps'.length - 1) * 2 + 1, none⟩ = some (.slice au q.word.length cu) ∧ W'.cell? ⟨b, off + k, none⟩ = some (.string s)), y.wd.cell? ⟨b, off + k, none⟩ = some (.string s) := fun y => y.ok.2
        simp only [List.take_succ_cons, List.take_zero, List.drop_succ_cons, List.drop_zero]
        repeat (go_big_quiet_step (fail))
        refine wpQuiet_nil ?_
        clear y1 y2 hne
        refine wpTail_k ?_
        intro K hK
        go_wp2_with fail
        refine hK _ _ ⟨(Ext.alloc _ _).cell hu1, (Ext.alloc _ _).cell gs⟩ ?_
        clear hK K
        refine wpTail_k ?_
        intro K hK
        go_wp2_with ((with_reducible refine wpList_ap 71 (.slice a5 (q.word.length + 1) c5) w5 ?_ ?_); exact HR5.out)
        refine hK _ _ ⟨hc5g, (hx1.tr HX5.out).cell hcs⟩ ?_
        clear hK K
        refine wpTail_k ?_
        intro K hK
        go_wp2_with fail
        refine hK _ _ ⟨hc5g, (hx1.tr HX5.out).cell hcs⟩ ?_
        clear hK K
        refine wpTail_k ?_
        intro K hK
        go_wp2_with fail
        refine hK _ _ ⟨hc5g, (hx1.tr HX5.out).cell hcs⟩ ?_
        clear hK K
        refine wpTail_z ?_
        intro K hK
        go_wp2_with fail
        refine hK _ _ ?_
        clear hK K
        go_wp2_with fail
        go_roundw
        case rel =>
          refine ⟨k + 1, _, by omega, by go_num, HX5.out.own (Chg.setCell _ _ _) (fun b' hb' => by cases hb'; exact hgb), ?_, piecesGo_step hpre.out HS.out HSTEP.out⟩
          refine ⟨HUPD.out, ?_, ?_, ?_⟩
          · simp; intro h; rw [h] at hps0; simp at hps0
          · simp; omega
          · intro p' hp'
            rcases List.mem_or_eq_of_mem_set hp' with h | h
            · have := HPW.out p' h; omega
            · rw [h]; simp; omega
        case measure => simp [intOf]; omega
      · have hps : 0 < ps.length := by
          rcases Nat.eq_zero_or_pos ps.length with h | h
          · exact absurd (hk0.2 (List.eq_nil_of_length_eq_zero h)) hk0'
          · exact h
        have d1 : ((k : Int) == 0) = false := beq_eq_false_iff_ne.2 (by omega)
        have d2 : decide ((0 : Int) < (k : Int)) = true := by simp; omega
        have hk00 : 0 < k := by omega
        obtain ⟨q1, hq1⟩ := get_some (show ps.length - 1 < ps.length by omega)
        obtain ⟨g1, cap1, rfl, hcp1, hcp2, hg1, hg2⟩ := hpo.form hps
        have gq := hpo.part hq1
        by_cases hqp : q1.part = p
        · have d3 : (q1.part != p) = false := by simpa using hqp
          have hbf : PcBefore w1 W (.slice (some ⟨g1, 0, none⟩) ps.length cap1) k (pieceStep c.parts ps s) s :=
            ⟨ps, q1, g1, cap1, rfl, hpo, hps, by omega, hcp2, hcp1, hq1, hpw, hbW, hg2, hg1, step_same hq1 (by rw [HP.out]; exact hqp)⟩
          have HBF := Lib.hid hbf; clear hbf hk0' hqp hpo hq1
          go_upto_region 10 with fail
          have hbf := HBF.out
          obtain ⟨WC, hWC⟩ : ∃ W', W' = W := ⟨_, rfl⟩
          rw [← hWC] at hbf ⊢
          obtain ⟨out, hout⟩ : ∃ o : Value, o = .slice (some ⟨g1, 0, none⟩) ps.length cap1 := ⟨_, rfl⟩
          rw [← hout] at hbf ⊢
          clear HBF hxz hWC hout gq
          -- from here: hbf : PcBefore w1 WC out k step s
          obtain ⟨ps', q, g, cap, rfl, hpo', hps0, hpsk, hcap1, hcap2, hq, hpw', hbx, hgs, hgb, hstep⟩ := hbf
          obtain ⟨n, hn⟩ : ∃ n, n = ps'.length := ⟨_, rfl⟩
          have HSTEP := Lib.hid hstep; clear hstep
          obtain ⟨u, hu1, hu2, huo, hug, hupd⟩ := hpo'.word hq
          obtain ⟨au, cu, rfl, hcu1, hcu2⟩ := huo.form
          have hqw : q.word.length ≤ k := hpw' q (List.mem_of_getElem? hq)
          have HQQ := Lib.hid hq
          have HPW := Lib.hid hpw'
          obtain ⟨u', w5, hr5, ho5, hc5, hb5⟩ := append_L tStrs evStr 38 (huo.up evStr ((Ext.drew _).to_alloc (.cells #[.string s] 9))) (SlR.lit1 evStr 9 (cs := [.string s]) ⟨rfl, hss⟩ ((huo.up evStr (Ext.drew _)).not_new (fun h => h))) (by simp; omega) (by simp; omega) (by have := hbx.size; simp; omega) (fun h => h)
          have HUPD := Lib.hid (hupd u' w5 (q.word ++ [s]) ho5 (Ext.chg_tr ((Ext.drew _).to_alloc _) hc5) (by
            rcases hb5 with h | h
            · exact .inl h
            · exact .inr ⟨_, h, by simp⟩))
          have hx5 : Ext w1 w5 := (hbx.tr ((Ext.drew _).to_alloc _)).own hc5 (fun b hb => (huo.lt b hb).1)
          have HBLK : Hid (w5.heap[g]? = WC.heap[g]?) := by
            show _ = _
            rw [hc5.block g (by simp; omega) hug]
            exact Below.block ((Ext.drew WC).to_alloc (.cells #[.string s] 9)) g hgs
          have hc5g : w5.cell? ⟨g, (ps'.length - 1) * 2 + 1, none⟩ = some (.slice au q.word.length cu) := by
            rw [World.cell?_of_block (w := WC) (a := ⟨g, (ps'.length - 1) * 2 + 1, none⟩) HBLK.out]; exact hu1
          have hf5g : w5.frozen? ⟨g, (ps'.length - 1) * 2 + 1, none⟩ = false := by
            rw [World.frozen?_of_block (w := WC) (a := ⟨g, (ps'.length - 1) * 2 + 1, none⟩) HBLK.out]; exact hu2
          have gs : WC.cell? ⟨b, off + k, none⟩ = some (.string s) := (hx1.tr hbx).cell hcs
          obtain ⟨a5, c5, hu5, _, _⟩ := ho5.form
          rw [show (q.word ++ [s]).length = q.word.length + 1 by simp] at hu5
          rw [hu5] at hr5 HUPD
          have HR5 := Lib.hid hr5
          have HX5 := Lib.hid hx5
          clear hr5 ho5 hc5 hb5 huo hupd hu5 hpo' hpw' hq hn hx5 hug
          go_upto_region 11 with fail
          refine wp_region_cls 11 (fun W' => W'.cell? ⟨g, (ps'.length - 1) * 2 + 1, none⟩ = some (.slice au q.word.length cu) ∧ W'.cell? ⟨b, off + k, none⟩ = some (.string s)) (by kernel_rfl) (by kernel_rfl) ⟨hu1, gs⟩ ?_
          intro hne
          have y1 : ∀ y : Cls (fun W' => W'.cell? ⟨g, (ps'.length - 1) * 2 + 1, none⟩ = some (.slice au q.word.length cu) ∧ W'.cell? ⟨b, off + k, none⟩ = some (.string s)), y.wd.cell? ⟨g, (ps'.length - 1) * 2 + 1, none⟩ = some (.slice au q.word.length cu) := fun y => y.ok.1
          have y2 : ∀ y : Cls (fun W' => W'.cell? ⟨g, (ps'.length - 1) * 2 + 1, none⟩ = some (.slice au q.word.length cu) ∧ W'.cell? ⟨b, off + k, none⟩ = some (.string s)), y.wd.cell? ⟨b, off + k, none⟩ = some (.string s) := fun y => y.ok.2
          simp only [List.take_succ_cons, List.take_zero, List.drop_succ_cons, List.drop_zero]
          repeat (go_big_quiet_step (fail))
          refine wpQuiet_nil ?_
          clear y1 y2 hne
          refine wpTail_k ?_
          intro K hK
          go_wp2_with fail
          refine hK _ _ ⟨(Ext.alloc _ _).cell hu1, (Ext.alloc _ _).cell gs⟩ ?_
          clear hK K
          refine wpTail_k ?_
          intro K hK
          go_wp2_with ((with_reducible refine wpList_ap 71 (.slice a5 (q.word.length + 1) c5) w5 ?_ ?_); exact HR5.out)
          refine hK _ _ ⟨hc5g, (hx1.tr HX5.out).cell hcs⟩ ?_
          clear hK K
          refine wpTail_k ?_
          intro K hK
          go_wp2_with fail
          refine hK _ _ ⟨hc5g, (hx1.tr HX5.out).cell hcs⟩ ?_
          clear hK K
          refine wpTail_k ?_
          intro K hK
          go_wp2_with fail
          refine hK _ _ ⟨hc5g, (hx1.tr HX5.out).cell hcs⟩ ?_
          clear hK K
          refine wpTail_z ?_
          intro K hK
          go_wp2_with fail
          refine hK _ _ ?_
          clear hK K
          go_wp2_with fail
          go_roundw
          case rel =>
            refine ⟨k + 1, _, by omega, by go_num, HX5.out.own (Chg.setCell _ _ _) (fun b' hb' => by cases hb'; exact hgb), ?_, piecesGo_step hpre.out HS.out HSTEP.out⟩
            refine ⟨HUPD.out, ?_, ?_, ?_⟩
            · simp; intro h; rw [h] at hps0; simp at hps0
            · simp; omega
            · intro p' hp'
              rcases List.mem_or_eq_of_mem_set hp' with h | h
              · have := HPW.out p' h; omega
              · rw [h]; simp; omega
          case measure => simp [intOf]; omega
        · have d3 : (q1.part != p) = true := by simpa using hqp
          by_cases hbad : p ≠ 0 ∧ q1.part ≠ 0
          · have d4 : (p != 0) = true := by simpa using hbad.1
            have d5 : (q1.part != 0) = true := by simpa using hbad.2
            have HF : Hid (piecesOf c.parts ws = none) := by
              show piecesOf c.parts ws = none
              unfold piecesOf
              rw [if_neg (by intro h; rw [h] at h0; simp at h0), piecesGo_stop hpre.out HS.out (step_bad hq1 (by rw [HP.out]; exact hqp) (by rw [HP.out]; exact hbad.1) hbad.2)]
            clear hbad hqp
            go_wp2_with fail
            go_ret2
            exact ⟨_, by rw [HF.out]; rfl, hx1.tr hbW, fun ps h => by rw [HF.out] at h; cases h⟩
          · obtain ⟨v2, w2, hr2, hpo2, hc2⟩ := PcOwn.append tRPieces p 63 hpo (by omega) (by omega) hbW.size
            have hbf : PcBefore w1 w2 v2 k (pieceStep c.parts ps s) s := by
              obtain ⟨g, cap, hv2, h1, h2, h3, h4⟩ := hpo2.form (by simp)
              refine ⟨ps ++ [⟨p, []⟩], ⟨p, []⟩, g, cap, hv2, hpo2, by simp, by simp; omega, h2, h1, by simp, ?_, (hbW.to_alloc _).own hc2 (fun b' hb' => ?_), h4, h3, ?_⟩
              · intro p' hp'
                rcases List.mem_append.1 hp' with h | h
                · exact hpw p' h
                · simp at h; rw [h]; simp
              · obtain ⟨cells, h1', _⟩ := hpo
                exact (h1'.row.lt b' hb').1
              · rw [step_new hq1 (by rw [HP.out]; exact hqp) (by rw [HP.out]; exact hbad), HP.out]
                simp
            have HR2 := Lib.hid hr2; clear hr2 hpo2 hc2 hk0'
            have HBF := Lib.hid hbf; clear hbf
            by_cases hp0 : p = 0
            · have d4 : (p != 0) = false := by simpa using hp0
              clear hbad hqp hp0 hpo hq1
              go_upto_region 10 with ((with_reducible refine wpList_ap 55 v2 w2 ?_ ?_); exact HR2.out)
              have hbf := HBF.out
              obtain ⟨WC, hWC⟩ : ∃ W', W' = w2 := ⟨_, rfl⟩
              rw [← hWC] at hbf ⊢
              clear HBF HR2 hxz hWC gq
              -- from here: hbf : PcBefore w1 WC out k step s
              obtain ⟨ps', q, g, cap, rfl, hpo', hps0, hpsk, hcap1, hcap2, hq, hpw', hbx, hgs, hgb, hstep⟩ := hbf
              obtain ⟨n, hn⟩ : ∃ n, n = ps'.length := ⟨_, rfl⟩
              have HSTEP := Lib.hid hstep; clear hstep
              obtain ⟨u, hu1, hu2, huo, hug, hupd⟩ := hpo'.word hq
              obtain ⟨au, cu, rfl, hcu1, hcu2⟩ := huo.form
              have hqw : q.word.length ≤ k := hpw' q (List.mem_of_getElem? hq)
              have HQQ := Lib.hid hq
              have HPW := Lib.hid hpw'
              obtain ⟨u', w5, hr5, ho5, hc5, hb5⟩ := append_L tStrs evStr 38 (huo.up evStr ((Ext.drew _).to_alloc (.cells #[.string s] 9))) (SlR.lit1 evStr 9 (cs := [.string s]) ⟨rfl, hss⟩ ((huo.up evStr (Ext.drew _)).not_new (fun h => h))) (by simp; omega) (by simp; omega) (by have := hbx.size; simp; omega) (fun h => h)
              have HUPD := Lib.hid (hupd u' w5 (q.word ++ [s]) ho5 (Ext.chg_tr ((Ext.drew _).to_alloc _) hc5) (by
                rcases hb5 with h | h
                · exact .inl h
                · exact .inr ⟨_, h, by simp⟩))
              have hx5 : Ext w1 w5 := (hbx.tr ((Ext.drew _).to_alloc _)).own hc5 (fun b hb => (huo.lt b hb).1)
              have HBLK : Hid (w5.heap[g]? = WC.heap[g]?) := by
                show _ = _
                rw [hc5.block g (by simp; omega) hug]
                exact Below.block ((Ext.drew WC).to_alloc (.cells #[.string s] 9)) g hgs
              have hc5g : w5.cell? ⟨g, (ps'.length - 1) * 2 + 1, none⟩ = some (.slice au q.word.length cu) := by
                rw [World.cell?_of_block (w := WC) (a := ⟨g, (ps'.length - 1) * 2 + 1, none⟩) HBLK.out]; exact hu1
              have hf5g : w5.frozen? ⟨g, (ps'.length - 1) * 2 + 1, none⟩ = false := by
                rw [World.frozen?_of_block (w := WC) (a := ⟨g, (ps'.length - 1) * 2 + 1, none⟩) HBLK.out]; exact hu2
              have gs : WC.cell? ⟨b, off + k, none⟩ = some (.string s) := (hx1.tr hbx).cell hcs
              obtain ⟨a5, c5, hu5, _, _⟩ := ho5.form
              rw [show (q.word ++ [s]).length = q.word.length + 1 by simp] at hu5
              rw [hu5] at hr5 HUPD
              have HR5 := Lib.hid hr5
              have HX5 := Lib.hid hx5
              clear hr5 ho5 hc5 hb5 huo hupd hu5 hpo' hpw' hq hn hx5 hug
              go_upto_region 11 with fail
              refine wp_region_cls 11 (fun W' => W'.cell? ⟨g, (ps'.length - 1) * 2 + 1, none⟩ = some (.slice au q.word.length cu) ∧ W'.cell? ⟨b, off + k, none⟩ = some (.string s)) (by kernel_rfl) (by kernel_rfl) ⟨hu1, gs⟩ ?_
              intro hne
              have y1 : ∀ y : Cls (fun W' => W'.cell? ⟨g, (ps'.length - 1) * 2 + 1, none⟩ = some (.slice au q.word.length cu) ∧ W'.cell? ⟨b, off + k, none⟩ = some (.string s)), y.wd.cell? ⟨g, (ps'.length - 1) * 2 + 1, none⟩ = some (.slice au q.word.length cu) := fun y => y.ok.1
              have y2 : ∀ y : Cls (fun W' => W'.cell? ⟨g, (ps'.length - 1) * 2 + 1, none⟩ = some (.slice au q.word.length cu) ∧ W'.cell? ⟨b, off + k, none⟩ = some (.string s)), y.wd.cell? ⟨b, off + k, none⟩ = some (.string s) := fun y => y.ok.2
              simp only [List.take_succ_cons, List.take_zero, List.drop_succ_cons, List.drop_zero]
              repeat (go_big_quiet_step (fail))
              refine wpQuiet_nil ?_
              clear y1 y2 hne
              refine wpTail_k ?_
              intro K hK
              go_wp2_with fail
              refine hK _ _ ⟨(Ext.alloc _ _).cell hu1, (Ext.alloc _ _).cell gs⟩ ?_
              clear hK K
              refine wpTail_k ?_
              intro K hK
              go_wp2_with ((with_reducible refine wpList_ap 71 (.slice a5 (q.word.length + 1) c5) w5 ?_ ?_); exact HR5.out)
              refine hK _ _ ⟨hc5g, (hx1.tr HX5.out).cell hcs⟩ ?_
              clear hK K
              refine wpTail_k ?_
              intro K hK
              go_wp2_with fail
              refine hK _ _ ⟨hc5g, (hx1.tr HX5.out).cell hcs⟩ ?_
              clear hK K
              refine wpTail_k ?_
              intro K hK
              go_wp2_with fail
              refine hK _ _ ⟨hc5g, (hx1.tr HX5.out).cell hcs⟩ ?_
              clear hK K
              refine wpTail_z ?_
              intro K hK
              go_wp2_with fail
              refine hK _ _ ?_
              clear hK K
              go_wp2_with fail
              go_roundw
              case rel =>
                refine ⟨k + 1, _, by omega, by go_num, HX5.out.own (Chg.setCell _ _ _) (fun b' hb' => by cases hb'; exact hgb), ?_, piecesGo_step hpre.out HS.out HSTEP.out⟩
                refine ⟨HUPD.out, ?_, ?_, ?_⟩
                · simp; intro h; rw [h] at hps0; simp at hps0
                · simp; omega
                · intro p' hp'
                  rcases List.mem_or_eq_of_mem_set hp' with h | h
                  · have := HPW.out p' h; omega
                  · rw [h]; simp; omega
              case measure => simp [intOf]; omega
            · have d4 : (p != 0) = true := by simpa using hp0
              have d5 : (q1.part != 0) = false := by
                have : q1.part = 0 := Classical.byContradiction fun h => hbad ⟨hp0, h⟩
                simpa using this
              clear hbad hqp hp0 hpo hq1
              go_upto_region 10 with ((with_reducible refine wpList_ap 55 v2 w2 ?_ ?_); exact HR2.out)
              have hbf := HBF.out
              obtain ⟨WC, hWC⟩ : ∃ W', W' = w2 := ⟨_, rfl⟩
              rw [← hWC] at hbf ⊢
              clear HBF HR2 hxz hWC gq
              -- from here: hbf : PcBefore w1 WC out k step s
              obtain ⟨ps', q, g, cap, rfl, hpo', hps0, hpsk, hcap1, hcap2, hq, hpw', hbx, hgs, hgb, hstep⟩ := hbf
              obtain ⟨n, hn⟩ : ∃ n, n = ps'.length := ⟨_, rfl⟩
              have HSTEP := Lib.hid hstep; clear hstep
              obtain ⟨u, hu1, hu2, huo, hug, hupd⟩ := hpo'.word hq
              obtain ⟨au, cu, rfl, hcu1, hcu2⟩ := huo.form
              have hqw : q.word.length ≤ k := hpw' q (List.mem_of_getElem? hq)
              have HQQ := Lib.hid hq
              have HPW := Lib.hid hpw'
              obtain ⟨u', w5, hr5, ho5, hc5, hb5⟩ := append_L tStrs evStr 38 (huo.up evStr ((Ext.drew _).to_alloc (.cells #[.string s] 9))) (SlR.lit1 evStr 9 (cs := [.string s]) ⟨rfl, hss⟩ ((huo.up evStr (Ext.drew _)).not_new (fun h => h))) (by simp; omega) (by simp; omega) (by have := hbx.size; simp; omega) (fun h => h)
              have HUPD := Lib.hid (hupd u' w5 (q.word ++ [s]) ho5 (Ext.chg_tr ((Ext.drew _).to_alloc _) hc5) (by
                rcases hb5 with h | h
                · exact .inl h
                · exact .inr ⟨_, h, by simp⟩))
              have hx5 : Ext w1 w5 := (hbx.tr ((Ext.drew _).to_alloc _)).own hc5 (fun b hb => (huo.lt b hb).1)
              have HBLK : Hid (w5.heap[g]? = WC.heap[g]?) := by
                show _ = _
                rw [hc5.block g (by simp; omega) hug]
                exact Below.block ((Ext.drew WC).to_alloc (.cells #[.string s] 9)) g hgs
              have hc5g : w5.cell? ⟨g, (ps'.length - 1) * 2 + 1, none⟩ = some (.slice au q.word.length cu) := by
                rw [World.cell?_of_block (w := WC) (a := ⟨g, (ps'.length - 1) * 2 + 1, none⟩) HBLK.out]; exact hu1
              have hf5g : w5.frozen? ⟨g, (ps'.length - 1) * 2 + 1, none⟩ = false := by
                rw [World.frozen?_of_block (w := WC) (a := ⟨g, (ps'.length - 1) * 2 + 1, none⟩) HBLK.out]; exact hu2
              have gs : WC.cell? ⟨b, off + k, none⟩ = some (.string s) := (hx1.tr hbx).cell hcs
              obtain ⟨a5, c5, hu5, _, _⟩ := ho5.form
              rw [show (q.word ++ [s]).length = q.word.length + 1 by simp] at hu5
              rw [hu5] at hr5 HUPD
              have HR5 := Lib.hid hr5
              have HX5 := Lib.hid hx5
              clear hr5 ho5 hc5 hb5 huo hupd hu5 hpo' hpw' hq hn hx5 hug
              go_upto_region 11 with fail
              refine wp_region_cls 11 (fun W' => W'.cell? ⟨g, (ps'.length - 1) * 2 + 1, none⟩ = some (.slice au q.word.length cu) ∧ W'.cell? ⟨b, off + k, none⟩ = some (.string s)) (by kernel_rfl) (by kernel_rfl) ⟨hu1, gs⟩ ?_
              intro hne
              have y1 : ∀ y : Cls (fun W' => W'.cell? ⟨g, (ps'.length - 1) * 2 + 1, none⟩ = some (.slice au q.word.length cu) ∧ W'.cell? ⟨b, off + k, none⟩ = some (.string s)), y.wd.cell? ⟨g, (ps'.length - 1) * 2 + 1, none⟩ = some (.slice au q.word.length cu) := fun y => y.ok.1
              have y2 : ∀ y : Cls (fun W' => W'.cell? ⟨g, (ps'.length - 1) * 2 + 1, none⟩ = some (.slice au q.word.length cu) ∧ W'.cell? ⟨b, off + k, none⟩ = some (.string s)), y.wd.cell? ⟨b, off + k, none⟩ = some (.string s) := fun y => y.ok.2
              simp only [List.take_succ_cons, List.take_zero, List.drop_succ_cons, List.drop_zero]
              repeat (go_big_quiet_step (fail))
              refine wpQuiet_nil ?_
              clear y1 y2 hne
              refine wpTail_k ?_
              intro K hK
              go_wp2_with fail
              refine hK _ _ ⟨(Ext.alloc _ _).cell hu1, (Ext.alloc _ _).cell gs⟩ ?_
              clear hK K
              refine wpTail_k ?_
              intro K hK
              go_wp2_with ((with_reducible refine wpList_ap 71 (.slice a5 (q.word.length + 1) c5) w5 ?_ ?_); exact HR5.out)
              refine hK _ _ ⟨hc5g, (hx1.tr HX5.out).cell hcs⟩ ?_
              clear hK K
              refine wpTail_k ?_
              intro K hK
              go_wp2_with fail
              refine hK _ _ ⟨hc5g, (hx1.tr HX5.out).cell hcs⟩ ?_
              clear hK K
              refine wpTail_k ?_
              intro K hK
              go_wp2_with fail
              refine hK _ _ ⟨hc5g, (hx1.tr HX5.out).cell hcs⟩ ?_
              clear hK K
              refine wpTail_z ?_
              intro K hK
              go_wp2_with fail
              refine hK _ _ ?_
              clear hK K
              go_wp2_with fail
              go_roundw
              case rel =>
                refine ⟨k + 1, _, by omega, by go_num, HX5.out.own (Chg.setCell _ _ _) (fun b' hb' => by cases hb'; exact hgb), ?_, piecesGo_step hpre.out HS.out HSTEP.out⟩
                refine ⟨HUPD.out, ?_, ?_, ?_⟩
                · simp; intro h; rw [h] at hps0; simp at hps0
                · simp; omega
                · intro p' hp'
                  rcases List.mem_or_eq_of_mem_set hp' with h | h
                  · have := HPW.out p' h; omega
                  · rw [h]; simp; omega
              case measure => simp [intOf]; omega
    · obtain ⟨hpo, hk0, hpl, hpw⟩ := hst
      have hps : 0 < ps.length := by
        rcases Nat.eq_zero_or_pos ps.length with h | h
        · have := hk0.2 (List.eq_nil_of_length_eq_zero h); omega
        · exact h
      obtain ⟨p0, hp0⟩ := get_some hps
      obtain ⟨q0, hq0⟩ := get_some (show ps.length - 1 < ps.length by omega)
      obtain ⟨g, cap, rfl, hcp1, hcp2, hg1, hg2⟩ := hpo.form hps
      have g0 := hpo.part hp0
      have g1 := hpo.part hq0
      rw [Nat.zero_mul] at g0
      have hgo : Hid (piecesGo c.parts [] ws = some ps) := by
        show _ = _
        rw [hpre.out, List.drop_eq_nil_of_le (by omega : ws.length ≤ k), piecesGo]
      have hfin : Hid (piecesOf c.parts ws = if (p0.part == 0 && q0.part == 0) = true then some ps else none) := by
        show piecesOf c.parts ws = _
        unfold piecesOf
        rw [if_neg (by intro h; rw [h] at h0; simp at h0), hgo.out]
        simp only [endsB, hp0, hq0]
      have hrd : Hid (∀ n, Pieces M (wr.drewN n) (.slice (some ⟨g, 0, none⟩) ps.length cap) ps) := fun n => (hpo.up ((Ext.rfl' _).to_drewN n)).rd M (fun b' hb' hm => by have := HM.out b' hm; omega) (by omega) (fun p' hp' => by have := hpw p' hp'; omega)
      have dw : ((ws.length : Int) == 0) = false := beq_eq_false_iff_ne.2 (by omega)
      clear hpo hp0 hq0 hpw hk0
      have hbx := hx1.tr hb
      cases e0 : (p0.part == 0)
      · go_wp2_with fail
        go_quiet (fail)
        go_wp2_with fail
        go_ret2
        refine ⟨.slice (some ⟨g, 0, none⟩) ps.length cap, ?_, hbx.to_drewN _, fun ps' h => ?_⟩
        · rw [hfin.out, e0]; simp
        · rw [hfin.out, e0] at h; simp at h
      · cases e1 : (q0.part == 0)
        · go_wp2_with fail
          go_quiet (fail)
          go_wp2_with fail
          go_ret2
          refine ⟨.slice (some ⟨g, 0, none⟩) ps.length cap, ?_, hbx.to_drewN _, fun ps' h => ?_⟩
          · rw [hfin.out, e1]; simp
          · rw [hfin.out, e1] at h; simp at h
        · go_wp2_with fail
          go_quiet (fail)
          go_wp2_with fail
          go_ret2
          refine ⟨.slice (some ⟨g, 0, none⟩) ps.length cap, ?_, hbx.to_drewN _, fun ps' h => ?_⟩
          · rw [hfin.out, e0, e1]; simp
          · rw [hfin.out, e0, e1] at h
            simp at h
            rw [← h]
            exact hrd.out _
end Go.Proofs.Ytoanjgpdepaciaa

namespace Go.Proofs.Ytoanjgpdepaciaa
open Go.RowKit Go.Cb
set_option linter.all false

set_option maxRecDepth 100000 in
set_option maxHeartbeats 4000000 in
theorem rsplit_c (ws : List ByteArray) (c : Cut) (v u : Value) (w : World) {M : Mut} (hM : ∀ b, M b → b < w.heap.size) (hw : Strs M w v ws) (hc : CutR M w u c) (hlen : ws.length ≤ 1000) (hpn : c.parts.length ≤ 1000) (hp2 : 2 ≤ c.parts.length)
    (hin : ∀ s ∈ ws, 0 ≤ partOf c.parts s) :
    Calls Try.prog 31 #[v, u] w (RetPieces M w (splitOf c ws)) := by
  obtain ⟨up, rfl, hp, hk1, hk2⟩ := id hc
  obtain ⟨ap, cp, rfl, hpl, hpc, _⟩ := id hp
  have HC := Lib.hid hc
  have HW := Lib.hid hw
  have HM := Lib.hid hM
  have HIN := Lib.hid hin
  clear hc hp hM hin
  obtain ⟨aw, cw, rfl, hlw, hcw, hwn, han, hE⟩ := id hw
  have HE := Lib.hid hE; clear hE hw han
  by_cases hk4 : c.kind = 4
  · have d4 : (c.kind == 4) = true := beq_iff_eq.2 hk4
    have HP : Hid (∀ W, Ext w W → Calls Try.prog 50 #[.slice aw ws.length cw, .agg #[.int .i64 c.kind, .slice ap c.parts.length cp]] W (RetPieces M W (piecesOf c.parts ws))) := fun W hW => rPieces_c ws c _ _ W (fun b hb => Nat.lt_of_lt_of_le (HM.out b hb) hW.size) (HW.out.up hW) (HC.out.up hW) hlen
    have HK := Lib.hid hk4; clear hk4
    go_enter Try.func31, Try.ntmps31
    go_wp2_with (go_at_call 50; refine (HP.out _ (Ext.alloc _ _)).mono ?_; rintro e w2 ⟨r, rfl, he, hps⟩)
    go_ret2
    refine ⟨r, ?_, (Ext.alloc _ _).tr he, fun ps h => hps ps ?_⟩
    · unfold splitOf; rw [if_pos HK.out]; rfl
    · unfold splitOf at h; rw [if_pos HK.out] at h; exact h
  have d4 : (c.kind == 4) = false := beq_eq_false_iff_ne.2 hk4
  have HK4 := Lib.hid hk4; clear hk4
  go_enter Try.func31, Try.ntmps31
  go_wp2_with fail
  obtain ⟨w1, hw1⟩ : ∃ w1, w1 = w.alloc (.cells #[.int .i64 c.kind, .slice ap c.parts.length cp] 25) := ⟨_, rfl⟩
  have q0 : w1.cell? ⟨w.heap.size, 0, none⟩ = some (.int .i64 c.kind) := by rw [hw1]; simp
  have q1 : w1.cell? ⟨w.heap.size, 1, none⟩ = some (.slice ap c.parts.length cp) := by rw [hw1]; simp
  have hx1 : Ext w w1 := by rw [hw1]; exact Ext.alloc _ _
  have hs1 : w.heap.size < w1.heap.size := by rw [hw1]; simp
  rw [← hw1]
  have HQ0 := Lib.hid q0
  have HQ1 := Lib.hid q1
  clear q0 q1 hw1
  go_loopw [6, 7] (fun out i wr => ∃ j : Nat, j ≤ c.parts.length ∧ i = .int .i64 j ∧ Ext w1 wr ∧ PcOwn w1.heap.size 68 9 wr out (initPs j)) (fun _ i _ => c.parts.length - (intOf i).toNat)
  case atStart => exact ⟨0, by omega, rfl, Ext.rfl' _, PcOwn.nil⟩
  case round =>
    obtain ⟨j, hj, rfl, hb, hpo⟩ := hrel
    have q1 := hb.cell HQ1.out
    by_cases hlt : j < c.parts.length
    · obtain ⟨v2, w2, hr2, hpo2, hc2⟩ := PcOwn.append tRPieces (j : Int) 63 hpo (by rw [initPs_len]; omega) (by rw [initPs_len]; omega) hb.size
      have HR2 := Lib.hid hr2
      have HPO2 := Lib.hid hpo2
      have hx2 : Ext w1 w2 := (hb.to_alloc _).own hc2 (fun b' hb' => by obtain ⟨cells, h1', _⟩ := hpo; exact (h1'.row.lt b' hb').1)
      clear hr2 hpo2 hc2 hpo
      go_wp2_with ((with_reducible refine wpList_ap 30 v2 w2 ?_ ?_); exact HR2.out)
      go_roundw
      case rel => exact ⟨j + 1, by omega, by go_num, hx2, by rw [initPs_snoc]; exact HPO2.out⟩
      case measure => simp [intOf]; omega
    obtain rfl : j = c.parts.length := by omega
    obtain ⟨g, cap, hform, hcap2, hcap1, hgb, hgs0⟩ := hpo.form (by rw [initPs_len]; omega)
    rw [initPs_len] at hform hcap2
    subst hform
    have HPO0 := Lib.hid hpo; clear hpo
    have hb0 := hb
    clear hb
    go_wp2_with fail
    clear q1
    go_loopw [8, 9] (fun la i wr => ∃ (k : Nat) (last : Int) (ps : List Piece), k ≤ ws.length ∧ i = .int .i64 k ∧ la = .int .i64 last ∧ Ext w1 wr ∧ PcOwn w1.heap.size 68 9 wr (.slice (some ⟨g, 0, none⟩) c.parts.length cap) ps ∧ ps.length = c.parts.length ∧ 0 ≤ last ∧ last < c.parts.length ∧ (∀ p ∈ ps, p.word.length ≤ k) ∧ Hid (splitGo c.kind c.parts true 0 (initPs c.parts.length) ws = splitGo c.kind c.parts (decide (k = 0)) last ps (ws.drop k))) (fun _ i _ => ws.length - (intOf i).toNat)
    case atStart => exact ⟨0, 0, initPs c.parts.length, by omega, rfl, rfl, hb0, HPO0.out, initPs_len _, by omega, by omega, fun p hp => by rw [initPs_word hp]; simp, rfl⟩
    case round =>
      obtain ⟨k, last, ps, hk, rfl, rfl, hb, hpo, hpn, hl0, hl1, hpw, hpre⟩ := hrel
      by_cases hlt : k < ws.length
      · obtain ⟨s, hs⟩ := get_some hlt
        have HS := Lib.hid hs; clear hs
        obtain ⟨b, off, rfl, ⟨⟨hcs, _⟩, hss⟩⟩ := HE.out k s HS.out
        rw [Nat.mul_one] at hcs
        have hxw := hx1.tr hb
        have gs := hxw.cell hcs
        have q0 := hb.cell HQ0.out
        have q1 := hb.cell HQ1.out
        have f0 : ∀ z, (wr.plus z).cell? ⟨w.heap.size, 0, none⟩ = some (.int .i64 c.kind) := fun z => plus_cell q0 z
        have f1 : ∀ z, (wr.plus z).cell? ⟨w.heap.size, 1, none⟩ = some (.slice ap c.parts.length cp) := fun z => plus_cell q1 z
        have f2 : ∀ z, (wr.plus z).cell? ⟨b, off + k, none⟩ = some (.string s) := fun z => plus_cell gs z
        have hpin := HIN.out s (List.mem_of_getElem? HS.out)
        have hbd := idx_bd (fun x => hasStr x s) c.parts
        obtain ⟨m, hm⟩ : ∃ m : Nat, partOf c.parts s = m := ⟨(partOf c.parts s).toNat, by omega⟩
        rw [show idx (fun x => hasStr x s) c.parts = (m : Int) from hm] at hbd
        have hmn : m < c.parts.length := by omega
        have HPC : Hid (∀ W, Ext w W → Calls Try.prog 30 #[.agg #[.int .i64 c.kind, .slice ap c.parts.length cp], .string s] W fun e w' => e = .returned (.int .i64 (m : Int)) ∧ Ext W w') := fun W hW => by rw [← hm]; exact rPart_c c s _ W (HC.out.up hW)
        have HP := Lib.hid hm; clear hm hpin hbd
        have HNX : Hid (splitGo c.kind c.parts (decide (k = 0)) last ps (ws.drop k) = if badAt c.kind (decide (k = 0)) m last then none else splitGo c.kind c.parts (decide (k + 1 = 0)) m (addAt ps m s) (ws.drop (k + 1))) := by
          show _ = _
          rw [drop_at HS.out, splitGo, HP.out]
          simp
        go_wp2_with fail
        refine wp_region_grow (by kernel_rfl) (by kernel_rfl) ?_
        repeat (go_big_quiet_step (first | (go_at_call 30; exact plus_call (HPC.out _ (hxw.tr (plus_ext _ _))))))
        refine wpQuiet_nil ?_
        rintro wq ⟨z, rfl⟩
        obtain ⟨WC, hW⟩ : ∃ W, W = wr.plus z := ⟨_, rfl⟩
        have hxz : Ext wr WC := by rw [hW]; exact plus_ext _ z
        rw [← hW]
        clear hW f0 f1 f2 gs q0 q1
        have hbx := hb.tr hxz
        have hpo := hpo.up hxz
        have q0 := hbx.cell HQ0.out
        have hgs : g < WC.heap.size := by have := hbx.size; obtain ⟨cells, h1', _⟩ := hpo; exact (h1'.row.lt g rfl).2
        obtain ⟨q, hq⟩ := get_some (show m < ps.length by omega)
        cases hbad : badAt c.kind (decide (k = 0)) m last
        · have HNEXT : Hid (splitGo c.kind c.parts true 0 (initPs c.parts.length) ws = splitGo c.kind c.parts (decide (k + 1 = 0)) m (addAt ps m s) (ws.drop (k + 1))) := by
            show _ = _
            rw [hpre.out, HNX.out, hbad]; rfl
          have hbad' := hbad
          clear hbad
          simp only [badAt, Bool.or_eq_false_iff, Bool.and_eq_false_iff] at hbad'
          obtain ⟨hb2, hb1⟩ := hbad'
          by_cases hk2' : c.kind = 2
          · have d2 : (c.kind == 2) = true := beq_iff_eq.2 hk2'
            have d1 : (c.kind == 1) = false := beq_eq_false_iff_ne.2 (by omega)
            have dp : decide ((m : Int) < last) = false := by
              rcases hb2 with h | h
              · rw [d2] at h; cases h
              · exact h
            clear hb1 hb2 hk2'
            obtain ⟨u, hu1, hu2, huo, hug, hupd⟩ := PcOwn.word (cap := cap) (g := g) (by rw [hpn]; exact hpo) hq
            obtain ⟨au, cu, rfl, hcu1, hcu2⟩ := huo.form
            have hqw : q.word.length ≤ k := hpw q (List.mem_of_getElem? hq)
            obtain ⟨u', w5, hr5, ho5, hc5, hb5⟩ := append_L tStrs evStr 38 (huo.up evStr ((Ext.drew _).to_alloc (.cells #[.string s] 9))) (SlR.lit1 evStr 9 (cs := [.string s]) ⟨rfl, hss⟩ ((huo.up evStr (Ext.drew _)).not_new (fun h => h))) (by simp; omega) (by simp; omega) (by have := hbx.size; simp; omega) (fun h => h)
            have HUPD := Lib.hid (hupd u' w5 (q.word ++ [s]) ho5 (Ext.chg_tr ((Ext.drew _).to_alloc _) hc5) (by
              rcases hb5 with h | h
              · exact .inl h
              · exact .inr ⟨_, h, by simp⟩))
            have hx5 : Ext w1 w5 := (hbx.tr ((Ext.drew _).to_alloc _)).own hc5 (fun b hb => (huo.lt b hb).1)
            have HBLK : Hid (w5.heap[g]? = WC.heap[g]?) := by
              show _ = _
              rw [hc5.block g (by simp; omega) hug]
              exact Below.block ((Ext.drew WC).to_alloc (.cells #[.string s] 9)) g hgs
            have hc5g : w5.cell? ⟨g, m * 2 + 1, none⟩ = some (.slice au q.word.length cu) := by
              rw [World.cell?_of_block (w := WC) (a := ⟨g, m * 2 + 1, none⟩) HBLK.out]; exact hu1
            have hf5g : w5.frozen? ⟨g, m * 2 + 1, none⟩ = false := by
              rw [World.frozen?_of_block (w := WC) (a := ⟨g, m * 2 + 1, none⟩) HBLK.out]; exact hu2
            have gs : WC.cell? ⟨b, off + k, none⟩ = some (.string s) := (hx1.tr hbx).cell hcs
            obtain ⟨a5, c5, hu5, _, _⟩ := ho5.form
            rw [show (q.word ++ [s]).length = q.word.length + 1 by simp] at hu5
            rw [hu5] at hr5 HUPD
            have HR5 := Lib.hid hr5
            have HX5 := Lib.hid hx5
            have HPW := Lib.hid hpw
            have HQQ := Lib.hid hq
            clear hr5 ho5 hc5 hb5 huo hupd hpo hpw hq hx5 hug hu5
            go_upto_region 16 with fail
            refine wp_region_cls 11 (fun W' => W'.cell? ⟨g, m * 2 + 1, none⟩ = some (.slice au q.word.length cu) ∧ W'.cell? ⟨b, off + k, none⟩ = some (.string s)) (by kernel_rfl) (by kernel_rfl) ⟨hu1, gs⟩ ?_
            intro hne
            have y1 : ∀ y : Cls (fun W' => W'.cell? ⟨g, m * 2 + 1, none⟩ = some (.slice au q.word.length cu) ∧ W'.cell? ⟨b, off + k, none⟩ = some (.string s)), y.wd.cell? ⟨g, m * 2 + 1, none⟩ = some (.slice au q.word.length cu) := fun y => y.ok.1
            have y2 : ∀ y : Cls (fun W' => W'.cell? ⟨g, m * 2 + 1, none⟩ = some (.slice au q.word.length cu) ∧ W'.cell? ⟨b, off + k, none⟩ = some (.string s)), y.wd.cell? ⟨b, off + k, none⟩ = some (.string s) := fun y => y.ok.2
            simp only [List.take_succ_cons, List.take_zero, List.drop_succ_cons, List.drop_zero]
            repeat (go_big_quiet_step (fail))
            refine wpQuiet_nil ?_
            clear y1 y2 hne
            refine wpTail_k ?_
            intro K hK
            go_wp2_with fail
            refine hK _ _ ⟨(Ext.alloc _ _).cell hu1, (Ext.alloc _ _).cell gs⟩ ?_
            clear hK K
            refine wpTail_k ?_
            intro K hK
            go_wp2_with ((with_reducible refine wpList_ap 78 (.slice a5 (q.word.length + 1) c5) w5 ?_ ?_); exact HR5.out)
            refine hK _ _ ⟨hc5g, (hx1.tr HX5.out).cell hcs⟩ ?_
            clear hK K
            refine wpTail_k ?_
            intro K hK
            go_wp2_with fail
            refine hK _ _ ⟨hc5g, (hx1.tr HX5.out).cell hcs⟩ ?_
            clear hK K
            refine wpTail_k ?_
            intro K hK
            go_wp2_with fail
            refine hK _ _ ⟨hc5g, (hx1.tr HX5.out).cell hcs⟩ ?_
            clear hK K
            refine wpTail_z ?_
            intro K hK
            go_wp2_with fail
            refine hK _ _ ?_
            clear hK K
            go_wp2_with fail
            go_roundw
            case rel =>
              refine ⟨k + 1, (m : Int), addAt ps m s, by omega, by go_num, rfl, HX5.out.own (Chg.setCell _ _ _) (fun b' hb' => by cases hb'; exact hgb), ?_, ?_, by omega, by omega, ?_, ?_⟩
              · rw [addAt_some HQQ.out]
                have h9 := HUPD.out
                rw [hpn] at h9
                exact h9
              · rw [addAt_len]; exact hpn
              · intro p' hp'
                rw [addAt_some HQQ.out] at hp'
                rcases List.mem_or_eq_of_mem_set hp' with h | h
                · have := HPW.out p' h; omega
                · rw [h]; simp; omega
              · exact HNEXT.out
            case measure => simp [intOf]; omega
          · have d2 : (c.kind == 2) = false := beq_eq_false_iff_ne.2 hk2'
            by_cases hk1' : c.kind = 1
            · have d1 : (c.kind == 1) = true := beq_iff_eq.2 hk1'
              by_cases hk0 : k = 0
              · have dk : decide ((0 : Int) < (k : Int)) = false := by simp; omega
                have hk00 : k < 1 := by omega
                clear hb1 hb2 hk2' hk1' hk0
                obtain ⟨u, hu1, hu2, huo, hug, hupd⟩ := PcOwn.word (cap := cap) (g := g) (by rw [hpn]; exact hpo) hq
                obtain ⟨au, cu, rfl, hcu1, hcu2⟩ := huo.form
                have hqw : q.word.length ≤ k := hpw q (List.mem_of_getElem? hq)
                obtain ⟨u', w5, hr5, ho5, hc5, hb5⟩ := append_L tStrs evStr 38 (huo.up evStr ((Ext.drew _).to_alloc (.cells #[.string s] 9))) (SlR.lit1 evStr 9 (cs := [.string s]) ⟨rfl, hss⟩ ((huo.up evStr (Ext.drew _)).not_new (fun h => h))) (by simp; omega) (by simp; omega) (by have := hbx.size; simp; omega) (fun h => h)
                have HUPD := Lib.hid (hupd u' w5 (q.word ++ [s]) ho5 (Ext.chg_tr ((Ext.drew _).to_alloc _) hc5) (by
                  rcases hb5 with h | h
                  · exact .inl h
                  · exact .inr ⟨_, h, by simp⟩))
                have hx5 : Ext w1 w5 := (hbx.tr ((Ext.drew _).to_alloc _)).own hc5 (fun b hb => (huo.lt b hb).1)
                have HBLK : Hid (w5.heap[g]? = WC.heap[g]?) := by
                  show _ = _
                  rw [hc5.block g (by simp; omega) hug]
                  exact Below.block ((Ext.drew WC).to_alloc (.cells #[.string s] 9)) g hgs
                have hc5g : w5.cell? ⟨g, m * 2 + 1, none⟩ = some (.slice au q.word.length cu) := by
                  rw [World.cell?_of_block (w := WC) (a := ⟨g, m * 2 + 1, none⟩) HBLK.out]; exact hu1
                have hf5g : w5.frozen? ⟨g, m * 2 + 1, none⟩ = false := by
                  rw [World.frozen?_of_block (w := WC) (a := ⟨g, m * 2 + 1, none⟩) HBLK.out]; exact hu2
                have gs : WC.cell? ⟨b, off + k, none⟩ = some (.string s) := (hx1.tr hbx).cell hcs
                obtain ⟨a5, c5, hu5, _, _⟩ := ho5.form
                rw [show (q.word ++ [s]).length = q.word.length + 1 by simp] at hu5
                rw [hu5] at hr5 HUPD
                have HR5 := Lib.hid hr5
                have HX5 := Lib.hid hx5
                have HPW := Lib.hid hpw
                have HQQ := Lib.hid hq
                clear hr5 ho5 hc5 hb5 huo hupd hpo hpw hq hx5 hug hu5
                go_upto_region 16 with fail
                refine wp_region_cls 11 (fun W' => W'.cell? ⟨g, m * 2 + 1, none⟩ = some (.slice au q.word.length cu) ∧ W'.cell? ⟨b, off + k, none⟩ = some (.string s)) (by kernel_rfl) (by kernel_rfl) ⟨hu1, gs⟩ ?_
                intro hne
                have y1 : ∀ y : Cls (fun W' => W'.cell? ⟨g, m * 2 + 1, none⟩ = some (.slice au q.word.length cu) ∧ W'.cell? ⟨b, off + k, none⟩ = some (.string s)), y.wd.cell? ⟨g, m * 2 + 1, none⟩ = some (.slice au q.word.length cu) := fun y => y.ok.1
                have y2 : ∀ y : Cls (fun W' => W'.cell? ⟨g, m * 2 + 1, none⟩ = some (.slice au q.word.length cu) ∧ W'.cell? ⟨b, off + k, none⟩ = some (.string s)), y.wd.cell? ⟨b, off + k, none⟩ = some (.string s) := fun y => y.ok.2
                simp only [List.take_succ_cons, List.take_zero, List.drop_succ_cons, List.drop_zero]
                repeat (go_big_quiet_step (fail))
                refine wpQuiet_nil ?_
                clear y1 y2 hne
                refine wpTail_k ?_
                intro K hK
                go_wp2_with fail
                refine hK _ _ ⟨(Ext.alloc _ _).cell hu1, (Ext.alloc _ _).cell gs⟩ ?_
                clear hK K
                refine wpTail_k ?_
                intro K hK
                go_wp2_with ((with_reducible refine wpList_ap 78 (.slice a5 (q.word.length + 1) c5) w5 ?_ ?_); exact HR5.out)
                refine hK _ _ ⟨hc5g, (hx1.tr HX5.out).cell hcs⟩ ?_
                clear hK K
                refine wpTail_k ?_
                intro K hK
                go_wp2_with fail
                refine hK _ _ ⟨hc5g, (hx1.tr HX5.out).cell hcs⟩ ?_
                clear hK K
                refine wpTail_k ?_
                intro K hK
                go_wp2_with fail
                refine hK _ _ ⟨hc5g, (hx1.tr HX5.out).cell hcs⟩ ?_
                clear hK K
                refine wpTail_z ?_
                intro K hK
                go_wp2_with fail
                refine hK _ _ ?_
                clear hK K
                go_wp2_with fail
                go_roundw
                case rel =>
                  refine ⟨k + 1, (m : Int), addAt ps m s, by omega, by go_num, rfl, HX5.out.own (Chg.setCell _ _ _) (fun b' hb' => by cases hb'; exact hgb), ?_, ?_, by omega, by omega, ?_, ?_⟩
                  · rw [addAt_some HQQ.out]
                    have h9 := HUPD.out
                    rw [hpn] at h9
                    exact h9
                  · rw [addAt_len]; exact hpn
                  · intro p' hp'
                    rw [addAt_some HQQ.out] at hp'
                    rcases List.mem_or_eq_of_mem_set hp' with h | h
                    · have := HPW.out p' h; omega
                    · rw [h]; simp; omega
                  · exact HNEXT.out
                case measure => simp [intOf]; omega
              · have dk : decide ((0 : Int) < (k : Int)) = true := by simp; omega
                have hk00 : 0 < k := by omega
                have dp : ((m : Int) != last) = false := by
                  rcases hb1 with (h | h) | h
                  · rw [d1] at h; cases h
                  · simp at h; omega
                  · exact h
                clear hb1 hb2 hk2' hk1' hk0
                obtain ⟨u, hu1, hu2, huo, hug, hupd⟩ := PcOwn.word (cap := cap) (g := g) (by rw [hpn]; exact hpo) hq
                obtain ⟨au, cu, rfl, hcu1, hcu2⟩ := huo.form
                have hqw : q.word.length ≤ k := hpw q (List.mem_of_getElem? hq)
                obtain ⟨u', w5, hr5, ho5, hc5, hb5⟩ := append_L tStrs evStr 38 (huo.up evStr ((Ext.drew _).to_alloc (.cells #[.string s] 9))) (SlR.lit1 evStr 9 (cs := [.string s]) ⟨rfl, hss⟩ ((huo.up evStr (Ext.drew _)).not_new (fun h => h))) (by simp; omega) (by simp; omega) (by have := hbx.size; simp; omega) (fun h => h)
                have HUPD := Lib.hid (hupd u' w5 (q.word ++ [s]) ho5 (Ext.chg_tr ((Ext.drew _).to_alloc _) hc5) (by
                  rcases hb5 with h | h
                  · exact .inl h
                  · exact .inr ⟨_, h, by simp⟩))
                have hx5 : Ext w1 w5 := (hbx.tr ((Ext.drew _).to_alloc _)).own hc5 (fun b hb => (huo.lt b hb).1)
                have HBLK : Hid (w5.heap[g]? = WC.heap[g]?) := by
                  show _ = _
                  rw [hc5.block g (by simp; omega) hug]
                  exact Below.block ((Ext.drew WC).to_alloc (.cells #[.string s] 9)) g hgs
                have hc5g : w5.cell? ⟨g, m * 2 + 1, none⟩ = some (.slice au q.word.length cu) := by
                  rw [World.cell?_of_block (w := WC) (a := ⟨g, m * 2 + 1, none⟩) HBLK.out]; exact hu1
                have hf5g : w5.frozen? ⟨g, m * 2 + 1, none⟩ = false := by
                  rw [World.frozen?_of_block (w := WC) (a := ⟨g, m * 2 + 1, none⟩) HBLK.out]; exact hu2
                have gs : WC.cell? ⟨b, off + k, none⟩ = some (.string s) := (hx1.tr hbx).cell hcs
                obtain ⟨a5, c5, hu5, _, _⟩ := ho5.form
                rw [show (q.word ++ [s]).length = q.word.length + 1 by simp] at hu5
                rw [hu5] at hr5 HUPD
                have HR5 := Lib.hid hr5
                have HX5 := Lib.hid hx5
                have HPW := Lib.hid hpw
                have HQQ := Lib.hid hq
                clear hr5 ho5 hc5 hb5 huo hupd hpo hpw hq hx5 hug hu5
                go_upto_region 16 with fail
                refine wp_region_cls 11 (fun W' => W'.cell? ⟨g, m * 2 + 1, none⟩ = some (.slice au q.word.length cu) ∧ W'.cell? ⟨b, off + k, none⟩ = some (.string s)) (by kernel_rfl) (by kernel_rfl) ⟨hu1, gs⟩ ?_
                intro hne
                have y1 : ∀ y : Cls (fun W' => W'.cell? ⟨g, m * 2 + 1, none⟩ = some (.slice au q.word.length cu) ∧ W'.cell? ⟨b, off + k, none⟩ = some (.string s)), y.wd.cell? ⟨g, m * 2 + 1, none⟩ = some (.slice au q.word.length cu) := fun y => y.ok.1
                have y2 : ∀ y : Cls (fun W' => W'.cell? ⟨g, m * 2 + 1, none⟩ = some (.slice au q.word.length cu) ∧ W'.cell? ⟨b, off + k, none⟩ = some (.string s)), y.wd.cell? ⟨b, off + k, none⟩ = some (.string s) := fun y => y.ok.2
                simp only [List.take_succ_cons, List.take_zero, List.drop_succ_cons, List.drop_zero]
                repeat (go_big_quiet_step (fail))
                refine wpQuiet_nil ?_
                clear y1 y2 hne
                refine wpTail_k ?_
                intro K hK
                go_wp2_with fail
                refine hK _ _ ⟨(Ext.alloc _ _).cell hu1, (Ext.alloc _ _).cell gs⟩ ?_
                clear hK K
                refine wpTail_k ?_
                intro K hK
                go_wp2_with ((with_reducible refine wpList_ap 78 (.slice a5 (q.word.length + 1) c5) w5 ?_ ?_); exact HR5.out)
                refine hK _ _ ⟨hc5g, (hx1.tr HX5.out).cell hcs⟩ ?_
                clear hK K
                refine wpTail_k ?_
                intro K hK
                go_wp2_with fail
                refine hK _ _ ⟨hc5g, (hx1.tr HX5.out).cell hcs⟩ ?_
                clear hK K
                refine wpTail_k ?_
                intro K hK
                go_wp2_with fail
                refine hK _ _ ⟨hc5g, (hx1.tr HX5.out).cell hcs⟩ ?_
                clear hK K
                refine wpTail_z ?_
                intro K hK
                go_wp2_with fail
                refine hK _ _ ?_
                clear hK K
                go_wp2_with fail
                go_roundw
                case rel =>
                  refine ⟨k + 1, (m : Int), addAt ps m s, by omega, by go_num, rfl, HX5.out.own (Chg.setCell _ _ _) (fun b' hb' => by cases hb'; exact hgb), ?_, ?_, by omega, by omega, ?_, ?_⟩
                  · rw [addAt_some HQQ.out]
                    have h9 := HUPD.out
                    rw [hpn] at h9
                    exact h9
                  · rw [addAt_len]; exact hpn
                  · intro p' hp'
                    rw [addAt_some HQQ.out] at hp'
                    rcases List.mem_or_eq_of_mem_set hp' with h | h
                    · have := HPW.out p' h; omega
                    · rw [h]; simp; omega
                  · exact HNEXT.out
                case measure => simp [intOf]; omega
            · have d1 : (c.kind == 1) = false := beq_eq_false_iff_ne.2 hk1'
              clear hb1 hb2 hk2' hk1'
              obtain ⟨u, hu1, hu2, huo, hug, hupd⟩ := PcOwn.word (cap := cap) (g := g) (by rw [hpn]; exact hpo) hq
              obtain ⟨au, cu, rfl, hcu1, hcu2⟩ := huo.form
              have hqw : q.word.length ≤ k := hpw q (List.mem_of_getElem? hq)
              obtain ⟨u', w5, hr5, ho5, hc5, hb5⟩ := append_L tStrs evStr 38 (huo.up evStr ((Ext.drew _).to_alloc (.cells #[.string s] 9))) (SlR.lit1 evStr 9 (cs := [.string s]) ⟨rfl, hss⟩ ((huo.up evStr (Ext.drew _)).not_new (fun h => h))) (by simp; omega) (by simp; omega) (by have := hbx.size; simp; omega) (fun h => h)
              have HUPD := Lib.hid (hupd u' w5 (q.word ++ [s]) ho5 (Ext.chg_tr ((Ext.drew _).to_alloc _) hc5) (by
                rcases hb5 with h | h
                · exact .inl h
                · exact .inr ⟨_, h, by simp⟩))
              have hx5 : Ext w1 w5 := (hbx.tr ((Ext.drew _).to_alloc _)).own hc5 (fun b hb => (huo.lt b hb).1)
              have HBLK : Hid (w5.heap[g]? = WC.heap[g]?) := by
                show _ = _
                rw [hc5.block g (by simp; omega) hug]
                exact Below.block ((Ext.drew WC).to_alloc (.cells #[.string s] 9)) g hgs
              have hc5g : w5.cell? ⟨g, m * 2 + 1, none⟩ = some (.slice au q.word.length cu) := by
                rw [World.cell?_of_block (w := WC) (a := ⟨g, m * 2 + 1, none⟩) HBLK.out]; exact hu1
              have hf5g : w5.frozen? ⟨g, m * 2 + 1, none⟩ = false := by
                rw [World.frozen?_of_block (w := WC) (a := ⟨g, m * 2 + 1, none⟩) HBLK.out]; exact hu2
              have gs : WC.cell? ⟨b, off + k, none⟩ = some (.string s) := (hx1.tr hbx).cell hcs
              obtain ⟨a5, c5, hu5, _, _⟩ := ho5.form
              rw [show (q.word ++ [s]).length = q.word.length + 1 by simp] at hu5
              rw [hu5] at hr5 HUPD
              have HR5 := Lib.hid hr5
              have HX5 := Lib.hid hx5
              have HPW := Lib.hid hpw
              have HQQ := Lib.hid hq
              clear hr5 ho5 hc5 hb5 huo hupd hpo hpw hq hx5 hug hu5
              go_upto_region 16 with fail
              refine wp_region_cls 11 (fun W' => W'.cell? ⟨g, m * 2 + 1, none⟩ = some (.slice au q.word.length cu) ∧ W'.cell? ⟨b, off + k, none⟩ = some (.string s)) (by kernel_rfl) (by kernel_rfl) ⟨hu1, gs⟩ ?_
              intro hne
              have y1 : ∀ y : Cls (fun W' => W'.cell? ⟨g, m * 2 + 1, none⟩ = some (.slice au q.word.length cu) ∧ W'.cell? ⟨b, off + k, none⟩ = some (.string s)), y.wd.cell? ⟨g, m * 2 + 1, none⟩ = some (.slice au q.word.length cu) := fun y => y.ok.1
              have y2 : ∀ y : Cls (fun W' => W'.cell? ⟨g, m * 2 + 1, none⟩ = some (.slice au q.word.length cu) ∧ W'.cell? ⟨b, off + k, none⟩ = some (.string s)), y.wd.cell? ⟨b, off + k, none⟩ = some (.string s) := fun y => y.ok.2
              simp only [List.take_succ_cons, List.take_zero, List.drop_succ_cons, List.drop_zero]
              repeat (go_big_quiet_step (fail))
              refine wpQuiet_nil ?_
              clear y1 y2 hne
              refine wpTail_k ?_
              intro K hK
              go_wp2_with fail
              refine hK _ _ ⟨(Ext.alloc _ _).cell hu1, (Ext.alloc _ _).cell gs⟩ ?_
              clear hK K
              refine wpTail_k ?_
              intro K hK
              go_wp2_with ((with_reducible refine wpList_ap 78 (.slice a5 (q.word.length + 1) c5) w5 ?_ ?_); exact HR5.out)
              refine hK _ _ ⟨hc5g, (hx1.tr HX5.out).cell hcs⟩ ?_
              clear hK K
              refine wpTail_k ?_
              intro K hK
              go_wp2_with fail
              refine hK _ _ ⟨hc5g, (hx1.tr HX5.out).cell hcs⟩ ?_
              clear hK K
              refine wpTail_k ?_
              intro K hK
              go_wp2_with fail
              refine hK _ _ ⟨hc5g, (hx1.tr HX5.out).cell hcs⟩ ?_
              clear hK K
              refine wpTail_z ?_
              intro K hK
              go_wp2_with fail
              refine hK _ _ ?_
              clear hK K
              go_wp2_with fail
              go_roundw
              case rel =>
                refine ⟨k + 1, (m : Int), addAt ps m s, by omega, by go_num, rfl, HX5.out.own (Chg.setCell _ _ _) (fun b' hb' => by cases hb'; exact hgb), ?_, ?_, by omega, by omega, ?_, ?_⟩
                · rw [addAt_some HQQ.out]
                  have h9 := HUPD.out
                  rw [hpn] at h9
                  exact h9
                · rw [addAt_len]; exact hpn
                · intro p' hp'
                  rw [addAt_some HQQ.out] at hp'
                  rcases List.mem_or_eq_of_mem_set hp' with h | h
                  · have := HPW.out p' h; omega
                  · rw [h]; simp; omega
                · exact HNEXT.out
              case measure => simp [intOf]; omega
        · have HF : Hid (splitOf c ws = none) := by
            show splitOf c ws = none
            unfold splitOf
            rw [if_neg HK4.out, hpre.out, HNX.out, hbad]; rfl
          have hbad' := hbad
          clear hbad
          simp only [badAt, Bool.or_eq_true, Bool.and_eq_true] at hbad'
          clear hpo hq
          rcases hbad' with ⟨d2, dp⟩ | ⟨⟨d1, dk⟩, dp⟩
          · go_wp2_with fail
            go_ret2
            exact ⟨_, by rw [HF.out]; rfl, hx1.tr hbx, fun ps h => by rw [HF.out] at h; cases h⟩
          · have d2 : (c.kind == 2) = false := beq_eq_false_iff_ne.2 (by have := beq_iff_eq.1 d1; omega)
            have dk' : decide ((0 : Int) < (k : Int)) = true := by simp at dk; simp; omega
            have hk00 : 0 < k := by simp at dk; omega
            clear dk
            go_wp2_with fail
            go_ret2
            exact ⟨_, by rw [HF.out]; rfl, hx1.tr hbx, fun ps h => by rw [HF.out] at h; cases h⟩
      · have hfin : Hid (splitGo c.kind c.parts true 0 (initPs c.parts.length) ws = some (ps, last)) := by
          show _ = _
          rw [hpre.out, List.drop_eq_nil_of_le (by omega : ws.length ≤ k), splitGo]
        have hrd : Pieces M wr (.slice (some ⟨g, 0, none⟩) c.parts.length cap) ps := hpo.rd M (fun b' hb' hm => by have := HM.out b' hm; omega) (by omega) (fun p' hp' => by have := hpw p' hp'; omega)
        have q0 := hb.cell HQ0.out
        have hbx := hx1.tr hb
        by_cases hk1' : c.kind = 1
        · have d1 : (c.kind == 1) = true := beq_iff_eq.2 hk1'
          obtain ⟨m, hm⟩ : ∃ m : Nat, last = m := ⟨last.toNat, by omega⟩
          subst hm
          obtain ⟨vs, hsl, hrs⟩ := slice_mid tRPieces hrd m (m + 1) (by omega) (by rw [hpn]; omega)
          rw [show (((m + 1 : Nat)) : Int) = (m : Int) + 1 by omega] at hsl
          have HSL := Lib.hid hsl
          have HF : Hid (splitOf c ws = if ws = [] then none else some ((ps.drop m).take 1)) := by
            show splitOf c ws = _
            unfold splitOf
            rw [if_neg HK4.out, hfin.out]
            simp [hk1']
          have HRS := Lib.hid hrs
          clear hsl hrs hrd hpo hpw hk1'
          by_cases hw0 : ws.length = 0
          · have dw : decide ((0 : Int) < (ws.length : Int)) = false := decide_eq_false (by omega)
            go_wp2_with ((with_reducible refine wpList_sl 88 vs ?_ ?_); exact HSL.out)
            go_ret2
            have hw1 := List.eq_nil_of_length_eq_zero hw0
            exact ⟨vs, by rw [HF.out, if_pos hw1]; rfl, hbx, fun ps' h => by rw [HF.out, if_pos hw1] at h; cases h⟩
          · have dw : decide ((0 : Int) < (ws.length : Int)) = true := decide_eq_true (by omega)
            have dw2 : decide (0 < ws.length) = true := decide_eq_true (by omega)
            have hw1 : ¬ ws = [] := fun h => hw0 (by rw [h]; rfl)
            go_wp2_with ((with_reducible refine wpList_sl 88 vs ?_ ?_); exact HSL.out)
            go_ret2
            refine ⟨vs, by rw [HF.out, if_neg hw1]; rfl, hbx, fun ps' h => ?_⟩
            rw [HF.out, if_neg hw1] at h
            cases h
            have h9 := HRS.out
            rw [show m + 1 - m = 1 by omega] at h9
            exact h9
        · have d1 : (c.kind == 1) = false := beq_eq_false_iff_ne.2 hk1'
          have HF : Hid (splitOf c ws = some ps) := by
            show splitOf c ws = _
            unfold splitOf
            rw [if_neg HK4.out, hfin.out]
            simp [hk1']
          have HRD := Lib.hid hrd
          clear hrd hpo hpw hk1'
          go_wp2_with fail
          go_ret2
          exact ⟨_, by rw [HF.out]; rfl, hbx, fun ps' h => by rw [HF.out] at h; cases h; exact HRD.out⟩
end Go.Proofs.Ytoanjgpdepaciaa

namespace Go.Proofs.Ytoanjgpdepaciaa
open Go.RowKit Go.Cb
set_option linter.all false

/-- Lists of variants, and a number. -/
def RetSplit (M : Mut) (w : World) (x : List (List Var) × Int) (e : Ending) (w' : World) : Prop := ∃ r, e = .returned (.tuple #[r, .int .i64 x.2]) ∧ Ext w w' ∧ Varss M w' r x.1
theorem tVarss : ElemT Try.prog 29 22 1 24 := elemT_of (z := .slice none 0 0) Try.underlying29 (by kernel_rfl) rfl (by decide)
theorem evVars : EV 1 (EVal Vars) (VVal Vars) := evVal Vars.mono SlR.one

theorem inParts_step {parts : List (List ByteArray)} {l : List Var} {k : Nat} {x : Var} (hx : l[k]? = some x) : inParts parts (l.drop k) = ((x.acts.all fun s => decide (0 ≤ partOf parts s)) && inParts parts (l.drop (k + 1))) := by
  unfold inParts; rw [drop_at hx]; rfl

/-- make, into slot d, of which the run is known. -/
theorem wpList_mk {P : Program} {ops : Array Oper} {rest : List Oper} {a : Act} {Q : Exit → Act → World → Prop} {w : World} (d : Tmp) (v' : Value) (w' : World) {ty : TypeId} {pos : String} {after : Array Edge} {t : TypeId} {x y : Operand}
    (hr : (Instr.makeSlice t (a.eval x) (a.eval y)).run P w = .ok v' w')
    (h : wpList P ops Q rest (a.put (some d) v') w') : wpList P ops Q (⟨some d, .makeSlice t x y, ty, pos, after, none⟩ :: rest) a w := by
  refine wpList_plain rfl fun K hK => ?_
  unfold Oper.wp execOp
  simp only [Sem.run_bind, Sem.run_pure, Result.andThen_ok, hr]
  exact hK _ _ h
theorem formedB_two {c : Cut} (h : formedB c = true) : 2 ≤ c.parts.length := by
  unfold formedB at h
  simp at h
  omega
theorem inParts_all {parts : List (List ByteArray)} {l : List Var} (h : inParts parts l = true) {x : Var} (hx : x ∈ l) {s : ByteArray} (hs : s ∈ x.acts) : 0 ≤ partOf parts s := by
  unfold inParts at h
  rw [List.all_eq_true] at h
  have := h x hx
  rw [List.all_eq_true] at this
  simpa using this s hs

/-- An element of one cell is read. -/
theorem OwnL.cell1 {α : Type} {base e : Nat} {R : Rd α} {M : Mut} {w : World} {g n cap : Nat} {l : List α} (h : OwnL base e 1 (VVal R) M w (.slice (some ⟨g, 0, none⟩) n cap) l) (hn : n = l.length) {i : Nat} {x : α} (hx : l[i]? = some x) :
    ∃ u, w.cell? ⟨g, i, none⟩ = some u ∧ w.frozen? ⟨g, i, none⟩ = false ∧ R (M.or (ownOf (.slice (some ⟨g, 0, none⟩) n cap))) w u x := by
  subst hn
  obtain ⟨hM, xs, hrow, hel⟩ := h
  obtain ⟨u, hu, hR⟩ := hel i x hx
  have hi := (List.getElem?_eq_some_iff.1 hx).1
  have hxl : xs.length = l.length := by have := hrow.1; omega
  have hxu : xs[i]? = some u := by
    obtain ⟨z, hz⟩ := get_some (show i < xs.length by omega)
    rw [Nat.mul_one, drop_at hz] at hu
    simp at hu
    rw [hz, hu]
  refine ⟨u, ?_, hrow.frozenAt i, hR⟩
  rw [hrow.cellAt i (by omega)]; exact hxu
theorem RowsOk.mono {m n : Nat} {out : List (List Var)} (h : RowsOk m out) (hmn : m ≤ n) : RowsOk n out := fun r hr => ⟨by have := (h r hr).1; omega, fun x hx => by have := (h r hr).2 x hx; omega⟩

set_option maxRecDepth 100000 in
set_option maxHeartbeats 8000000 in
theorem rSplit_c (l : List Var) (c : Cut) (v u : Value) (w : World) {M : Mut} (hM : ∀ b, M b → b < w.heap.size) (hl : Vars M w v l) (hc : CutR M w u c) (hll : l.length ≤ 12) (hla : ∀ x ∈ l, x.acts.length ≤ 15) (hpn : c.parts.length ≤ 10) (hsum : c.parts.flatten.length ≤ 100000) :
    Calls Try.prog 8 #[v, u] w (RetSplit M w (splitR l c)) := by
  obtain ⟨up, rfl, hp, hk1, hk2⟩ := id hc
  obtain ⟨ap, cp, rfl, hpl, hpc, _⟩ := id hp
  obtain ⟨a, cl, rfl, hlc, hcm, hlm, han, hE⟩ := id hl
  have HC := Lib.hid hc
  have HL := Lib.hid hl
  have HM := Lib.hid hM
  have HE := Lib.hid hE
  have HLA := Lib.hid hla
  have HVV : Hid (∀ W, Ext w W → Calls Try.prog 28 #[.slice a l.length cl] W fun e w' => e = .returned (.bool (validVars l)) ∧ Ext W w') := fun W hW => rValidVariants_c l _ W (HL.out.up hW)
  have HFM : Hid (∀ W, Ext w W → Calls Try.prog 29 #[.agg #[.int .i64 c.kind, .slice ap c.parts.length cp]] W fun e w' => e = .returned (.bool (formedB c)) ∧ Ext W w') := fun W hW => rFormed_c c _ W (fun b hb => Nat.lt_of_lt_of_le (HM.out b hb) hW.size) (HC.out.up hW) hsum
  clear hc hp hM hl hE hla han
  obtain ⟨t1, ht1⟩ : ∃ t, validVars l = t := ⟨_, rfl⟩
  obtain ⟨t2, ht2⟩ : ∃ t, formedB c = t := ⟨_, rfl⟩
  rw [ht1] at HVV
  rw [ht2] at HFM
  have HT1 := Lib.hid ht1
  have HT2 := Lib.hid ht2
  clear ht1 ht2
  obtain ⟨w1, hw1⟩ : ∃ w1, w1 = w.alloc (.cells #[.int .i64 c.kind, .slice ap c.parts.length cp] 25) := ⟨_, rfl⟩
  have q0 : w1.cell? ⟨w.heap.size, 0, none⟩ = some (.int .i64 c.kind) := by rw [hw1]; simp
  have q1 : w1.cell? ⟨w.heap.size, 1, none⟩ = some (.slice ap c.parts.length cp) := by rw [hw1]; simp
  have hx1 : Ext w w1 := by rw [hw1]; exact Ext.alloc _ _
  have hs1 : w.heap.size < w1.heap.size := by rw [hw1]; simp
  have HQ0 := Lib.hid q0
  have HQ1 := Lib.hid q1
  have HW1 := Lib.hid hw1
  clear q0 q1 hw1
  cases t1
  · go_enter Try.func8, Try.ntmps8
    go_wp2_with (go_at_call 28; refine (HVV.out _ (Ext.alloc _ _)).mono ?_; rintro e w2 ⟨rfl, he⟩)
    go_ret2
    refine ⟨.slice none 0 0, ?_, (Ext.alloc _ _).tr he, ?_⟩
    · unfold splitR; rw [HT1.out]; rfl
    · unfold splitR; rw [HT1.out]; exact SlR.nil
  cases t2
  · go_enter Try.func8, Try.ntmps8
    go_wp2_with (first | (go_at_call 28; refine (HVV.out _ (Ext.alloc _ _)).mono ?_; rintro e w2 ⟨rfl, he⟩; rw [← HW1.out] at he; have q0 := he.cell HQ0.out; have q1 := he.cell HQ1.out) | (go_at_call 29; refine (HFM.out _ (hx1.tr he)).mono ?_; rintro e w3 ⟨rfl, he3⟩))
    go_ret2
    refine ⟨.slice none 0 0, ?_, hx1.tr (he.tr he3), ?_⟩
    · unfold splitR; rw [HT1.out, HT2.out]; rfl
    · unfold splitR; rw [HT1.out, HT2.out]; exact SlR.nil
  have hp2 := formedB_two HT2.out
  go_enter Try.func8, Try.ntmps8
  go_wp2_with (first | (go_at_call 28; refine (HVV.out _ (Ext.alloc _ _)).mono ?_; rintro e w2 ⟨rfl, he⟩; rw [← HW1.out] at he; have q0 := he.cell HQ0.out; have q1 := he.cell HQ1.out) | (go_at_call 29; refine (HFM.out _ (hx1.tr he)).mono ?_; rintro e w3 ⟨rfl, he3⟩))
  have hx3 : Ext w1 w3 := he.tr he3
  clear q0 q1 he he3 HVV HFM HW1
  go_loopw [6] (fun i wr => ∃ k : Nat, k ≤ l.length ∧ i = .int .i64 k ∧ Ext w1 wr ∧ Hid (inParts c.parts l = inParts c.parts (l.drop k))) (fun i _ => l.length - (intOf i).toNat)
  case atStart => exact ⟨0, by omega, rfl, hx3, by show _ = _; simp⟩
  case round =>
    obtain ⟨k, hk, rfl, hb, hpre⟩ := hrel
    by_cases hlt : k < l.length
    · obtain ⟨x, hx⟩ := get_some hlt
      obtain ⟨b, off, rfl, ⟨ux, ⟨hu, _⟩, hS⟩, _⟩ := HE.out k x hx
      obtain ⟨ax, cx, rfl, hxl, hxc, hxn, han, hEX⟩ := id hS
      have HEX := Lib.hid hEX
      have HX := Lib.hid hx
      have hla := HLA.out x (List.mem_of_getElem? hx)
      have HU := Lib.hid (hx1.cell hu)
      have HSTEP : Hid (inParts c.parts (l.drop k) = ((x.acts.all fun s => decide (0 ≤ partOf c.parts s)) && inParts c.parts (l.drop (k + 1)))) := inParts_step hx
      clear hu hS hx hEX han
      go_wp2_with fail
      go_loopw [7] (fun i wr => ∃ j : Nat, j ≤ x.acts.length ∧ i = .int .i64 j ∧ Ext w1 wr ∧ Hid (∀ s ∈ x.acts.take j, 0 ≤ partOf c.parts s)) (fun i _ => x.acts.length - (intOf i).toNat)
      case atStart => exact ⟨0, by omega, rfl, hb, fun s hs => by simp at hs⟩
      case round =>
        obtain ⟨j, hj, rfl, hbi, hprei⟩ := hrel
        have gu := hbi.cell HU.out
        by_cases hltj : j < x.acts.length
        · obtain ⟨s, hs⟩ := get_some hltj
          obtain ⟨bx, ox, rfl, ⟨⟨hcs, _⟩, hss⟩⟩ := HEX.out j s hs
          rw [Nat.mul_one] at hcs
          have HS := Lib.hid hs; clear hs
          have hxw := hx1.tr hbi
          have gs := hxw.cell hcs
          have q0 := hbi.cell HQ0.out
          have q1 := hbi.cell HQ1.out
          have f0 : ∀ z, (wr.plus z).cell? ⟨w.heap.size, 0, none⟩ = some (.int .i64 c.kind) := fun z => plus_cell q0 z
          have f1 : ∀ z, (wr.plus z).cell? ⟨w.heap.size, 1, none⟩ = some (.slice ap c.parts.length cp) := fun z => plus_cell q1 z
          have f2 : ∀ z, (wr.plus z).cell? ⟨bx, ox + j, none⟩ = some (.string s) := fun z => plus_cell gs z
          have f3 : ∀ z, (wr.plus z).cell? ⟨b, off + k * 2, none⟩ = some (.slice (some ⟨bx, ox, none⟩) x.acts.length cx) := fun z => plus_cell gu z
          obtain ⟨p, hp⟩ : ∃ p, partOf c.parts s = p := ⟨_, rfl⟩
          have hpb := idx_bd (fun x => hasStr x s) c.parts
          rw [show idx (fun x => hasStr x s) c.parts = p from hp] at hpb
          have HPC : Hid (∀ W, Ext w W → Calls Try.prog 30 #[.agg #[.int .i64 c.kind, .slice ap c.parts.length cp], .string s] W fun e w' => e = .returned (.int .i64 p) ∧ Ext W w') := fun W hW => by rw [← hp]; exact rPart_c c s _ W (HC.out.up hW)
          have HP := Lib.hid hp; clear hp
          by_cases hp0 : p < 0
          · have dp : decide (p < 0) = true := by simpa using hp0
            go_wp2_with fail
            refine wp_region_grow (by kernel_rfl) (by kernel_rfl) ?_
            repeat (go_big_quiet_step (first | (go_at_call 30; exact plus_call (HPC.out _ (hxw.tr (plus_ext _ _))))))
            refine wpQuiet_nil ?_
            rintro wq ⟨z, rfl⟩
            go_wp2_with fail
            go_ret2
            have hR : splitR l c = ([], 8) := by
              unfold splitR
              rw [HT1.out, HT2.out, hpre.out, HSTEP.out]
              have : (x.acts.all fun s => decide (0 ≤ partOf c.parts s)) = false := by
                rw [List.all_eq_false]
                exact ⟨s, List.mem_of_getElem? HS.out, by rw [HP.out]; simpa using hp0⟩
              rw [this]
              rfl
            rw [hR]
            exact ⟨.slice none 0 0, rfl, hxw.tr (plus_ext _ _), SlR.nil⟩
          have dp : decide (p < 0) = false := by simpa using hp0
          go_wp2_with fail
          refine wp_region_grow (by kernel_rfl) (by kernel_rfl) ?_
          repeat (go_big_quiet_step (first | (go_at_call 30; exact plus_call (HPC.out _ (hxw.tr (plus_ext _ _))))))
          refine wpQuiet_nil ?_
          rintro wq ⟨z, rfl⟩
          go_wp2_with fail
          go_roundw
          case rel =>
            refine ⟨j + 1, by omega, by go_num, hbi.tr (plus_ext _ _), fun t ht => ?_⟩
            rw [take_snoc HS.out, List.mem_append] at ht
            rcases ht with ht | ht
            · exact hprei.out t ht
            · simp at ht; subst ht; rw [HP.out]; omega
          case measure => simp [intOf]; omega
        · go_wp2_with fail
          go_roundw
          case rel =>
            refine ⟨k + 1, by omega, by go_num, hbi, ?_⟩
            show _ = _
            rw [hpre.out, HSTEP.out]
            have : (x.acts.all fun s => decide (0 ≤ partOf c.parts s)) = true := by
              rw [List.all_eq_true]
              intro t ht
              have := hprei.out t (by rw [List.take_of_length_le (by omega)]; exact ht)
              simpa using this
            rw [this]; rfl
          case measure => simp [intOf]; omega
    have hin : inParts c.parts l = true := by
      rw [hpre.out, List.drop_eq_nil_of_le (by omega : l.length ≤ k)]; rfl
    have HIN := Lib.hid hin
    clear hpre hin
    have q1 := hb.cell HQ1.out
    obtain ⟨w4, hmk, ho4, hx4, hs4⟩ := make_L (M := M) (w := wr) (z := .slice none 0 0) (bytes := 24) tVarss.ht (by kernel_rfl) rfl (V := VVal Vars) c.parts.length [] (fun N W => ⟨_, rfl, SlR.nil⟩) (by omega) (by omega) w1.heap.size hb.size (fun hm => by have := HM.out _ hm; have := hb.size; omega)
    obtain ⟨g, hg⟩ : ∃ g, g = wr.heap.size := ⟨_, rfl⟩
    rw [← hg] at hmk ho4
    have hgb : w1.heap.size ≤ g := by rw [hg]; exact hb.size
    have HMK := Lib.hid hmk
    have hb4 : Ext w1 w4 := hb.tr hx4
    clear hmk hg
    go_wp2_with ((with_reducible refine wpList_mk 54 (.slice (some ⟨g, 0, none⟩) c.parts.length c.parts.length) w4 ?_ ?_); exact HMK.out)
    clear q1 HMK hx4 hs4 hk hlt
    go_loopw [9] (fun i wr => ∃ (k : Nat) (out : List (List Var)), k ≤ l.length ∧ i = .int .i64 k ∧ Ext w1 wr ∧ OwnL w1.heap.size 22 1 (VVal Vars) M wr (.slice (some ⟨g, 0, none⟩) c.parts.length c.parts.length) out ∧ out.length = c.parts.length ∧ Hid (RowsOk (k * 26) out) ∧ Hid (splitAll c (List.replicate c.parts.length []) l = splitAll c out (l.drop k))) (fun i _ => l.length - (intOf i).toNat)
    case atStart => exact ⟨0, List.replicate c.parts.length [], by omega, rfl, hb4, ho4, by simp, rowsOk_rep _, by show _ = _; simp⟩
    case round =>
      obtain ⟨k, out0, hk, rfl, hb, hown, hol, hrk, hpre⟩ := hrel
      clear ho4 hb4
      by_cases hlt : k < l.length
      · obtain ⟨x, hx⟩ := get_some hlt
        obtain ⟨b, off, rfl, ⟨ux, ⟨hu, hum⟩, hS⟩, ⟨hn, hnm⟩, _⟩ := HE.out k x hx
        obtain ⟨ax, cx, rfl, hxl, hxc, hxn, han, hEX⟩ := id hS
        have hla := HLA.out x (List.mem_of_getElem? hx)
        obtain ⟨hcnt0, hcnt1⟩ := okVar_count (validVars_at HT1.out hx)
        have HX := Lib.hid hx
        have hpin : ∀ s ∈ x.acts, 0 ≤ partOf c.parts s := fun s hs => inParts_all HIN.out (List.mem_of_getElem? hx) hs
        have hxw := hx1.tr hb
        have gu := hxw.cell hu
        have q0 := hb.cell HQ0.out
        have q1 := hb.cell HQ1.out
        have hMM : ∀ i, (M.or (ownOf (.slice (some ⟨g, 0, none⟩) c.parts.length c.parts.length))) i → M i ∨ w.heap.size ≤ i := fun i hi => (hown.news i hi).imp_right (fun h => by omega)
        have hgs : g < wr.heap.size := (hown.lt g rfl).2
        have HRS : Hid (∀ W, Ext wr W → Calls Try.prog 31 #[.slice ax x.acts.length cx, .agg #[.int .i64 c.kind, .slice ap c.parts.length cp]] W (RetPieces (M.or (ownOf (.slice (some ⟨g, 0, none⟩) c.parts.length c.parts.length))) W (splitOf c x.acts))) := fun W hW => rsplit_c x.acts c _ _ W (fun b' hb' => by
            have := hW.size; have := hxw.size
            rcases hb' with h | h
            · have := HM.out b' h; omega
            · cases h; exact Nat.lt_of_lt_of_le hgs hW.size) ((Strs.mono.re hS hMM).up (hxw.tr hW)) ((CutR.mono.re HC.out hMM).up (hxw.tr hW)) (by omega) (by omega) hp2 hpin
        have HPIN := Lib.hid hpin
        have HU := Lib.hid gu
        have HN := Lib.hid (hx1.cell hn)
        clear hS hEX hx han hpin hu hn hum hnm
        go_upto_region 15 with fail
        obtain ⟨t, ht⟩ : ∃ t, (splitOf c x.acts).isSome = t := ⟨_, rfl⟩
        have HT := Lib.hid ht; clear ht
        obtain ⟨wd, hwd⟩ : ∃ wd, wd = wr.drew := ⟨_, rfl⟩
        have hxd : Ext wr wd := by rw [hwd]; exact Ext.drew _
        refine wp_region_plan 12 [true, true, true, true, true, true, false, true, true, true, true, true] (fun W' => Ext wr W') (by kernel_rfl) (by kernel_rfl) (Ext.drew _) ?_
        intro hne
        rw [← hwd]
        clear hwd
        have y1 : ∀ y : Cls (fun W' => Ext wr W'), y.wd.cell? ⟨b, off + k * 2, none⟩ = some (.slice ax x.acts.length cx) := fun y => y.ok.cell HU.out
        have y2 : ∀ y : Cls (fun W' => Ext wr W'), y.wd.cell? ⟨w.heap.size, 0, none⟩ = some (.int .i64 c.kind) := fun y => (hb.tr y.ok).cell HQ0.out
        have y3 : ∀ y : Cls (fun W' => Ext wr W'), y.wd.cell? ⟨w.heap.size, 1, none⟩ = some (.slice ap c.parts.length cp) := fun y => (hb.tr y.ok).cell HQ1.out
        refine wpPlan_quiet hne 6 (by kernel_rfl) (by kernel_rfl) (by decide) ?_
        simp only [List.take_succ_cons, List.take_zero, List.drop_succ_cons, List.drop_zero]
        repeat (go_big_quiet_step (fail))
        refine wpQuiet_nil ?_
        clear y1 y2 y3
        refine wpPlan_one ?_
        intro K hK
        go_wp2_with (go_at_call 31; refine (HRS.out _ hxd).mono ?_; rintro e w5 ⟨pv, hee, he5, hps⟩; rw [HT.out] at hee; subst hee)
        refine hK _ _ (.inr (hxd.tr he5)) ?_
        clear hK K
        refine wpPlan_quiet hne 5 (by kernel_rfl) (by kernel_rfl) (by decide) ?_
        simp only [List.take_succ_cons, List.take_zero, List.drop_succ_cons, List.drop_zero]
        repeat (go_big_quiet_step (fail))
        refine wpQuiet_nil ?_
        refine wpPlan_end ?_
        have hx5 : Ext wr w5 := hxd.tr he5
        have hb5 := hb.tr hx5
        have hown5 := hown.up evVars hx5
        clear he5 hxd hne HU gu q0 q1
        cases t
        · go_wp2_with fail
          go_ret2
          have hso : splitOf c x.acts = none := by
            have := HT.out
            cases h : splitOf c x.acts
            · rfl
            · rw [h] at this; cases this
          have hR : splitR l c = ([], 19) := by
            unfold splitR
            rw [HT1.out, HT2.out, HIN.out, hpre.out, drop_at HX.out, splitAll, hso]
            rfl
          rw [hR]
          exact ⟨.slice none 0 0, rfl, hx1.tr hb5, SlR.nil⟩
        obtain ⟨ps, hso⟩ : ∃ ps, splitOf c x.acts = some ps := by
          have := HT.out
          cases h : splitOf c x.acts with
          | none => rw [h] at this; cases this
          | some ps => exact ⟨ps, rfl⟩
        have hps := hps ps hso
        obtain ⟨hpsl, hpsp⟩ := splitOf_ok (by omega) HPIN.out hso
        have HPSP := Lib.hid hpsp
        have HNX : Hid (splitAll c (List.replicate c.parts.length []) l = splitAll c (ps.foldl (putPiece x.count) out0) (l.drop (k + 1))) := by
          show _ = _
          rw [hpre.out, drop_at HX.out, splitAll, hso]
        clear hpsp hso hpre HT HPIN HRS
        obtain ⟨av, cv, rfl, hvl, hvc, hvn, hva, _⟩ := id hps
        have HPS := Lib.hid hps
        clear hps hva hown
        go_wp2_with fail
        go_loopw [12] (fun i wr => ∃ (j : Nat) (out : List (List Var)), j ≤ ps.length ∧ i = .int .i64 j ∧ Ext w1 wr ∧ OwnL w1.heap.size 22 1 (VVal Vars) M wr (.slice (some ⟨g, 0, none⟩) c.parts.length c.parts.length) out ∧ out.length = c.parts.length ∧ Hid (RowsOk (k * 26 + j) out) ∧ Hid (Pieces (M.or (ownOf (.slice (some ⟨g, 0, none⟩) c.parts.length c.parts.length))) wr (.slice av ps.length cv) ps) ∧ Hid (ps.foldl (putPiece x.count) out0 = (ps.drop j).foldl (putPiece x.count) out)) (fun i _ => ps.length - (intOf i).toNat)
        case atStart => exact ⟨0, out0, by omega, rfl, hb5, hown5, hol, hrk, HPS.out, by show _ = _; simp⟩
        case round =>
          obtain ⟨j, out, hj, rfl, hbi, howni, holi, hri, hpi, hprei⟩ := hrel
          by_cases hltj : j < ps.length
          · obtain ⟨p, hp⟩ := get_some hltj
            obtain ⟨m, hm, hmn⟩ : ∃ m : Nat, p.part = m ∧ m < c.parts.length := ⟨p.part.toNat, by have := HPSP.out p (List.mem_of_getElem? hp); omega, by have := HPSP.out p (List.mem_of_getElem? hp); omega⟩
            obtain ⟨_, _, hvv, _, _, _, _, hEP⟩ := hpi.out
            cases hvv
            obtain ⟨bp, op, rfl, ⟨hc1, _⟩, uw, ⟨hc2, _⟩, hSW⟩ := hEP j p hp
            obtain ⟨aw, cw, rfl, _⟩ := id hSW
            obtain ⟨r, hr⟩ := get_some (show m < out.length by omega)
            obtain ⟨ur, hcr, hfr, hVR⟩ := OwnL.cell1 howni holi.symm hr
            obtain ⟨ar, cr, rfl, _⟩ := id hVR
            rw [hm] at hc1
            have hrm := hri.out r (List.mem_of_getElem? hr)
            have hgs : g < wr.heap.size := (howni.lt g rfl).2
            have hcn := hbi.cell HN.out
            have HRA : Hid (∀ W, Ext wr W → Calls Try.prog 32 #[.slice ar r.length cr, .slice aw p.word.length cw, .int .i64 x.count] W (Ret Vars (M.or (ownOf (.slice (some ⟨g, 0, none⟩) c.parts.length c.parts.length))) W (addVar r p.word x.count))) := fun W hW => rAdd_c r p.word x.count _ _ W (fun b' hb' => by
                have := hW.size; have := (hx1.tr hbi).size
                rcases hb' with h | h
                · have := HM.out b' h; omega
                · cases h; exact Nat.lt_of_lt_of_le hgs hW.size) (hVR.up hW) (hSW.up hW) (fun y hy => by have := hrm.2 y hy; omega) (by omega) (by omega) (by have := hrm.1; omega)
            have HC1 := Lib.hid hc1
            have HC2 := Lib.hid hc2
            have HCR := Lib.hid hcr
            have HCN := Lib.hid hcn
            have HFR := Lib.hid hfr
            have HP := Lib.hid hp
            have HRR := Lib.hid hr
            have HMM := Lib.hid hm
            clear hc1 hc2 hcr hcn hp hEP hSW hVR hrm hr hm hfr
            go_upto_region 21 with fail
            obtain ⟨wd, hwd⟩ : ∃ wd, wd = wr.drew := ⟨_, rfl⟩
            have hxd : Ext wr wd := by rw [hwd]; exact Ext.drew _
            refine wp_region_plan 26 [true, true, true, true, true, true, true, true, true, true, true, true, true, true, true, true, true, true, true, true, true, true, true, true, false, false, false] (fun W' => Ext wr W') (by kernel_rfl) (by kernel_rfl) (Ext.drew _) ?_
            intro hne
            rw [← hwd]
            clear hwd
            have y1 : ∀ y : Cls (fun W' => Ext wr W'), y.wd.cell? ⟨bp, op + j * 2, none⟩ = some (.int .i64 (m : Int)) := fun y => y.ok.cell HC1.out
            have y2 : ∀ y : Cls (fun W' => Ext wr W'), y.wd.cell? ⟨bp, op + j * 2 + 1, none⟩ = some (.slice aw p.word.length cw) := fun y => y.ok.cell HC2.out
            have y3 : ∀ y : Cls (fun W' => Ext wr W'), y.wd.cell? ⟨g, m, none⟩ = some (.slice ar r.length cr) := fun y => y.ok.cell HCR.out
            have y4 : ∀ y : Cls (fun W' => Ext wr W'), y.wd.cell? ⟨b, off + k * 2 + 1, none⟩ = some (.int .i64 x.count) := fun y => y.ok.cell HCN.out
            refine wpPlan_quiet hne 24 (by kernel_rfl) (by kernel_rfl) (by decide) ?_
            simp only [List.take_succ_cons, List.take_zero, List.drop_succ_cons, List.drop_zero]
            repeat (go_big_quiet_step (fail))
            refine wpQuiet_nil ?_
            clear y1 y2 y3 y4
            refine wpPlan_one ?_
            intro K hK
            go_wp2_with (go_at_call 32; refine (HRA.out _ hxd).mono ?_; rintro e w6 ⟨rv, rfl, hRV, he6⟩)
            refine hK _ _ (.inr (hxd.tr he6)) ?_
            clear hK K
            refine wpPlan_one ?_
            intro K hK
            go_wp2_with fail
            refine hK _ _ (.inr (hxd.tr he6)) ?_
            clear hK K
            have hx6 : Ext wr w6 := hxd.tr he6
            have hcr6 := hx6.cell HCR.out
            have hfr6 : w6.frozen? ⟨g, m, none⟩ = false := by
              rw [World.frozen?_of_block (w := wr) (a := ⟨g, m, none⟩) (Below.block hx6 g hgs)]; exact HFR.out
            obtain ⟨a6, c6, rfl, _⟩ := id hRV
            have HST := Lib.hid ((howni.up evVars hx6).store1 evVars (i := m) holi.symm (by omega) ⟨_, rfl, hRV⟩)
            have HPI := Lib.hid ((Pieces.up hpi.out hx6))
            have HX6 := Lib.hid (hbi.tr hx6)
            clear hRV he6 hxd hne howni hx6
            refine wpPlan_one ?_
            intro K hK
            go_wp2_with fail
            refine hK _ _ (.inl trivial) ?_
            clear hK K
            refine wpPlan_end ?_
            go_wp2_with fail
            go_roundw
            case rel =>
              have hset := Chg.setCell w6 ⟨g, m, none⟩ (.slice a6 (addVar r p.word x.count).length c6)
              have hput : putPiece x.count out p = out.set m (addVar r p.word x.count) := by
                have := putPiece_some (n := x.count) (out := out) (p := p) (r := r) (by rw [HMM.out]; exact HRR.out)
                rw [this, HMM.out]; rfl
              refine ⟨j + 1, putPiece x.count out p, by omega, by go_num, HX6.out.own hset (fun b' hb' => by cases hb'; exact hgb), ?_, ?_, ?_, ?_, ?_⟩
              · rw [hput]; exact HST.out
              · rw [putPiece_len]; exact holi
              · exact putPiece_ok (by omega) (by omega) hri.out
              · exact Pieces.mono.mv HPI.out (hset.wid fun b' hb' => .inl (.inr (by cases hb'; rfl)))
              · show _ = _
                rw [hprei.out, drop_at HP.out, List.foldl_cons]
            case measure => simp [intOf]; omega
          · go_wp2_with fail
            go_roundw
            case rel =>
              refine ⟨k + 1, out, by omega, by go_num, hbi, howni, holi, RowsOk.mono hri.out (by omega), ?_⟩
              show _ = _
              rw [HNX.out, hprei.out, List.drop_eq_nil_of_le (by omega : ps.length ≤ j)]; rfl
            case measure => simp [intOf]; omega
      have hall : splitAll c (List.replicate c.parts.length []) l = some out0 := by
        rw [hpre.out, List.drop_eq_nil_of_le (by omega : l.length ≤ k)]; rfl
      have HALL := Lib.hid hall
      clear hall hpre
      obtain ⟨w6, hw6⟩ : ∃ w6, w6 = wr := ⟨_, rfl⟩
      have HRD := Lib.hid (hown.rd evVars (by omega))
      rw [← hw6] at HRD hb hown
      go_wp2_with fail
      rw [← hw6]
      clear hw6 hk hlt
      go_loopw [13] (fun i wr => ∃ k : Nat, k ≤ c.parts.length ∧ i = .int .i64 k ∧ Ext w6 wr ∧ Hid (∀ r ∈ out0.take k, bigVars r = false)) (fun i _ => c.parts.length - (intOf i).toNat)
      case atStart => exact ⟨0, by omega, rfl, Ext.rfl' _, fun r hr => by simp at hr⟩
      case round =>
        obtain ⟨k, hk, rfl, hb7, hpre⟩ := hrel
        by_cases hlt : k < c.parts.length
        · obtain ⟨r, hr⟩ := get_some (show k < out0.length by omega)
          obtain ⟨ur, hcr, _, hVR⟩ := OwnL.cell1 hown hol.symm hr
          obtain ⟨ar, cr, rfl, hr1, hr2, hr3, _, hER⟩ := id hVR
          have HER := Lib.hid hER
          have HCR := Lib.hid hcr
          have HRR := Lib.hid hr
          clear hVR hER hcr hr
          go_wp2_with fail
          go_loopw [14] (fun i wr => ∃ j : Nat, j ≤ r.length ∧ i = .int .i64 j ∧ Ext w6 wr ∧ Hid (∀ y ∈ r.take j, decide (1048576 < y.count) = false)) (fun i _ => r.length - (intOf i).toNat)
          case atStart => exact ⟨0, by omega, rfl, hb7, fun y hy => by simp at hy⟩
          case round =>
            obtain ⟨j, hj, rfl, hb8, hprei⟩ := hrel
            have gr := hb8.cell HCR.out
            by_cases hltj : j < r.length
            · obtain ⟨y, hy⟩ := get_some hltj
              obtain ⟨br, or, rfl, _, ⟨hn, _⟩, hyc⟩ := HER.out j y hy
              have gn := hb8.cell hn
              have HY := Lib.hid hy
              clear hn hy
              by_cases hbig : 1048576 < y.count
              · have d1 : decide (1048576 < y.count) = true := by simpa using hbig
                have HBIG := Lib.hid hbig; clear hbig
                go_wp2_with fail
                go_ret2
                have hany : out0.any bigVars = true := by
                  rw [List.any_eq_true]
                  refine ⟨r, List.mem_of_getElem? HRR.out, ?_⟩
                  unfold bigVars
                  rw [List.any_eq_true]
                  exact ⟨y, List.mem_of_getElem? HY.out, by simpa using HBIG.out⟩
                have hR : splitR l c = ([], 6) := by
                  unfold splitR
                  rw [HT1.out, HT2.out, HIN.out, HALL.out]
                  simp only [hany]
                  rfl
                rw [hR]
                exact ⟨.slice none 0 0, rfl, hx1.tr (hb.tr hb8), SlR.nil⟩
              have d1 : decide (1048576 < y.count) = false := by simpa using hbig
              have D1 := Lib.hid d1
              clear hbig
              go_wp2_with fail
              go_roundw
              case rel =>
                refine ⟨j + 1, by omega, by go_num, hb8, fun t ht => ?_⟩
                rw [take_snoc HY.out, List.mem_append] at ht
                rcases ht with ht | ht
                · exact hprei.out t ht
                · simp at ht; subst ht; exact D1.out
              case measure => simp [intOf]; omega
            · go_wp2_with fail
              go_roundw
              case rel =>
                refine ⟨k + 1, by omega, by go_num, hb8, fun t ht => ?_⟩
                rw [take_snoc HRR.out, List.mem_append] at ht
                rcases ht with ht | ht
                · exact hpre.out t ht
                · simp at ht
                  subst ht
                  unfold bigVars
                  rw [List.any_eq_false]
                  intro y hy
                  have := hprei.out y (by rw [List.take_of_length_le (by omega)]; exact hy)
                  simpa using this
              case measure => simp [intOf]; omega
        have hno : out0.any bigVars = false := by
          rw [List.any_eq_false]
          intro r hr
          have := hpre.out r (by rw [List.take_of_length_le (by omega)]; exact hr)
          simpa using this
        have HNO := Lib.hid hno
        clear hpre hno
        go_wp2_with fail
        clear hk hlt
        go_loopw [15] (fun i wr => ∃ k : Nat, k ≤ c.parts.length ∧ i = .int .i64 k ∧ Ext w6 wr ∧ Hid (∀ r ∈ out0.take k, manyVars r = false)) (fun i _ => c.parts.length - (intOf i).toNat)
        case atStart => exact ⟨0, by omega, rfl, hb7, fun r hr => by simp at hr⟩
        case round =>
          obtain ⟨k, hk, rfl, hb9, hpre⟩ := hrel
          by_cases hlt : k < c.parts.length
          · obtain ⟨r, hr⟩ := get_some (show k < out0.length by omega)
            obtain ⟨ur, hcr, _, hVR⟩ := OwnL.cell1 hown hol.symm hr
            obtain ⟨ar, cr, rfl, hr1, hr2, hr3, _, _⟩ := id hVR
            have gr := hb9.cell hcr
            have HRR := Lib.hid hr
            clear hVR hcr hr
            by_cases hm : 300 < r.length
            · have d1 : decide ((300 : Int) < (r.length : Int)) = true := by simp; omega
              go_wp2_with fail
              go_ret2
              have hany : out0.any manyVars = true := by
                rw [List.any_eq_true]
                exact ⟨r, List.mem_of_getElem? HRR.out, by unfold manyVars; simpa using hm⟩
              have hR : splitR l c = ([], 5) := by
                unfold splitR
                rw [HT1.out, HT2.out, HIN.out, HALL.out]
                simp only [hany, HNO.out]
                rfl
              rw [hR]
              exact ⟨.slice none 0 0, rfl, hx1.tr (hb.tr hb9), SlR.nil⟩
            have d1 : decide ((300 : Int) < (r.length : Int)) = false := by simp; omega
            go_wp2_with fail
            go_roundw
            case rel =>
              refine ⟨k + 1, by omega, by go_num, hb9, fun t ht => ?_⟩
              rw [take_snoc HRR.out, List.mem_append] at ht
              rcases ht with ht | ht
              · exact hpre.out t ht
              · simp at ht
                subst ht
                unfold manyVars
                simpa using hm
            case measure => simp [intOf]; omega
          have hno : out0.any manyVars = false := by
            rw [List.any_eq_false]
            intro r hr
            have := hpre.out r (by rw [List.take_of_length_le (by omega)]; exact hr)
            simpa using this
          have HNO2 := Lib.hid hno
          clear hpre hno
          go_wp2_with fail
          go_ret2
          have hR : splitR l c = (out0, 0) := by
            unfold splitR
            rw [HT1.out, HT2.out, HIN.out, HALL.out]
            simp only [HNO2.out, HNO.out]
            rfl
          rw [hR]
          exact ⟨_, rfl, hx1.tr (hb.tr hb9), Varss.up HRD.out hb9⟩
end Go.Proofs.Ytoanjgpdepaciaa
