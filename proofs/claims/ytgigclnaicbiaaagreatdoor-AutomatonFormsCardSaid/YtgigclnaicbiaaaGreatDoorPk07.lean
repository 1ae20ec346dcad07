/-
  Walks: awake (layer 7).
  The engine, last part: arguments of whatever shape, as they came in, read as plain data; and the frame of a law's row. No program in sight.
  The engine: a struct of five fields read as an argument. No program in sight.
  How the arguments of the laws read; what is handed back, as one automaton and one number; the law on Minimal and Complement (layer 7).
  Walks: which words an automaton accepts.
  The law AutomatonForms: Valid and Accepts return what the reference does, whatever the automaton and the word.
-/
import Derived.WalkKit
import Derived.ProofKit
import Derived.OpenShut
import Derived.ShutString
import Derived.ChangeOld
import Derived.Below
import Derived.Carry
import Derived.Deep.Slices
import Derived.Test.YtgigclnaicbiaaaGreatDoorPk06
import Derived.Test.YtgigclnaicbiaaaGreatDoorPk03
import Derived.Test.YtgigclnaicbiaaaGreatDoorPk04
import Derived.Test.YtgigclnaicbiaaaGreatDoorPk02
import Derived.Test.YtgigclnaicbiaaaGreatDoorPk05
namespace Go.Proofs.YtgigclnaicbiaaaGreatDoor
open Go.RowKit Go.Cb Go.En
set_option linter.all false
set_option maxRecDepth 100000

theorem tAgg25_LfU : AggT Tryz.prog 25 5 = true := by kernel_rfl
theorem tEl22_LfU : ElT Tryz.prog 22 3 1 8 (.int .i64 0) := ⟨Tryz.underlying22, by kernel_rfl, rfl, by decide⟩
theorem tEl23_LfU : ElT Tryz.prog 23 72 3 24 (.agg #[(.int .i64 0), (.int .i64 0), (.int .i64 0)]) := ⟨Tryz.underlying23, by kernel_rfl, rfl, by decide⟩
theorem tEl28_LfU : ElT Tryz.prog 28 22 1 24 (.slice none 0 0) := ⟨Tryz.underlying28, by kernel_rfl, rfl, by decide⟩
theorem tFl25_4_LfU : FldT Tryz.prog 25 4 4 = true := by kernel_rfl
theorem tNa23_LfU : NoAgg Tryz.prog 23 = true := by kernel_rfl
theorem tSl22_LfU : SlT Tryz.prog 22 3 1 = true := by kernel_rfl
theorem tSt72_LfU : stInfo Tryz.prog 72 = some ((.agg #[(.int .i64 0), (.int .i64 0), (.int .i64 0)]), ([0, 1, 2] : List Nat).map fun o => (o, 1)) := by kernel_rfl
theorem tZr25_LfU : ZeroT Tryz.prog 25 (.agg #[(.int .i64 0), (.int .i64 0), (.slice none 0 0), (.slice none 0 0), (.slice none 0 0)]) := by unfold ZeroT; kernel_rfl

theorem ex07_words : AF Tryz.prog 15 [pAut ex07, pInt 2] (· = .tup [pIntss [[1], [0, 1], [1, 1]], pInt 0]) := (aWords_e ex07 2).mono fun p hp => by
  rcases hp with ⟨h, _⟩ | ⟨_, h, _⟩ | ⟨_, _, _, h, _⟩ | ⟨_, _, _, _, h⟩
  · rw [ex07_ok] at h; cases h
  · omega
  · rw [bigI_eq, ex07_far, show (2 : Int).toNat = 2 from rfl, ex07_big] at h; cases h
  · rw [h, sumI_eq, ex07_far, show (2 : Int).toNat = 2 from rfl, ex07_sum]
theorem ex07_minE : AF Tryz.prog 26 [pAut ex07] (· = .tup [pAut ex07M, pInt 0]) := by
  have := aMinimalW_e ex07
  rw [ex07_minX] at this; exact this
theorem ex07_starE : AF Tryz.prog 44 [pAut ex07] (· = .tup [pAut ex07S, pInt 0]) := by
  have := aStar_e ex07
  rw [ex07_star] at this; exact this
theorem ex07_eqS : AF Tryz.prog 33 [pAut ex07, pAut ex07S] (· = .tup [pBool false, pInts [], pInt 0]) := by
  have := aEquivalent_e ex07 ex07S
  rw [ex07_cmpS] at this; exact this
theorem ex07_eqM : AF Tryz.prog 33 [pAut ex07, pAut ex07M] (· = .tup [pBool true, pInts [], pInt 0]) := by
  have := aEquivalent_e ex07 ex07M
  rw [ex07_cmpM] at this; exact this
set_option maxHeartbeats 2000000 in
theorem awake07_e : AF Tryz.prog 13 [] (· = pBool true) := by
  refine AF.of_body 94 Tryz.func13 rfl Tryz.ntmps13 (Nat.le_of_ble_eq_true rfl) ?_
  intro w0 M0 vs hl hv
  obtain rfl := List.eq_nil_of_length_eq_zero hl
  clear hl hv
  refine nav ?_
  (refine aC_region ?_
    <;> refine xL 0 q_assign ?_
    <;> refine aL_end (nav ?_) <;> try dsimp only)
  (refine aC_region ?_
    <;> (refine cD 15 (cA Tryz.call53 (ends07_e)) fun v15 hv15 => ?_; clear hv15)
    <;> refine s_alloc [(.int .i64 0), (.int .i64 0), (.slice none 0 0), (.slice none 0 0), (.slice none 0 0)] 5 1 tZr25_LfU fun h1 => ?_
    <;> refine s_sta 1 tAgg25_LfU ?_
    <;> refine aL_end (nav ?_) <;> try dsimp only)
  (refine aC_region ?_
    <;> (refine yL 17 (q_ldao 1 tAgg25_LfU) fun v17 hv17 => ?_; cases hv17)
    <;> (refine cP 18 (cA Tryz.call26 (ex07_minE)) fun va18 vb18 hva18 hvb18 => ?_; cases hvb18)
    <;> refine xL 16 q_move ?_
    <;> refine xL 19 q_extract ?_
    <;> refine xL 20 q_extract ?_
    <;> refine s_alloc [(.int .i64 0), (.int .i64 0), (.slice none 0 0), (.slice none 0 0), (.slice none 0 0)] 5 2 tZr25_LfU fun h2 => ?_
    <;> refine s_sta 2 tAgg25_LfU ?_
    <;> refine xL 3 q_assign ?_
    <;> refine aL_end (nav ?_) <;> try dsimp only)
  (refine aC_region ?_
    <;> (refine yL 22 (q_ldao 1 tAgg25_LfU) fun v22 hv22 => ?_; cases hv22)
    <;> (refine cP 23 (cA Tryz.call15 (ex07_words)) fun va23 vb23 hva23 hvb23 => ?_; cases hvb23)
    <;> refine xL 21 q_move ?_
    <;> refine xL 24 q_extract ?_
    <;> refine xL 25 q_extract ?_
    <;> refine xL 4 q_assign ?_
    <;> refine xL 5 q_assign ?_
    <;> refine aL_end (nav ?_) <;> try dsimp only)
  (refine aC_region ?_
    <;> (refine yL 27 (q_ldao 1 tAgg25_LfU) fun v27 hv27 => ?_; cases hv27)
    <;> (refine cP 28 (cA Tryz.call44 (ex07_starE)) fun va28 vb28 hva28 hvb28 => ?_; cases hvb28)
    <;> refine xL 26 q_move ?_
    <;> refine xL 29 q_extract ?_
    <;> refine xL 30 q_extract ?_
    <;> refine s_alloc [(.int .i64 0), (.int .i64 0), (.slice none 0 0), (.slice none 0 0), (.slice none 0 0)] 5 6 tZr25_LfU fun h6 => ?_
    <;> refine s_sta 6 tAgg25_LfU ?_
    <;> refine xL 7 q_assign ?_
    <;> refine aL_end (nav ?_) <;> try dsimp only)
  (refine aC_region ?_
    <;> (refine yL 32 (q_ldao 1 tAgg25_LfU) fun v32 hv32 => ?_; cases hv32)
    <;> (refine yL 33 (q_ldao 6 tAgg25_LfU) fun v33 hv33 => ?_; cases hv33)
    <;> (refine cPx3 34 (cA Tryz.call33 ex07_eqS) fun va34 vb34 vc34 hva34 hvb34 hvc34 => ?_; cases hva34; cases hvc34)
    <;> refine xL 31 q_move ?_
    <;> refine xL 35 q_extract ?_
    <;> refine xL 36 q_extract ?_
    <;> refine xL 37 q_extract ?_
    <;> refine xL 8 q_assign ?_
    <;> refine xL 9 q_assign ?_
    <;> refine xL 10 q_assign ?_
    <;> refine aL_end (nav ?_) <;> try dsimp only)
  (refine aC_region ?_
    <;> (refine yL 39 (q_ldao 1 tAgg25_LfU) fun v39 hv39 => ?_; cases hv39)
    <;> (refine yL 40 (q_ldao 2 tAgg25_LfU) fun v40 hv40 => ?_; cases hv40)
    <;> (refine cPx3 41 (cA Tryz.call33 ex07_eqM) fun va41 vb41 vc41 hva41 hvb41 hvc41 => ?_; cases hva41; cases hvc41)
    <;> refine xL 38 q_move ?_
    <;> refine xL 42 q_extract ?_
    <;> refine xL 43 q_extract ?_
    <;> refine xL 44 q_extract ?_
    <;> refine xL 11 q_assign ?_
    <;> refine xL 12 q_assign ?_
    <;> refine xL 13 q_assign ?_
    <;> refine aL_end (nav ?_) <;> try dsimp only)
  (refine aC_region ?_
    <;> refine xL 45 (q_build tSt72_LfU) ?_
    <;> refine xL 46 (q_build tSt72_LfU) ?_
    <;> refine xL 47 (q_build tSt72_LfU) ?_
    <;> refine xL 48 (q_build tSt72_LfU) ?_
    <;> (refine s_lita (kk := 3) (xs := [_, _, _, _]) (cs := [[_, _, _], [_, _, _], [_, _, _], [_, _, _]]) 49 tEl23_LfU fun h49 ho49 => ?_; refine aL_ent (En.freeze (l := 49) (t := 49) rfl rfl) fun _ => ?_; refine aL_ent (reslot (t := 49) (p' := pMvs ex07M.moves) rfl rfl) fun _ => ?_)
    <;> refine xL 14 q_assign ?_
    <;> refine aL_end (nav ?_) <;> try dsimp only)
  (refine aC_region ?_
    <;> refine xL 50 q_move ?_
    <;> refine xL 51 q_eql ?_
    <;> refine xL 52 q_move ?_
    <;> refine xL 53 (q_fldo 2 tFl25_4_LfU) ?_
    <;> (refine yL 54 (q_ldo 2 tNa23_LfU) fun v54 hv54 => ?_; cases hv54)
    <;> refine xL 55 q_move ?_
    <;> (refine cS 56 (cA Tryz.call54 ((sEqualMv_e ex07M.moves ex07M.moves).mono (R' := (· = pBool true)) fun p hp => by rw [hp]; rfl)) fun v56 hv56 => ?_; cases hv56)
    <;> refine xL 57 q_pick ?_
    <;> refine xL 58 q_move ?_
    <;> refine xL 59 q_move ?_
    <;> refine xL 60 q_eql ?_
    <;> refine xL 61 q_pick ?_
    <;> refine xL 62 q_move ?_
    <;> refine xL 63 q_move ?_
    <;> (refine s_lit1 (kk := 1) 64 tEl22_LfU fun h64 ho64 => ?_; refine aL_ent (En.freeze (l := 64) (t := 64) rfl rfl) fun _ => ?_; refine aL_ent (reslot (t := 64) (p' := pInts [1]) rfl rfl) fun _ => ?_)
    <;> (refine s_litn (xs := [_, _]) 65 tEl22_LfU fun h65 ho65 => ?_; refine aL_ent (En.freeze (l := 65) (t := 65) rfl rfl) fun _ => ?_; refine aL_ent (reslot (t := 65) (p' := pInts [0, 1]) rfl rfl) fun _ => ?_)
    <;> (refine s_litn (xs := [_, _]) 66 tEl22_LfU fun h66 ho66 => ?_; refine aL_ent (En.freeze (l := 66) (t := 66) rfl rfl) fun _ => ?_; refine aL_ent (reslot (t := 66) (p' := pInts [1, 1]) rfl rfl) fun _ => ?_)
    <;> (refine s_litn (xs := [_, _, _]) 67 tEl28_LfU fun h67 ho67 => ?_; refine aL_ent (En.freeze (l := 67) (t := 67) rfl rfl) fun _ => ?_; refine aL_ent (reslot (t := 67) (p' := pIntss [[1], [0, 1], [1, 1]]) rfl rfl) fun _ => ?_)
    <;> (refine cS 68 (cA Tryz.call55 ((sEqualFuncInts_e [[1], [0, 1], [1, 1]] [[1], [0, 1], [1, 1]]).mono (R' := (· = pBool true)) fun p hp => by rw [hp]; rfl)) fun v68 hv68 => ?_; cases hv68)
    <;> refine xL 69 q_pick ?_
    <;> refine xL 70 q_move ?_
    <;> refine xL 71 q_move ?_
    <;> refine xL 72 q_eql ?_
    <;> refine xL 73 q_pick ?_
    <;> refine xL 74 q_move ?_
    <;> refine xL 75 q_move ?_
    <;> refine xL 76 q_eql ?_
    <;> refine xL 77 q_pick ?_
    <;> refine xL 78 q_move ?_
    <;> refine xL 79 q_move ?_
    <;> refine xL 80 q_not ?_
    <;> refine xL 81 q_pick ?_
    <;> refine xL 82 q_move ?_
    <;> refine xL 83 q_move ?_
    <;> refine xL 84 (q_len tSl22_LfU) ?_
    <;> refine xL 85 q_eql ?_
    <;> refine xL 86 q_pick ?_
    <;> refine xL 87 q_move ?_
    <;> refine xL 88 q_move ?_
    <;> refine xL 89 q_eql ?_
    <;> refine xL 90 q_pick ?_
    <;> refine xL 91 q_move ?_
    <;> refine xL 92 q_move ?_
    <;> refine xL 93 q_pick ?_
    <;> refine xL 0 q_assign ?_
    <;> refine aL_end (nav ?_) <;> try dsimp only) <;> (
   refine ret_shr (Tryz.results13) rfl rfl)
end Go.Proofs.YtgigclnaicbiaaaGreatDoor

namespace Go.En
open Go.RowKit Go.Cb Go.WideShapes Go.ChangeShapes Go.ChangeAt Go.Deep
set_option linter.all false

theorem weightsAll_mem {H : Type} (P : Program) (e : TypeId) {d : DataW H} {n : Nat} : ∀ {l : List (DataW H)}, d ∈ l → n ∈ d.weights P e → n ∈ DataW.weightsAll P e l
  | x :: l, h, hn => by
    rw [DataW.weightsAll, List.mem_append]
    rcases List.mem_cons.1 h with rfl | h
    · exact .inl hn
    · exact .inr (weightsAll_mem P e h hn)
theorem weightsEach_mem {H : Type} (P : Program) {d : DataW H} {t : TypeId} {n : Nat} : ∀ {ts : List TypeId} {l : List (DataW H)} (i : Nat), ts[i]? = some t → l[i]? = some d → n ∈ d.weights P t → n ∈ DataW.weightsEach P ts l
  | t' :: ts, x :: l, 0, h1, h2, hn => by
    simp at h1 h2
    subst h1 h2
    rw [DataW.weightsEach, List.mem_append]
    exact .inl hn
  | t' :: ts, x :: l, i + 1, h1, h2, hn => by
    rw [DataW.weightsEach, List.mem_append]
    exact .inr (weightsEach_mem P i (by simpa using h1) (by simpa using h2) hn)
structure Dec (P : Program) (t : TypeId) (k : Nat) {α : Type} (enc : α → List PV) (fit : α → Prop) : Prop where
  size : P.cellsOf t = k
  len : ∀ a, (enc a).length = k
  dec : ∀ {H : Type} (e : TypeId × Value → H) (w : World) (spare : Nat → Bool) (held : Bool) (fuel : Nat) (cs : List Value) (x : DataW H × List MemPlace), DataW.trod e P w 0 spare held fuel t cs = some x → (∀ n ∈ x.1.weights P t, n ≤ reachBytes) →
    ∃ a, fit a ∧ cs.length = k ∧ ∀ (i : Nat) (v : Value) (p : PV), cs[i]? = some v → (enc a)[i]? = some p → Shr (fun _ => False) w v p
section
variable {P : Program} {t : TypeId}
theorem one_at {v u : Value} {p q : PV} {w : World} (h : Shr (fun _ => False) w v p) (i : Nat) (h1 : [v][i]? = some u) (h2 : [p][i]? = some q) : Shr (fun _ => False) w u q := by
  cases i with
  | zero => simp at h1 h2; subst h1 h2; exact h
  | succ i => simp at h1
theorem dec_int (ht : P.underlying t = some (.int .i64)) (hs : P.cellsOf t = 1) : Dec P t 1 (fun n : Int => [pInt n]) (fun n => -9223372036854775808 ≤ n ∧ n ≤ 9223372036854775807) where
  size := hs
  len := fun _ => rfl
  dec := fun e w spare held fuel cs x h => by
    intro hwt
    obtain ⟨n, rfl, _, hw⟩ := DataW.trod_int ht h
    refine ⟨n, ?_, rfl, fun i v p h1 h2 => one_at (.val _) i h1 h2⟩
    simpa [Lit.wf, IntKind.min, IntKind.max, IntKind.signed, IntKind.bits] using hw
theorem dec_slice {α : Type} {e k : Nat} {enc : α → List PV} {fit : α → Prop} (ht : P.underlying t = some (.slice e)) (hs : P.cellsOf t = 1) (hk : 0 < k) (hby : 0 < P.bytesOf e) (D : Dec P e k enc fit) :
    Dec P t 1 (fun l : List α => [PV.sl l.length (l.flatMap enc)]) (fun l => l.length ≤ 140737488355328 ∧ ∀ x ∈ l, fit x) where
  size := hs
  len := fun _ => rfl
  dec := fun en w spare held fuel cs x h => by
    intro hwt
    rcases open_slice ht h with ⟨rfl, _⟩ | ⟨a, len, cap, m, n, Dt, Pl, rfl, _, hl, hm, hmm, rfl, hx⟩
    · exact ⟨[], ⟨by simp, by simp⟩, rfl, fun i v p h1 h2 => one_at (.emp none 0 (by unfold maxLen; omega) (fun _ => rfl)) i h1 h2⟩
    · rcases Nat.eq_zero_or_pos len with h0 | h0
      · subst h0
        exact ⟨[], ⟨by simp, by simp⟩, rfl, fun i v p h1 h2 => one_at (.emp (some a) cap hm (fun h => by cases h)) i h1 h2⟩
      have hlm : len ≤ m := by rw [hmm]; split <;> omega
      simp only [DataW.weights, ht] at hwt
      have hlen : len ≤ reachBytes := by
        have := hwt _ (List.mem_cons_self ..)
        simp only [List.length_map, List.length_range] at this
        exact Nat.le_trans (Nat.le_trans (Nat.le_add_right len _) (Nat.le_mul_of_pos_right _ hby)) this
      have hwi : ∀ i, i < len → ∀ n ∈ (Dt i).weights P e, n ≤ reachBytes := fun i hi n hn => hwt n (List.mem_cons_of_mem _ (List.mem_append.2 (.inl (weightsAll_mem P e (List.mem_map.2 ⟨i, by simpa using hi, rfl⟩) hn))))
      have key : ∀ i : Nat, ∃ (y : α × (Nat → Value)), i < len → fit y.1 ∧ ∀ (j : Nat) (p : PV), (enc y.1)[j]? = some p → w.cell? ((a.add (i * k)).add j) = some (y.2 j) ∧ Shr (fun _ => False) w (y.2 j) p := fun i => by
        obtain ⟨cs0, h10, h20⟩ := hx 0 (by omega)
        obtain ⟨y0, _⟩ := D.dec en w spare held n cs0 _ h20 (hwi 0 h0)
        by_cases hi : i < len
        · obtain ⟨cs', h1, h2⟩ := hx i (by omega)
          rw [D.size] at h1
          obtain ⟨_, hlen, hcell⟩ := World.cells?_some h1
          obtain ⟨y, hy, _, hS⟩ := D.dec en w spare held n cs' _ h2 (hwi i hi)
          refine ⟨(y, fun j => (cs'[j]?).getD undef), fun _ => ⟨hy, fun j p hp => ?_⟩⟩
          have hj : j < k := by rw [← D.len y]; exact lt_of_get hp
          obtain ⟨u, hu⟩ := get_of_lt (show j < cs'.length by omega)
          have := hcell j hj
          simp only [hu, Option.getD_some]
          exact ⟨by rw [this, hu], hS j u p hu hp⟩
        · exact ⟨(y0, fun _ => undef), fun h => absurd h hi⟩
      obtain ⟨Y, hY⟩ := Classical.skolem.1 key
      have hspot : ∃ b off, a = ⟨b, off, none⟩ := by
        obtain ⟨hf, hc⟩ := hY 0 h0
        obtain ⟨p, hp⟩ := get_of_lt (show 0 < (enc (Y 0).1).length by rw [D.len]; exact hk)
        have := (hc 0 p hp).1
        obtain ⟨b, off, spot⟩ := a
        have hspot : spot = none := by simpa [Addr.add] using World.cell?_spot this
        subst hspot
        exact ⟨b, off, rfl⟩
      obtain ⟨b, off, rfl⟩ := hspot
      have hflen : ((List.range len).map fun i => (Y i).1).length = len := by simp
      refine ⟨(List.range len).map fun i => (Y i).1, ⟨by rw [hflen]; unfold reachBytes at hlen; omega, fun x hx => ?_⟩, rfl, fun i v p h1 h2 => one_at ?_ i h1 h2⟩
      · obtain ⟨i, hi, rfl⟩ := List.mem_map.1 hx
        exact (hY i (by simpa using hi)).1
      · rw [hflen]
        have hat : ∀ (c : Nat) (p : PV), (((List.range len).map fun i => (Y i).1).flatMap enc)[c]? = some p → c / k < len ∧ (enc (Y (c / k)).1)[c % k]? = some p := fun c p hp => by
          have hc : c < len * k := by have := lt_of_get hp; rw [flat_len D.len, hflen] at this; exact this
          have hq : c / k < len := Nat.div_lt_of_lt_mul (by rw [Nat.mul_comm]; exact hc)
          have hget : ((List.range len).map fun i => (Y i).1)[c / k]? = some (Y (c / k)).1 := by simp [hq]
          have := flat_at D.len hget (Nat.mod_lt c hk)
          rw [Nat.mul_comm, Nat.div_add_mod] at this
          exact ⟨hq, by rw [← this]; exact hp⟩
        refine .sl b off len cap _ (fun c => (Y (c / k)).2 (c % k)) hl hm (fun c hc => ⟨?_, fun h => h⟩) (fun c p hp => ?_)
        · obtain ⟨p, hp⟩ := get_of_lt hc
          obtain ⟨hq, hp'⟩ := hat c p hp
          have := ((hY (c / k) hq).2 (c % k) p hp').1
          rw [add_none, add_none, Nat.add_assoc, Nat.mul_comm, Nat.div_add_mod] at this
          exact this
        · obtain ⟨hq, hp'⟩ := hat c p hp
          exact ((hY (c / k) hq).2 (c % k) p hp').2
theorem dec_field {H : Type} {α : Type} {e k o : Nat} {enc : α → List PV} {fit : α → Prop} (D : Dec P e k enc fit) {en : TypeId × Value → H} {w : World} {spare : Nat → Bool} {held : Bool} {n : Nat} {cs : List Value} {y : DataW H × List MemPlace}
    (h : DataW.trod en P w 0 spare held n e ((cs.drop o).take (P.cellsOf e)) = some y) (hwt : ∀ n ∈ y.1.weights P e, n ≤ reachBytes) : ∃ a, fit a ∧ ∀ (i : Nat) (v : Value) (p : PV), cs[o + i]? = some v → (enc a)[i]? = some p → Shr (fun _ => False) w v p := by
  obtain ⟨a, h1, _, h3⟩ := D.dec en w spare held n _ y h hwt
  refine ⟨a, h1, fun i v p hv hp => h3 i v p ?_ hp⟩
  have hi : i < k := by rw [← D.len a]; exact lt_of_get hp
  rw [D.size, List.getElem?_take_of_lt hi, List.getElem?_drop]; exact hv
theorem dec_map {α β : Type} {k : Nat} {enc : α → List PV} {enc' : β → List PV} {fit : α → Prop} {fit' : β → Prop} (g : α → β) (D : Dec P t k enc fit) (hl : ∀ b, (enc' b).length = k) (he : ∀ a, enc' (g a) = enc a) (h : ∀ a, fit a → fit' (g a)) : Dec P t k enc' fit' :=
  ⟨D.size, hl, fun e w s hd f cs x hx hy => let ⟨a, h1, h2, h3⟩ := D.dec e w s hd f cs x hx hy; ⟨g a, h a h1, h2, by rw [he]; exact h3⟩⟩
theorem split_at {cs : List Value} {A B : List PV} {k : Nat} {w : World} (hA : A.length = k) (h1 : ∀ (i : Nat) (v : Value) (p : PV), cs[i]? = some v → A[i]? = some p → Shr (fun _ => False) w v p)
    (h2 : ∀ (i : Nat) (v : Value) (p : PV), cs[k + i]? = some v → B[i]? = some p → Shr (fun _ => False) w v p) (i : Nat) (v : Value) (p : PV) (hv : cs[i]? = some v) (hp : (A ++ B)[i]? = some p) : Shr (fun _ => False) w v p := by
  rcases Nat.lt_or_ge i k with h | h
  · rw [List.getElem?_append_left (by omega)] at hp; exact h1 i v p hv hp
  · rw [List.getElem?_append_right (by omega)] at hp
    exact h2 (i - k) v p (by rw [Nat.add_sub_cancel' h]; exact hv) (by rw [← hA]; exact hp)
theorem dec_struct3 {α β γ : Type} {f0 f1 f2 : Field} {k0 k1 k2 : Nat} {enc0 : α → List PV} {enc1 : β → List PV} {enc2 : γ → List PV} {fit0 : α → Prop} {fit1 : β → Prop} {fit2 : γ → Prop} (ht : P.underlying t = some (.struct #[f0, f1, f2])) (hs : P.cellsOf t = k0 + k1 + k2)
    (D0 : Dec P f0.type k0 enc0 fit0) (D1 : Dec P f1.type k1 enc1 fit1) (D2 : Dec P f2.type k2 enc2 fit2) (ho0 : f0.offset = 0) (ho1 : f1.offset = k0) (ho2 : f2.offset = k0 + k1) :
    Dec P t (k0 + k1 + k2) (fun x : α × β × γ => enc0 x.1 ++ (enc1 x.2.1 ++ enc2 x.2.2)) (fun x => fit0 x.1 ∧ fit1 x.2.1 ∧ fit2 x.2.2) where
  size := hs
  len := fun x => by rw [List.length_append, List.length_append, D0.len, D1.len, D2.len]; omega
  dec := fun e w spare held fuel cs x h => by
    intro hwt
    obtain ⟨xs, n, _, rfl, hlen, hxl, hf⟩ := DataW.trod_struct ht h
    simp only [DataW.weights, ht] at hwt
    have g0 := hf 0 f0 rfl
    have g1 := hf 1 f1 rfl
    have g2 := hf 2 f2 rfl
    match xs, hxl with
    | [y0, y1, y2], _ =>
    rw [ho0] at g0
    rw [ho1] at g1
    rw [ho2] at g2
    obtain ⟨a, ha, A⟩ := dec_field D0 g0 (fun n hn => hwt n (weightsEach_mem P 0 (by simp) (by simp) hn))
    obtain ⟨b, hb, B⟩ := dec_field D1 g1 (fun n hn => hwt n (weightsEach_mem P 1 (by simp) (by simp) hn))
    obtain ⟨c, hc, C⟩ := dec_field D2 g2 (fun n hn => hwt n (weightsEach_mem P 2 (by simp) (by simp) hn))
    refine ⟨(a, b, c), ⟨ha, hb, hc⟩, by rw [hlen, hs], split_at (D0.len a) (fun i v p hv hp => A i v p (by rw [Nat.zero_add]; exact hv) hp) fun i v p hv hp => ?_⟩
    exact split_at (cs := cs.drop k0) (D1.len b) (fun i v p hv hp => B i v p (by rw [List.getElem?_drop] at hv; exact hv) hp) (fun i v p hv hp => C i v p (by rw [List.getElem?_drop, ← Nat.add_assoc] at hv; exact hv) hp) i v p (by rw [List.getElem?_drop]; exact hv) hp
section
variable {H : Type} {en : TypeId × Value → H} {w : World} {spare : Nat → Bool} {held : Bool} {r : Reach} {base : Nat} {v : Value} {d : DataW H} {ps : List MemPlace}
theorem okWide_one (hT : NoAgg P t = true) (h : Value.okWide P w r base t v) : v.cells = #[v] := by
  unfold NoAgg at hT
  unfold Value.okWide at h
  cases v <;> first | rfl | skip
  rename_i cs
  exfalso
  cases hu : P.underlying t with
  | none => rw [hu] at hT; simp at hT
  | some dd =>
    rw [hu] at hT h
    cases dd <;> simp_all [Cell.okWide, Cell.ok]
theorem arg1 {α : Type} {f : α → PV} {fit : α → Prop} (D : Dec P t 1 (fun a => [f a]) fit) (hT : NoAgg P t = true) (hv : Value.okWide P w r base t v) (h : DataW.Trod en P w 0 spare held t v d ps) (hwt : ∀ n ∈ d.weights P t, n ≤ reachBytes) : ∃ a, fit a ∧ Shr (fun _ => False) w v (f a) := by
  obtain ⟨fuel, hf⟩ := h
  rw [okWide_one hT hv] at hf
  obtain ⟨a, h1, _, h3⟩ := D.dec en w spare held fuel _ _ hf hwt
  exact ⟨a, h1, h3 0 v (f a) rfl rfl⟩
theorem argA {α : Type} {k : Nat} {enc : α → List PV} {fit : α → Prop} (D : Dec P t k enc fit) (hT : StrT P t = true) (hv : Value.okWide P w r base t v) (h : DataW.Trod en P w 0 spare held t v d ps) (hwt : ∀ n ∈ d.weights P t, n ≤ reachBytes) : ∃ a, fit a ∧ Shr (fun _ => False) w v (.agg (enc a)) := by
  obtain ⟨fuel, hf⟩ := h
  have : ∃ fs, P.underlying t = some (.struct fs) := by
    unfold StrT at hT
    split at hT
    · rename_i fs hfs; exact ⟨fs, hfs⟩
    · cases hT
  obtain ⟨fs, hfs⟩ := this
  obtain ⟨cs, rfl, hsz⟩ := okWide_struct hfs hv
  obtain ⟨a, h1, h2, h3⟩ := D.dec en w spare held fuel _ _ hf hwt
  refine ⟨a, h1, ?_⟩
  have := Shr.agg (M := fun _ => False) (w := w) cs.toList (enc a) (by rw [D.len a]; exact h2) h3
  simpa using this
end
theorem trodAll_back {H : Type} {enc : TypeId × Value → H} {P : Program} (hl : laidOutB P = true) {W W' : World} (hb : Below W.heap.size W W') : ∀ {ts : List TypeId} {vs : List Value} {ds : List (DataW H)} {ps : List MemPlace}, (ts.all fun t => P.readableRec t && decide (t < P.types.size)) = true →
    DataW.TrodAll enc P W 0 (fun _ => true) true ts vs ds ps → DataW.TrodAll enc P W' 0 (fun b => decide (b < W.heap.size)) true ts vs ds ps
  | [], [], [], ps, _, h => h
  | t :: ts, v :: vs, d :: ds, ps, ht, ⟨p, q, h1, h2, h3⟩ => by
    rw [List.all_cons, Bool.and_eq_true, Bool.and_eq_true] at ht
    refine ⟨p, q, Below.trod hl ht.1.1 (of_decide_eq_true ht.1.2) h1 hb ?_, trodAll_back hl hb ht.2 h2, h3⟩
    obtain ⟨m, hm⟩ := h1
    exact DataW.trod_lt m _ _ _ hm
theorem AF.law {P : Program} {f : FuncId} {ps : List PV} (hA : AF P f ps (· = .val (.bool true))) {W : World} {vs : List Value} (hl : vs.length = ps.length) (hv : ∀ (i : Nat) (v : Value) (p : PV), vs[i]? = some v → ps[i]? = some p → Shr (fun _ => False) W v p) (hT : TabW W (fun _ => False) (fun _ => False)) :
    Calls P f vs.toArray W fun e w' => e = .returned (.bool true) ∧ Below W.heap.size W w' :=
  (hA (fun _ => False) W vs ⟨fun _ h => h.elim, fun _ => hT⟩ hl hv).mono fun e w' ⟨v, p, F, h1, h2, h3, h4, _⟩ => by
    subst h2
    have := (h4.sh rfl).vOf
    subst this
    exact ⟨h1, h3⟩
end
end Go.En

namespace Go.En
open Go.RowKit Go.Cb Go.ChangeShapes Go.WideShapes Go.ChangeAt
set_option linter.all false
section
variable {P : Program} {t : TypeId}
theorem dec_struct5 {α β γ δ ε : Type} {f0 f1 f2 f3 f4 : Field} {k0 k1 k2 k3 k4 : Nat} {enc0 : α → List PV} {enc1 : β → List PV} {enc2 : γ → List PV} {enc3 : δ → List PV} {enc4 : ε → List PV} {fit0 : α → Prop} {fit1 : β → Prop} {fit2 : γ → Prop} {fit3 : δ → Prop} {fit4 : ε → Prop} (ht : P.underlying t = some (.struct #[f0, f1, f2, f3, f4])) (hs : P.cellsOf t = k0 + k1 + k2 + k3 + k4)
    (D0 : Dec P f0.type k0 enc0 fit0) (D1 : Dec P f1.type k1 enc1 fit1) (D2 : Dec P f2.type k2 enc2 fit2) (D3 : Dec P f3.type k3 enc3 fit3) (D4 : Dec P f4.type k4 enc4 fit4) (ho0 : f0.offset = 0) (ho1 : f1.offset = k0) (ho2 : f2.offset = k0 + k1) (ho3 : f3.offset = k0 + k1 + k2) (ho4 : f4.offset = k0 + k1 + k2 + k3) :
    Dec P t (k0 + k1 + k2 + k3 + k4) (fun x : α × β × γ × δ × ε => enc0 x.1 ++ (enc1 x.2.1 ++ (enc2 x.2.2.1 ++ (enc3 x.2.2.2.1 ++ enc4 x.2.2.2.2)))) (fun x => fit0 x.1 ∧ fit1 x.2.1 ∧ fit2 x.2.2.1 ∧ fit3 x.2.2.2.1 ∧ fit4 x.2.2.2.2) where
  size := hs
  len := fun x => by rw [List.length_append, List.length_append, List.length_append, List.length_append, D0.len, D1.len, D2.len, D3.len, D4.len]; omega
  dec := fun e w spare held fuel cs x h => by
    intro hwt
    obtain ⟨xs, n, _, rfl, hlen, hxl, hf⟩ := DataW.trod_struct ht h
    simp only [DataW.weights, ht] at hwt
    have g0 := hf 0 f0 rfl
    have g1 := hf 1 f1 rfl
    have g2 := hf 2 f2 rfl
    have g3 := hf 3 f3 rfl
    have g4 := hf 4 f4 rfl
    match xs, hxl with
    | [y0, y1, y2, y3, y4], _ =>
    rw [ho0] at g0
    rw [ho1] at g1
    rw [ho2] at g2
    rw [ho3] at g3
    rw [ho4] at g4
    obtain ⟨a, ha, A⟩ := dec_field D0 g0 (fun n hn => hwt n (weightsEach_mem P 0 (by simp) (by simp) hn))
    obtain ⟨b, hb, B⟩ := dec_field D1 g1 (fun n hn => hwt n (weightsEach_mem P 1 (by simp) (by simp) hn))
    obtain ⟨c, hc, C⟩ := dec_field D2 g2 (fun n hn => hwt n (weightsEach_mem P 2 (by simp) (by simp) hn))
    obtain ⟨d, hd, D⟩ := dec_field D3 g3 (fun n hn => hwt n (weightsEach_mem P 3 (by simp) (by simp) hn))
    obtain ⟨e', he, E⟩ := dec_field D4 g4 (fun n hn => hwt n (weightsEach_mem P 4 (by simp) (by simp) hn))
    refine ⟨(a, b, c, d, e'), ⟨ha, hb, hc, hd, he⟩, by rw [hlen, hs], split_at (D0.len a) (fun i v p hv hp => A i v p (by rw [Nat.zero_add]; exact hv) hp) fun i v p hv hp => ?_⟩
    refine split_at (cs := cs.drop k0) (D1.len b) (fun i v p hv hp => B i v p (by rw [List.getElem?_drop] at hv; exact hv) hp) (fun i v p hv hp => ?_) i v p (by rw [List.getElem?_drop]; exact hv) hp
    refine split_at (cs := cs.drop (k0 + k1)) (D2.len c) (fun i v p hv hp => C i v p (by rw [List.getElem?_drop] at hv; exact hv) hp) (fun i v p hv hp => ?_) i v p (by rw [List.getElem?_drop] at hv ⊢; rw [Nat.add_assoc]; exact hv) hp
    exact split_at (cs := cs.drop (k0 + k1 + k2)) (D3.len d) (fun i v p hv hp => D i v p (by rw [List.getElem?_drop] at hv; exact hv) hp) (fun i v p hv hp => E i v p (by rw [List.getElem?_drop, ← Nat.add_assoc] at hv; exact hv) hp) i v p (by rw [List.getElem?_drop] at hv ⊢; rw [Nat.add_assoc]; exact hv) hp
end
end Go.En

namespace Go.Proofs.YtgigclnaicbiaaaGreatDoor
open Go.RowKit Go.Cb Go.En Go.ChangeShapes Go.WideShapes Go.ChangeAt
set_option linter.all false
set_option maxRecDepth 100000



def fitI (n : Int) : Prop := -9223372036854775808 ≤ n ∧ n ≤ 9223372036854775807
def fitL (l : List Int) : Prop := l.length ≤ 140737488355328 ∧ ∀ n ∈ l, fitI n
def fitM (m : Mv) : Prop := fitI m.src ∧ fitI m.dst ∧ fitI m.sym
def fitMs (l : List Mv) : Prop := l.length ≤ 140737488355328 ∧ ∀ m ∈ l, fitM m
def fitA (a : Aut) : Prop := fitI a.n ∧ fitI a.syms ∧ fitL a.start ∧ fitL a.fin ∧ fitMs a.moves
theorem dInt : Dec Tryz.prog 3 1 (fun n : Int => [pInt n]) fitI := dec_int Tryz.underlying3 (by kernel_rfl)
theorem dInts : Dec Tryz.prog 22 1 (fun l => [pInts l]) fitL :=
  dec_map id (dec_slice Tryz.underlying22 (by kernel_rfl) (by decide) (Nat.le_of_ble_eq_true (by kernel_rfl)) dInt) (fun _ => rfl) (fun l => by show [PV.sl l.length (l.map pInt)] = _; rw [flat_one]) (fun _ h => h)
theorem dMv : Dec Tryz.prog 72 3 cMv fitM :=
  dec_map (fun x : Int × Int × Int => (⟨x.1, x.2.1, x.2.2⟩ : Mv)) (dec_struct3 Tryz.underlying72 (by kernel_rfl) dInt dInt dInt rfl rfl rfl) (fun _ => rfl) (fun _ => rfl) (fun _ h => h)
theorem dMvs : Dec Tryz.prog 23 1 (fun l => [pMvs l]) fitMs :=
  dec_map id (dec_slice Tryz.underlying23 (by kernel_rfl) (by decide) (Nat.le_of_ble_eq_true (by kernel_rfl)) dMv) (fun _ => rfl) (fun _ => rfl) (fun _ h => h)
theorem dAut : Dec Tryz.prog 25 5 cAut fitA :=
  dec_map (fun x : Int × Int × List Int × List Int × List Mv => (⟨x.1, x.2.1, x.2.2.1, x.2.2.2.1, x.2.2.2.2⟩ : Aut)) (dec_struct5 Tryz.underlying25 (by kernel_rfl) dInt dInt dInts dInts dMvs rfl rfl rfl rfl rfl) (fun _ => rfl) (fun _ => rfl) (fun _ h => h)
theorem great_ml {a : Aut} (h : greatA a = false) : a.moves.length ≤ 400 := by
  unfold greatA at h
  simp only [Bool.or_eq_false_iff, decide_eq_false_iff_not] at h
  omega
theorem great_one {a : Aut} (h : ([a].any greatA) = false) : greatA a = false := by simpa using h
end Go.Proofs.YtgigclnaicbiaaaGreatDoor

namespace Go.Proofs.YtgigclnaicbiaaaGreatDoor
open Go.RowKit Go.Cb Go.En
set_option linter.all false
set_option maxRecDepth 100000

theorem tAgg25_LgA : AggT Tryz.prog 25 5 = true := by kernel_rfl
theorem tFl25_1_LgA : FldT Tryz.prog 25 1 1 = true := by kernel_rfl
theorem tFl25_2_LgA : FldT Tryz.prog 25 2 2 = true := by kernel_rfl
theorem tNa22_LgA : NoAgg Tryz.prog 22 = true := by kernel_rfl
theorem tNa3_LgA : NoAgg Tryz.prog 3 = true := by kernel_rfl
theorem tSl22_LgA : SlT Tryz.prog 22 3 1 = true := by kernel_rfl

def runL (a : Aut) (w : List Int) : List Int := w.foldl (fun S c => nextL a c S) (closL a a.start)
theorem runL_snoc {a : Aut} {w : List Int} {k : Nat} {c : Int} (h : w[k]? = some c) : runL a (w.take (k + 1)) = nextL a c (runL a (w.take k)) := by unfold runL; rw [take_snoc h, List.foldl_append]; rfl
theorem runL_in {a : Aut} (h : AOk a) : ∀ w : List Int, InS a (runL a w) ∧ (runL a w).length ≤ 2000 := fun w => by
  have key : ∀ (w : List Int) (S : List Int), InS a S ∧ S.length ≤ 2000 → InS a (w.foldl (fun S c => nextL a c S) S) ∧ (w.foldl (fun S c => nextL a c S) S).length ≤ 2000 := fun w => by
    induction w with
    | nil => intro S hS; exact hS
    | cons c w ih =>
      intro S hS
      have h1 := closL_len h.mi (leads_in h.mi c S)
      have h2 := h.n1
      exact ih _ ⟨next_in h.mi c S, by show (closL a (leads a c S)).length ≤ 2000; omega⟩
  have h1 := closL_len h.mi h.st
  have h2 := h.n1
  exact key w _ ⟨closL_in h.mi h.st, by omega⟩
def accX (a : Aut) (w : List Int) : Bool × Int := if autOk a = false then (false, 1) else if 200 < w.length then (false, 5) else if (w.any fun s => decide (s < 0) || decide (a.syms ≤ s)) = true then (false, 2) else (accB a (runL a w), 0)
theorem aAcceptsW1_e (a : Aut) (s : Int) : AF Tryz.prog 77 [pInt s, .sptr 0 [pInt a.n, pInt a.syms, pInts a.start, pInts a.fin, pMvs a.moves]] (· = pBool (decide (s < 0) || decide (a.syms ≤ s))) := by
  refine AF.of_body 12 Tryz.func77 rfl Tryz.ntmps77 (Nat.le_of_ble_eq_true rfl) ?_
  intro w0 M0 vs hl hv
  obtain ⟨v0, v1, rfl⟩ := len2 hl
  obtain rfl := hv 0 _ _ rfl rfl
  clear hl hv
  refine nav ?_
  (refine aC_region ?_
    <;> refine xL 3 q_assign ?_
    <;> refine aL_end (nav ?_) <;> try dsimp only)
  (refine aC_region ?_
    <;> refine xL 4 q_move ?_
    <;> refine xL 5 q_lss ?_
    <;> refine xL 6 q_move ?_
    <;> (refine bLd 6 (fun hb6 => ?_) (fun hb6 => ?_) <;> (first | refine kL 7 ?_ | refine xL 7 q_move ?_))
    <;> (first | refine kL 8 ?_ | refine xL 8 (q_fld tFl25_1_LgA) ?_)
    <;> (first | refine kL 9 ?_ | (refine yL 9 (q_ld tNa3_LgA) fun v9 hv9 => ?_; cases hv9))
    <;> (first | refine kL 10 ?_ | refine xL 10 q_geq ?_)
    <;> refine xL 11 q_pick ?_
    <;> refine xL 3 q_assign ?_
    <;> refine aL_end (nav ?_) <;> try dsimp only) <;> (
   refine ret_shr (Tryz.results77) rfl ?_
   show pBool _ = pBool _
   first
     | (rw [decide_eq_true (show s < 0 by assumption)]; rfl)
     | (rw [decide_eq_false (show ¬ s < 0 by assumption)]; rfl))
set_option maxHeartbeats 2000000 in
theorem aAcceptsW_x (a : Aut) (w : List Int) : AF Tryz.prog 22 [pAut a, pInts w] (· = .tup [pBool (accX a w).1, pInt (accX a w).2]) := by
  refine AF.of_body 42 Tryz.func22 rfl Tryz.ntmps22 (Nat.le_of_ble_eq_true rfl) ?_
  intro w0 M0 vs hl hv
  obtain ⟨v0, v1, rfl⟩ := len2 hl
  clear hl hv
  refine nav ?_
  (refine aC_region ?_
    <;> refine s_boxa 2 5 fun h2 => ?_
    <;> refine xL 4 q_assign ?_
    <;> refine xL 5 q_assign ?_
    <;> refine aL_end (nav ?_) <;> try dsimp only)
  (refine aC_region ?_
    <;> (refine yL 11 (q_ldao 2 tAgg25_LgA) fun v11 hv11 => ?_; cases hv11)
    <;> (refine cS 12 (cA Tryz.call24 (aValid_e a)) fun v12 hv12 => ?_; cases hv12)
    <;> refine xL 13 q_not ?_
    <;> refine xL 10 q_assign ?_
    <;> refine aL_end (nav ?_) <;> try dsimp only)
  first | refine cCd (fun hb10 => ?_) (fun hb10 => ?_) | refine cC (fun hb10 => ?_) (fun hb10 => ?_)
  · first
    | exact Bool.noConfusion hb10
    | (
     have hok : autOk a = false := by simpa using hb10
     refine nav ?_
     (refine aC_region ?_
       <;> refine xL 4 q_assign ?_
       <;> refine xL 5 q_assign ?_
       <;> refine aL_end (nav ?_) <;> try dsimp only)
     refine ret_ss (Tryz.results22) rfl rfl ?_
     unfold accX
     rw [if_pos hok])
  · first
    | exact Bool.noConfusion hb10
    | (
     have hok : autOk a = true := by simpa using hb10
     have hA := aok_of hok
     have hn1 := hA.n1
     refine nav ?_
     (refine aC_region ?_
       <;> refine xL 15 q_move ?_
       <;> refine xL 16 (q_len tSl22_LgA) ?_
       <;> refine xL 17 q_gtr ?_
       <;> refine xL 14 q_assign ?_
       <;> refine aL_end (nav ?_) <;> try dsimp only)
     first | refine cCd (fun hb14 => ?_) (fun hb14 => ?_) | refine cC (fun hb14 => ?_) (fun hb14 => ?_)
     · first
       | exact Bool.noConfusion hb14
       | (
        refine nav ?_
        (refine aC_region ?_
          <;> refine xL 4 q_assign ?_
          <;> refine xL 5 q_assign ?_
          <;> refine aL_end (nav ?_) <;> try dsimp only)
        refine ret_ss (Tryz.results22) rfl rfl ?_
        unfold accX
        rw [if_neg (by rw [hok]; decide), if_pos (by omega)])
     · first
       | exact Bool.noConfusion hb14
       | (
        refine nav ?_
        refine aC_ent (freezeP (l := 2) (t := 2) (j := 0) rfl Nat.one_pos rfl) fun _ => ?_
        (refine aC_region ?_
          <;> refine xL 19 q_move ?_
          <;> refine xL 20 q_mkfn ?_
          <;> (refine cS 21 (cA Tryz.call76 (containsFuncInt_e 77 [.sptr 0 [pInt a.n, pInt a.syms, pInts a.start, pInts a.fin, pMvs a.moves]] (fun s => decide (s < 0) || decide (a.syms ≤ s)) w (Tryz.call77) (fun s _ => aAcceptsW1_e a s))) fun v21 hv21 => ?_; cases hv21)
          <;> refine xL 18 q_assign ?_
          <;> refine aL_end (nav ?_) <;> try dsimp only)
        first | refine cCd (fun hb18 => ?_) (fun hb18 => ?_) | refine cC (fun hb18 => ?_) (fun hb18 => ?_)
        · first
          | exact Bool.noConfusion hb18
          | (
           refine nav ?_
           (refine aC_region ?_
             <;> refine xL 4 q_assign ?_
             <;> refine xL 5 q_assign ?_
             <;> refine aL_end (nav ?_) <;> try dsimp only)
           refine ret_ss (Tryz.results22) rfl rfl ?_
           unfold accX
           rw [if_neg (by rw [hok]; decide), if_neg (by omega), if_pos hb18])
        · first
          | exact Bool.noConfusion hb18
          | (
           have hax : accX a w = (accB a (runL a w), 0) := by
             unfold accX
             rw [if_neg (by rw [hok]; decide), if_neg (by omega), if_neg (by rw [hb18]; decide)]
           refine nav ?_
           (refine aC_region ?_
             <;> (refine yL 22 (q_lda tAgg25_LgA) fun v22 hv22 => ?_; cases hv22)
             <;> (refine cS 23 (cA Tryz.call58 (aGraphOf_e a hA)) fun v23 hv23 => ?_; cases hv23)
             <;> refine xL 6 q_assign ?_
             <;> refine aL_end (nav ?_) <;> try dsimp only)
           (refine aC_region ?_
             <;> refine xL 24 q_move ?_
             <;> refine xL 25 (q_fld tFl25_2_LgA) ?_
             <;> (refine yL 26 (q_ld tNa22_LgA) fun v26 hv26 => ?_; cases hv26)
             <;> (refine cO 27 (cA Tryz.call61 (aClosure_e a a.start hn1 hA.mi hA.st)) fun v27 ho27 => ?_; refine aL_ent (En.freeze (l := 27) (t := 27) rfl rfl) fun _ => ?_; rw [share_ints _ _ _ rfl])
             <;> refine xL 7 q_assign ?_
             <;> refine aL_end (nav ?_) <;> try dsimp only)
           (refine aC_region ?_
             <;> refine xL 28 q_move ?_
             <;> refine xL 29 (q_len tSl22_LgA) ?_
             <;> refine xL 30 q_move ?_
             <;> refine aL_end (nav ?_) <;> try dsimp only)
           refine aC_loop (ι := { q : Nat × Value // q.1 ≤ w.length }) (fun k => ⟨[(6, _, _), (28, _, _), (29, _, _), (7, k.1.2, pInts (runL a (w.take k.1.1))), (30, .int .i64 k.1.1, pInt k.1.1)], []⟩) (fun k => w.length - k.1.1) ⟨(0, v27), Nat.zero_le _⟩ (fun a w H => H.weaken ⟨rfl, rfl, rfl, rfl, rfl, trivial⟩ trivial) ?_
           rintro ⟨⟨k, v⟩, hk⟩
           dsimp only
           dsimp only at hk
           have hrun := runL_in hA (w.take k)
           refine nav ?_
           (refine aC_region ?_
             <;> refine xL 31 q_lss ?_
             <;> refine aL_end (nav ?_) <;> try dsimp only)
           first | refine cCd (fun hb31 => ?_) (fun hb31 => ?_) | refine cC (fun hb31 => ?_) (fun hb31 => ?_)
           · first
             | exact Bool.noConfusion hb31
             | (
              obtain ⟨c, hc⟩ := get_some (show k < w.length by omega)
              have e1 := map_at (f := pInt) hc
              refine nav ?_
              (refine aC_region ?_
                <;> refine xL 32 (q_idxN tSl22_LgA) ?_
                <;> (refine yL 33 (q_ld tNa3_LgA) fun v33 hv33 => ?_; cases hv33)
                <;> refine xL 9 q_assign ?_
                <;> refine aL_end (nav ?_) <;> try dsimp only)
              (refine aC_region ?_
                <;> refine xL 34 q_move ?_
                <;> refine xL 35 q_move ?_
                <;> refine xL 36 q_move ?_
                <;> (refine cO 37 (cA Tryz.call63 (aNext_e a (runL a (w.take k)) c hn1 hA.ml hA.mi hrun.1 hrun.2)) fun v37 ho37 => ?_; refine aL_ent (En.freeze (l := 37) (t := 37) rfl rfl) fun _ => ?_; rw [share_ints _ _ _ rfl])
                <;> refine xL 7 q_assign ?_
                <;> refine aL_end (nav ?_) <;> try dsimp only)
              (refine aC_region ?_
                <;> refine xL 38 q_add ?_
                <;> refine xL 30 q_move ?_
                <;> refine aL_end (nav ?_) <;> try dsimp only)
              rw [← runL_snoc hc]
              refine aN_again (
                ⟨(k + 1, v37), lt_of_get hc⟩
                ) (by dsimp only; omega) ⟨rfl, rfl, rfl, rfl, rfl, trivial⟩ trivial)
           · first
             | exact Bool.noConfusion hb31
             | (
              obtain rfl : k = w.length := by omega
              rw [List.take_length] at hrun ⊢
              refine nav ?_
              (refine aC_region ?_
                <;> refine xL 39 q_move ?_
                <;> refine xL 40 q_move ?_
                <;> (refine cS 41 (cA Tryz.call62 (aAccepts_e a (runL a w) hrun.1)) fun v41 hv41 => ?_; cases hv41)
                <;> refine xL 4 q_assign ?_
                <;> refine xL 5 q_assign ?_
                <;> refine aL_end (nav ?_) <;> try dsimp only)
              refine ret_ss (Tryz.results22) rfl rfl ?_
              rw [hax]; rfl))))
end Go.Proofs.YtgigclnaicbiaaaGreatDoor

namespace Go.Proofs.YtgigclnaicbiaaaGreatDoor
open Go.RowKit Go.Cb Go.En
set_option linter.all false
set_option maxRecDepth 100000

theorem tAgg25_LgB : AggT Tryz.prog 25 5 = true := by kernel_rfl
theorem tEl75_LgB : ElT Tryz.prog 75 25 5 88 (.agg #[(.int .i64 0), (.int .i64 0), (.slice none 0 0), (.slice none 0 0), (.slice none 0 0)]) := ⟨Tryz.underlying75, by kernel_rfl, rfl, by decide⟩
theorem tFl25_1_LgB : FldT Tryz.prog 25 1 1 = true := by kernel_rfl
theorem tFl25_2_LgB : FldT Tryz.prog 25 2 2 = true := by kernel_rfl
theorem tNa22_LgB : NoAgg Tryz.prog 22 = true := by kernel_rfl
theorem tNa3_LgB : NoAgg Tryz.prog 3 = true := by kernel_rfl
theorem tSl22_LgB : SlT Tryz.prog 22 3 1 = true := by kernel_rfl

theorem r07Takes_e (a : Aut) (w : List Int) (h : AOk a) (hl : w.length ≤ 1000000) : AF Tryz.prog 78 [pAut a, pInts w] (· = pBool (accB a (runL a w))) := by
  refine AF.of_body 27 Tryz.func78 rfl Tryz.ntmps78 (Nat.le_of_ble_eq_true rfl) ?_
  intro w0 M0 vs hl hv
  obtain ⟨v0, v1, rfl⟩ := len2 hl
  clear hl hv
  refine nav ?_
  (refine aC_region ?_
    <;> refine s_boxa 2 5 fun h2 => ?_
    <;> refine xL 4 q_assign ?_
    <;> refine aL_end (nav ?_) <;> try dsimp only)
  (refine aC_region ?_
    <;> (refine yL 7 (q_ldao 2 tAgg25_LgB) fun v7 hv7 => ?_; cases hv7)
    <;> refine xL 8 (q_fldo 2 tFl25_2_LgB) ?_
    <;> (refine yL 9 (q_ldo 2 tNa22_LgB) fun v9 hv9 => ?_; cases hv9)
    <;> (refine cO 10 (cA Tryz.call65 (r07Closed_e a a.start h h.st)) fun v10 ho10 => ?_; refine aL_ent (En.freeze (l := 10) (t := 10) rfl rfl) fun _ => ?_; rw [share_ints _ _ _ rfl])
    <;> refine xL 5 q_assign ?_
    <;> refine aL_end (nav ?_) <;> try dsimp only)
  (refine aC_region ?_
    <;> refine xL 6 q_assign ?_
    <;> refine aL_end (nav ?_) <;> try dsimp only)
  refine aC_loop (ι := { q : Nat × Value // q.1 ≤ w.length }) (fun k => ⟨[(1, _, _), (2, _, _), (4, _, _), (5, k.1.2, pInts (runL a (w.take k.1.1))), (6, .int .i64 k.1.1, pInt k.1.1)], [(2, _, _)]⟩) (fun k => w.length - k.1.1) ⟨(0, v10), Nat.zero_le _⟩ (fun a w H => H.weaken ⟨rfl, rfl, rfl, rfl, rfl, trivial⟩ ⟨rfl, trivial⟩) ?_
  rintro ⟨⟨k, v⟩, hk⟩
  dsimp only
  dsimp only at hk
  have hrun := runL_in h (w.take k)
  refine nav ?_
  (refine aC_region ?_
    <;> refine xL 11 q_move ?_
    <;> refine xL 12 q_move ?_
    <;> refine xL 13 (q_len tSl22_LgB) ?_
    <;> refine xL 14 q_lss ?_
    <;> refine aL_end (nav ?_) <;> try dsimp only)
  first | refine cCd (fun hb14 => ?_) (fun hb14 => ?_) | refine cC (fun hb14 => ?_) (fun hb14 => ?_)
  · first
    | exact Bool.noConfusion hb14
    | (
     obtain ⟨c, hc⟩ := get_some (show k < w.length by omega)
     have e1 := map_at (f := pInt) hc
     refine nav ?_
     (refine aC_draw (fun i => ([] : List Nat).elem i) [2] (by kernel_rfl) ?_
       <;> (refine yD 0 17 rfl (q_ldao 2 tAgg25_LgB) fun v17 hv17 => ?_; cases hv17)
       <;> refine xD 1 18 rfl q_move ?_
       <;> refine xD 2 19 rfl q_move ?_
       <;> refine xE 3 20 rfl q_move ?_
       <;> refine xE 4 21 rfl (q_idxN tSl22_LgB) ?_
       <;> (refine yE 5 22 rfl (q_ld tNa3_LgB) fun v22 hv22 => ?_; cases hv22)
       <;> (refine aD_one 6 (by kernel_rfl) ?_)
       <;> (refine aW_run rfl fun w9 M9 N9 DQ back => ?_)
       <;> (refine cO 23 (cA Tryz.call67 (r07After_e a (runL a (w.take k)) c h hrun.1)) fun v23 ho23 => ?_; refine aL_ent (En.freeze (l := 23) (t := 23) rfl rfl) fun _ => ?_; rw [share_ints _ _ _ rfl])
       <;> refine aL_end (back _ (nrm ?_))
       <;> refine xE 7 5 rfl q_assign ?_
       <;> refine aD_end (by kernel_rfl) (nav ?_)
       <;> try dsimp only)
     (refine aC_region ?_
       <;> refine xL 15 q_move ?_
       <;> refine xL 16 q_add ?_
       <;> refine xL 6 q_assign ?_
       <;> refine aL_end (nav ?_) <;> try dsimp only)
     rw [← runL_snoc hc]
     refine aN_again (
       ⟨(k + 1, v23), lt_of_get hc⟩
       ) (by dsimp only; omega) ⟨rfl, rfl, rfl, rfl, rfl, trivial⟩ ⟨rfl, trivial⟩)
  · first
    | exact Bool.noConfusion hb14
    | (
     obtain rfl : k = w.length := by omega
     rw [List.take_length] at hrun ⊢
     refine nav ?_
     (refine aC_region ?_
       <;> (refine yL 24 (q_ldao 2 tAgg25_LgB) fun v24 hv24 => ?_; cases hv24)
       <;> refine xL 25 q_move ?_
       <;> (refine cS 26 (cA Tryz.call66 (r07final_e a (runL a w))) fun v26 hv26 => ?_; cases hv26)
       <;> refine xL 4 q_assign ?_
       <;> refine aL_end (nav ?_) <;> try dsimp only)
     exact ret_shr (Tryz.results78) rfl rfl)
theorem any_at {α : Type} {p : α → Bool} {l : List α} {k : Nat} {x : α} (hx : l[k]? = some x) (h : p x = true) : l.any p = true := List.any_eq_true.2 ⟨x, List.mem_of_getElem? hx, h⟩
theorem any_none {α : Type} {p : α → Bool} {l : List α} (h : ∀ (i : Nat) (y : α), l[i]? = some y → p y = false) : l.any p = false := by
  rw [List.any_eq_false]
  intro x hx
  obtain ⟨i, hi⟩ := List.getElem?_of_mem hx
  rw [h i x hi]; decide
set_option maxHeartbeats 1000000 in
theorem r07Accepts_x (a : Aut) (w : List Int) (hl : a.moves.length ≤ 1000000) : AF Tryz.prog 23 [pAut a, pInts w] (· = .tup [pBool (accX a w).1, pInt (accX a w).2]) := by
  refine AF.of_body 36 Tryz.func23 rfl Tryz.ntmps23 (Nat.le_of_ble_eq_true rfl) ?_
  intro w0 M0 vs hl hv
  obtain ⟨v0, v1, rfl⟩ := len2 hl
  clear hl hv
  refine nav ?_
  (refine aC_region ?_
    <;> refine s_boxa 2 5 fun h2 => ?_
    <;> refine xL 4 q_assign ?_
    <;> refine xL 5 q_assign ?_
    <;> refine aL_end (nav ?_) <;> try dsimp only)
  (refine aC_region ?_
    <;> (refine yL 7 (q_ldao 2 tAgg25_LgB) fun v7 hv7 => ?_; cases hv7)
    <;> (refine cS 8 (cA Tryz.call25 (r07Valid_e a hl)) fun v8 hv8 => ?_; cases hv8)
    <;> refine xL 9 q_not ?_
    <;> refine aL_end (nav ?_) <;> try dsimp only)
  first | refine cCd (fun hb9 => ?_) (fun hb9 => ?_) | refine cC (fun hb9 => ?_) (fun hb9 => ?_)
  · first
    | exact Bool.noConfusion hb9
    | (
     have hok : autOk a = false := by simpa using hb9
     refine nav ?_
     (refine aC_region ?_
       <;> refine xL 4 q_assign ?_
       <;> refine xL 5 q_assign ?_
       <;> refine aL_end (nav ?_) <;> try dsimp only)
     refine ret_ss (Tryz.results23) rfl rfl ?_
     unfold accX
     rw [if_pos hok])
  · first
    | exact Bool.noConfusion hb9
    | (
     have hok : autOk a = true := by simpa using hb9
     have hA := aok_of hok
     refine nav ?_
     (refine aC_region ?_
       <;> refine xL 10 q_move ?_
       <;> refine xL 11 (q_len tSl22_LgB) ?_
       <;> refine xL 12 q_gtr ?_
       <;> refine aL_end (nav ?_) <;> try dsimp only)
     first | refine cCd (fun hb12 => ?_) (fun hb12 => ?_) | refine cC (fun hb12 => ?_) (fun hb12 => ?_)
     · first
       | exact Bool.noConfusion hb12
       | (
        refine nav ?_
        (refine aC_region ?_
          <;> refine xL 4 q_assign ?_
          <;> refine xL 5 q_assign ?_
          <;> refine aL_end (nav ?_) <;> try dsimp only)
        refine ret_ss (Tryz.results23) rfl rfl ?_
        unfold accX
        rw [if_neg (by rw [hok]; decide), if_pos (by omega)])
     · first
       | exact Bool.noConfusion hb12
       | (
        refine nav ?_
        (refine aC_region ?_
          <;> refine xL 6 q_assign ?_
          <;> refine aL_end (nav ?_) <;> try dsimp only)
        refine aC_loop (ι := { k : Nat // k ≤ w.length ∧ ∀ i y, i < k → w[i]? = some y → (decide (y < 0) || decide (a.syms ≤ y)) = false }) (fun k => ⟨[(1, _, _), (2, _, _), (4, _, _), (5, _, _), (6, .int .i64 k.1, pInt k.1)], [(2, _, _)]⟩) (fun k => w.length - k.1) ⟨0, by omega, by omega⟩ (fun a w H => H.weaken ⟨rfl, rfl, rfl, rfl, rfl, trivial⟩ ⟨rfl, trivial⟩) ?_
        rintro ⟨k, hk, hp⟩
        dsimp only
        refine nav ?_
        (refine aC_region ?_
          <;> refine xL 13 q_move ?_
          <;> refine xL 14 q_move ?_
          <;> refine xL 15 (q_len tSl22_LgB) ?_
          <;> refine xL 16 q_lss ?_
          <;> refine aL_end (nav ?_) <;> try dsimp only)
        first | refine cCd (fun hb16 => ?_) (fun hb16 => ?_) | refine cC (fun hb16 => ?_) (fun hb16 => ?_)
        · first
          | exact Bool.noConfusion hb16
          | (
           obtain ⟨x, hx⟩ := get_some (show k < w.length by omega)
           have e1 := map_at (f := pInt) hx
           refine nav ?_
           (refine aC_draw (fun i => ([] : List Nat).elem i) [2] (by kernel_rfl) ?_
             <;> refine xD 0 19 rfl q_move ?_
             <;> refine xE 1 20 rfl q_move ?_
             <;> refine xE 2 21 rfl (q_idxN tSl22_LgB) ?_
             <;> (refine yE 3 22 rfl (q_ld tNa3_LgB) fun v22 hv22 => ?_; cases hv22)
             <;> refine xE 4 23 rfl q_lss ?_
             <;> refine xE 5 24 rfl q_move ?_
             <;> (refine bDd 24 (fun hb24 => ?_) (fun hb24 => ?_) <;> (first | refine kD 6 25 rfl ?_ | refine xD 6 25 rfl q_move ?_))
             <;> (first | refine kD 7 26 rfl ?_ | refine xD 7 26 rfl q_move ?_)
             <;> (first | refine kD 8 27 rfl ?_ | refine xD 8 27 rfl (q_idxN tSl22_LgB) ?_)
             <;> (first | refine kD 9 28 rfl ?_ | (refine yD 9 28 rfl (q_ld tNa3_LgB) fun v28 hv28 => ?_; cases hv28))
             <;> (first | refine kD 10 29 rfl ?_ | refine xD 10 29 rfl (q_fldo 2 tFl25_1_LgB) ?_)
             <;> (first | refine kD 11 30 rfl ?_ | (refine yD 11 30 rfl (q_ldo 2 tNa3_LgB) fun v30 hv30 => ?_; cases hv30))
             <;> (first | refine kD 12 31 rfl ?_ | refine xD 12 31 rfl q_geq ?_)
             <;> refine xE 13 32 rfl q_pick ?_
             <;> refine aD_end (by kernel_rfl) (nav ?_)
             <;> try dsimp only) <;> (
            first | refine cCd (fun hb32 => ?_) (fun hb32 => ?_) | refine cC (fun hb32 => ?_) (fun hb32 => ?_)
            · first
              | exact Bool.noConfusion hb32
              | (
               refine nav ?_
               (refine aC_region ?_
                 <;> refine xL 4 q_assign ?_
                 <;> refine xL 5 q_assign ?_
                 <;> refine aL_end (nav ?_) <;> try dsimp only)
               refine ret_ss (Tryz.results23) rfl rfl ?_
               have hany : (w.any fun s => decide (s < 0) || decide (a.syms ≤ s)) = true := any_at hx (by
                 first
                   | (rw [decide_eq_true (show x < 0 by assumption)]; rfl)
                   | (rw [decide_eq_true (show a.syms ≤ x by assumption)]; simp))
               unfold accX
               rw [if_neg (by rw [hok]; decide), if_neg (by omega), if_pos hany])
            · first
              | exact Bool.noConfusion hb32
              | (
               refine nav ?_
               (refine aC_region ?_
                 <;> refine xL 17 q_move ?_
                 <;> refine xL 18 q_add ?_
                 <;> refine xL 6 q_assign ?_
                 <;> refine aL_end (nav ?_) <;> try dsimp only)
               refine aN_again (
                 ⟨k + 1, lt_of_get hx, fun i y hi hy => by
                   by_cases e : i = k
                   · subst e; rw [hx] at hy; cases hy
                     rw [decide_eq_false (show ¬ x < 0 by assumption), decide_eq_false (show ¬ a.syms ≤ x by assumption)]; rfl
                   · exact hp i y (by omega) hy⟩
                 ) (by dsimp only; omega) ⟨rfl, rfl, rfl, rfl, rfl, trivial⟩ ⟨rfl, trivial⟩)))
        · first
          | exact Bool.noConfusion hb16
          | (
           have hax : accX a w = (accB a (runL a w), 0) := by
             unfold accX
             rw [if_neg (by rw [hok]; decide), if_neg (by omega), if_neg (by rw [any_none fun i y hy => hp i y (by have := lt_of_get hy; omega) hy]; decide)]
           refine nav ?_
           (refine aC_region ?_
             <;> (refine yL 33 (q_ldao 2 tAgg25_LgB) fun v33 hv33 => ?_; cases hv33)
             <;> refine xL 34 q_move ?_
             <;> (refine cS 35 (cA Tryz.call78 (r07Takes_e a w hA (by omega))) fun v35 hv35 => ?_; cases hv35)
             <;> refine xL 4 q_assign ?_
             <;> refine xL 5 q_assign ?_
             <;> refine aL_end (nav ?_) <;> try dsimp only)
           refine ret_ss (Tryz.results23) rfl rfl ?_
           rw [hax])))
set_option maxHeartbeats 2000000 in
theorem autForms_c (a : Aut) (w : List Int) (t u : Bool) (e : Int) (c1 : AF Tryz.prog 22 [pAut a, pInts w] (· = .tup [pBool t, pInt e])) (c2 : a.moves.length ≤ 1000000 → AF Tryz.prog 23 [pAut a, pInts w] (· = .tup [pBool t, pInt e])) (c3 : AF Tryz.prog 24 [pAut a] (· = pBool u)) (c4 : a.moves.length ≤ 1000000 → AF Tryz.prog 25 [pAut a] (· = pBool u)) : AF Tryz.prog 5 [pAut a, pInts w] (· = pBool true) := by
  refine AF.of_body 45 Tryz.func5 rfl Tryz.ntmps5 (Nat.le_of_ble_eq_true rfl) ?_
  intro w0 M0 vs hl hv
  obtain ⟨v0, v1, rfl⟩ := len2 hl
  clear hl hv
  refine nav ?_
  (refine aC_region ?_
    <;> refine s_boxa 2 5 fun h2 => ?_
    <;> refine xL 4 q_assign ?_
    <;> refine aL_end (nav ?_) <;> try dsimp only)
  (refine aC_region ?_
    <;> (refine cS 9 (cA Tryz.call13 (awake07_e)) fun v9 hv9 => ?_; cases hv9)
    <;> refine xL 10 q_not ?_
    <;> refine aL_end (nav ?_) <;> try dsimp only)
  first | refine cCd (fun hb10 => ?_) (fun hb10 => ?_) | refine cC (fun hb10 => ?_) (fun hb10 => ?_)
  · first
    | exact Bool.noConfusion hb10
    | (
     refine nav ?_
     (refine aC_region ?_
       <;> refine xL 4 q_assign ?_
       <;> refine aL_end (nav ?_) <;> try dsimp only)
     exfalso; simp at hb10)
  · first
    | exact Bool.noConfusion hb10
    | (
     refine nav ?_
     (refine aC_region ?_
       <;> (refine yL 11 (q_ldao 2 tAgg25_LgB) fun v11 hv11 => ?_; cases hv11)
       <;> (refine s_lit1a 12 tEl75_LgB fun h12 ho12 => ?_; refine aL_ent (En.freeze (l := 12) (t := 12) rfl rfl) fun _ => ?_; refine aL_ent (reslot (t := 12) (p' := .sl [a].length ([a].flatMap cAut)) rfl rfl) fun _ => ?_)
       <;> (refine cS 13 (cA Tryz.call14 (great07_e [a])) fun v13 hv13 => ?_; cases hv13)
       <;> refine xL 14 q_move ?_
       <;> (refine bL 14 (fun hb14 => ?_) (fun hb14 => ?_) <;> (first | refine kL 15 ?_ | refine xL 15 q_move ?_))
       <;> (first | refine kL 16 ?_ | (refine cS 16 (cA Tryz.call21 (long07_e w)) fun v16 hv16 => ?_; cases hv16))
       <;> refine xL 17 q_pick ?_
       <;> refine aL_end (nav ?_) <;> try dsimp only) <;> (
      first | refine cCd (fun hb17 => ?_) (fun hb17 => ?_) | refine cC (fun hb17 => ?_) (fun hb17 => ?_)
      · first
        | exact Bool.noConfusion hb17
        | (
         refine nav ?_
         (refine aC_region ?_
           <;> refine xL 4 q_assign ?_
           <;> refine aL_end (nav ?_) <;> try dsimp only)
         exact ret_shr (Tryz.results5) rfl rfl)
      · first
        | exact Bool.noConfusion hb17
        | (
         have hml := great_ml (great_one hb14)
         refine nav ?_
         (refine aC_region ?_
           <;> (refine yL 19 (q_ldao 2 tAgg25_LgB) fun v19 hv19 => ?_; cases hv19)
           <;> refine xL 20 q_move ?_
           <;> (refine cP 21 (cA Tryz.call22 (c1)) fun va21 vb21 hva21 hvb21 => ?_; cases hva21; cases hvb21)
           <;> refine xL 18 q_move ?_
           <;> refine xL 22 q_extract ?_
           <;> refine xL 23 q_extract ?_
           <;> refine xL 5 q_assign ?_
           <;> refine xL 6 q_assign ?_
           <;> refine aL_end (nav ?_) <;> try dsimp only)
         (refine aC_region ?_
           <;> (refine yL 25 (q_ldao 2 tAgg25_LgB) fun v25 hv25 => ?_; cases hv25)
           <;> refine xL 26 q_move ?_
           <;> (refine cP 27 (cA Tryz.call23 ((c2 (by omega)))) fun va27 vb27 hva27 hvb27 => ?_; cases hva27; cases hvb27)
           <;> refine xL 24 q_move ?_
           <;> refine xL 28 q_extract ?_
           <;> refine xL 29 q_extract ?_
           <;> refine xL 7 q_assign ?_
           <;> refine xL 8 q_assign ?_
           <;> refine aL_end (nav ?_) <;> try dsimp only)
         (refine aC_draw (fun i => ([] : List Nat).elem i) [2] (by kernel_rfl) ?_
           <;> (refine yD 0 30 rfl (q_ldao 2 tAgg25_LgB) fun v30 hv30 => ?_; cases hv30)
           <;> (refine yD 2 32 rfl (q_ldao 2 tAgg25_LgB) fun v32 hv32 => ?_; cases hv32)
           <;> (refine aD_one 1 (by kernel_rfl) ?_)
           <;> (refine aW_call (d := 31) rfl (cA Tryz.call24 c3) fun v31 hv31 => ?_; cases hv31)
           <;> (refine aD_one 3 (by kernel_rfl) ?_)
           <;> (refine aW_call (d := 33) rfl (cA Tryz.call25 (c4 (by omega))) fun v33 hv33 => ?_; cases hv33)
           <;> refine xE 4 34 rfl (q_beql Tryz.underlying4) ?_
           <;> refine xE 5 35 rfl q_move ?_
           <;> (refine bDd 35 (fun hb35 => ?_) (fun hb35 => ?_) <;> (first | refine kD 6 36 rfl ?_ | refine xD 6 36 rfl q_move ?_))
           <;> (first | refine kD 7 37 rfl ?_ | refine xD 7 37 rfl q_move ?_)
           <;> (first | refine kD 8 38 rfl ?_ | refine xD 8 38 rfl (q_beql Tryz.underlying4) ?_)
           <;> refine xE 9 39 rfl q_pick ?_
           <;> refine xE 10 40 rfl q_move ?_
           <;> (first | refine kD 11 41 rfl ?_ | (refine bDd 40 (fun hb40 => ?_) (fun hb40 => ?_) <;> (first | refine kD 11 41 rfl ?_ | refine xD 11 41 rfl q_move ?_)))
           <;> (first | refine kD 12 42 rfl ?_ | refine xD 12 42 rfl q_move ?_)
           <;> (first | refine kD 13 43 rfl ?_ | refine xD 13 43 rfl q_eqlT ?_)
           <;> refine xE 14 44 rfl q_pick ?_
           <;> refine xE 15 4 rfl q_assign ?_
           <;> refine aD_end (by kernel_rfl) (nav ?_)
           <;> try dsimp only) <;> (
          first | exact ret_shr (Tryz.results5) rfl rfl | (exfalso; simp at hb35; done) | (exfalso; simp at hb40; done)))))
theorem autForms_e (a : Aut) (w : List Int) (_ : fitA a) (_ : fitL w) : AF Tryz.prog 5 [pAut a, pInts w] (· = pBool true) :=
  autForms_c a w _ _ _ (aAcceptsW_x a w) (fun h => r07Accepts_x a w h) (aValid_e a) (fun h => r07Valid_e a h)
end Go.Proofs.YtgigclnaicbiaaaGreatDoor
