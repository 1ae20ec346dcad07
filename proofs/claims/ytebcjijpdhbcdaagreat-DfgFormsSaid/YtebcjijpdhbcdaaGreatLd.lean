/-
  Plain laws: maps to numbers as lists; counts and pairs in order. No program in sight.
  Walks: comparing of counts and pairs where what is drawn only grows; dfg.list.
  Plain laws: what dfg.Make counts. No program in sight.
  Walks: dfg.newCounter, the counter's graph.
  The engine: a call that hands back one of a family of pairs. No program in sight.
  Walks: dfg.Make.
-/
import Derived.Test.YtebcjijpdhbcdaaGreatLp
import Derived.Test.YtebcjijpdhbcdaaGreatLa
import Derived.Test.YtebcjijpdhbcdaaGreatEngc
import Derived.Test.YtebcjijpdhbcdaaGreatMShelfC
import Derived.Test.YtebcjijpdhbcdaaGreatEngb
namespace Go.Proofs.YtebcjijpdhbcdaaGreat
open Go.RowKit Go.Cb Go.En
set_option linter.all false

section
variable {κ : Type} [DecidableEq κ]
def iget : List (κ × Int) → κ → Int
  | [], _ => 0
  | x :: l, k => if k = x.1 then x.2 else iget l k
def iput : List (κ × Int) → κ → Int → List (κ × Int)
  | [], k, v => [(k, v)]
  | x :: l, k, v => if k = x.1 then (k, v) :: l else x :: iput l k v
def iadd (m : List (κ × Int)) (k : κ) (n : Int) : List (κ × Int) := iput m k (iget m k + n)
def ivals (m : List (κ × Int)) : List (κ × Value) := m.map fun x => (x.1, .int .i64 x.2)
theorem aget_ivals (m : List (κ × Int)) (k : κ) : (aget (ivals m) k).getD (.int .i64 0) = .int .i64 (iget m k) := by
  induction m with
  | nil => rfl
  | cons x m ih =>
    show (aget ((x.1, Value.int .i64 x.2) :: ivals m) k).getD _ = _
    rw [aget, iget]
    split
    · rfl
    · exact ih
theorem aput_ivals (m : List (κ × Int)) (k : κ) (v : Int) : aput (ivals m) k (.int .i64 v) = ivals (iput m k v) := by
  induction m with
  | nil => rfl
  | cons x m ih =>
    show aput ((x.1, Value.int .i64 x.2) :: ivals m) k _ = _
    rw [aput, iput]
    split
    · rfl
    · rw [ih]; rfl
theorem iput_keys {m : List (κ × Int)} {k : κ} {v : Int} : ∀ x, x ∈ (iput m k v).map (·.1) ↔ x = k ∨ x ∈ m.map (·.1) := by
  induction m with
  | nil => intro x; simp [iput]
  | cons y m ih =>
    intro x
    rw [iput]
    split
    · rename_i e; subst e; simp
    · rw [List.map_cons, List.mem_cons, ih, List.map_cons, List.mem_cons]
      constructor
      · rintro (h | h | h)
        · exact .inr (.inl h)
        · exact .inl h
        · exact .inr (.inr h)
      · rintro (h | h | h)
        · exact .inr (.inl h)
        · exact .inl h
        · exact .inr (.inr h)
theorem iput_nodup {m : List (κ × Int)} {k : κ} {v : Int} (hn : (m.map (·.1)).Nodup) : ((iput m k v).map (·.1)).Nodup := by
  induction m with
  | nil => simp [iput]
  | cons y m ih =>
    rw [iput]
    rw [List.map_cons, List.nodup_cons] at hn
    split
    · rename_i e
      rw [List.map_cons, List.nodup_cons]; dsimp only; rw [e]; exact hn
    · rename_i e
      rw [List.map_cons, List.nodup_cons]
      refine ⟨fun h => ?_, ih hn.2⟩
      rcases (iput_keys _).1 h with h | h
      · exact e h.symm
      · exact hn.1 h
theorem iput_len (m : List (κ × Int)) (k : κ) (v : Int) : (iput m k v).length ≤ m.length + 1 := by
  induction m with
  | nil => simp [iput]
  | cons y m ih => rw [iput]; split <;> simp <;> omega
end
def mkC (x : ByteArray × Int) : Cnt := ⟨x.1, x.2⟩
def mkF (x : Pr × Int) : Flw := ⟨x.1.1, x.1.2, x.2⟩
def decC : Value × Value → Cnt
  | (.string s, .int _ n) => ⟨s, n⟩
  | _ => ⟨ByteArray.empty, 0⟩
theorem dec_skv (m : List (ByteArray × Int)) : (skv (ivals m)).map decC = m.map mkC := by
  unfold skv ivals
  rw [List.map_map, List.map_map]
  rfl
theorem skv_mem {m : List (ByteArray × Int)} {x : Value × Value} (h : x ∈ skv (ivals m)) : ∃ s n, (s, n) ∈ m ∧ x.1 = .string s ∧ x.2 = .int .i64 n := by
  unfold skv ivals at h
  rw [List.map_map] at h
  obtain ⟨y, hy, rfl⟩ := List.mem_map.1 h
  exact ⟨y.1, y.2, hy, rfl, rfl⟩
def decF : Value × Value → Flw
  | (.agg ⟨[.string a, .string b]⟩, .int _ n) => ⟨a, b, n⟩
  | _ => ⟨ByteArray.empty, ByteArray.empty, 0⟩
theorem dec_akv (m : List (Pr × Int)) : (akv (ivals m)).map decF = m.map mkF := by
  unfold akv ivals
  rw [List.map_map, List.map_map]
  rfl
theorem akv_mem {m : List (Pr × Int)} {x : Value × Value} (h : x ∈ akv (ivals m)) : ∃ k n, (k, n) ∈ m ∧ x.1 = pkey k ∧ x.2 = .int .i64 n := by
  unfold akv ivals at h
  rw [List.map_map] at h
  obtain ⟨y, hy, rfl⟩ := List.mem_map.1 h
  exact ⟨y.1, y.2, hy, rfl, rfl⟩
def SameC (L : List Cnt) (m : List (ByteArray × Int)) : Prop := L.Perm (m.map mkC) ∧ L.Pairwise fun a b => strLt a.name b.name = true
def SameF (L : List Flw) (m : List (Pr × Int)) : Prop := L.Perm (m.map mkF) ∧ L.Pairwise fun a b => flwCmp a b < 0
theorem sameC_of {L rows : List Cnt} {m : List (ByteArray × Int)} (hn : (m.map (·.1)).Nodup) (hp : L.Perm (m.map mkC)) (hr : rows.Perm L) (ho : ∀ (i j : Nat) (a b : Cnt), i < j → rows[i]? = some a → rows[j]? = some b → ¬ cmpStr b.name a.name < 0) : SameC rows m := by
  refine ⟨hr.trans hp, ?_⟩
  have h1 : (rows.map (·.name)).Nodup := by
    have h2 := ((hr.trans hp).map (·.name))
    rw [List.map_map] at h2
    exact (h2.pairwise_iff (R := (· ≠ ·)) fun h => Ne.symm h).2 hn
  rw [List.nodup_iff_pairwise_ne, List.pairwise_map] at h1
  rw [List.pairwise_iff_getElem] at h1 ⊢
  intro i j hi hj hij
  have h3 := h1 i j hi hj hij
  have h4 := ho i j _ _ hij (List.getElem?_eq_getElem hi) (List.getElem?_eq_getElem hj)
  rw [cmpStr_neg] at h4
  cases h5 : strLt rows[i].name rows[j].name with
  | true => rfl
  | false => exact absurd (strLt_total h5 (by simpa using h4)) h3
theorem flwCmp_zero {a b : Flw} : flwCmp a b = 0 ↔ a.src = b.src ∧ a.dst = b.dst := by
  unfold flwCmp
  by_cases h : cmpStr a.src b.src = 0
  · rw [if_pos h, cmpStr_zero]
    exact ⟨fun h2 => ⟨cmpStr_zero.1 h, h2⟩, fun h2 => h2.2⟩
  · rw [if_neg h]
    exact ⟨fun h2 => absurd h2 h, fun h2 => absurd (cmpStr_zero.2 h2.1) h⟩
theorem flwCmp_neg {a b : Flw} : flwCmp a b < 0 ↔ strLt a.src b.src = true ∨ (a.src = b.src ∧ strLt a.dst b.dst = true) := by
  unfold flwCmp
  by_cases h : cmpStr a.src b.src = 0
  · rw [if_pos h, cmpStr_neg]
    have h1 := cmpStr_zero.1 h
    constructor
    · exact fun h2 => .inr ⟨h1, h2⟩
    · rintro (h2 | h2)
      · rw [h1, strLt_irrefl] at h2; exact absurd h2 (by decide)
      · exact h2.2
  · rw [if_neg h, cmpStr_neg]
    constructor
    · exact fun h2 => .inl h2
    · rintro (h2 | h2)
      · exact h2
      · exact absurd (cmpStr_zero.2 h2.1) h
theorem flwCmp_total {a b : Flw} (h : ¬ flwCmp b a < 0) (hne : ¬ (a.src = b.src ∧ a.dst = b.dst)) : flwCmp a b < 0 := by
  rw [flwCmp_neg] at h ⊢
  cases h1 : strLt a.src b.src with
  | true => exact .inl rfl
  | false =>
    have h2 : strLt b.src a.src = false := by
      cases h3 : strLt b.src a.src with
      | false => rfl
      | true => exact absurd (.inl h3) h
    have h4 := strLt_total h1 h2
    refine .inr ⟨h4, ?_⟩
    cases h5 : strLt a.dst b.dst with
    | true => rfl
    | false =>
      have h6 : strLt b.dst a.dst = false := by
        cases h7 : strLt b.dst a.dst with
        | false => rfl
        | true => exact absurd (.inr ⟨h4.symm, h7⟩) h
      exact absurd ⟨h4, strLt_total h5 h6⟩ hne
theorem flwCmp_trans {a b c : Flw} (h : flwCmp a b < 0) (k : flwCmp b c < 0) : flwCmp a c < 0 := by
  rw [flwCmp_neg] at h k ⊢
  rcases h with h | ⟨h1, h2⟩
  · rcases k with k | ⟨k1, k2⟩
    · exact .inl (strLt_trans h k)
    · exact .inl (k1 ▸ h)
  · rcases k with k | ⟨k1, k2⟩
    · exact .inl (h1 ▸ k)
    · exact .inr ⟨h1.trans k1, strLt_trans h2 k2⟩
theorem flwCmp_irrefl (a : Flw) : ¬ flwCmp a a < 0 := by rw [flwCmp_zero.2 ⟨rfl, rfl⟩]; decide
theorem flwCmp_nt {a b c : Flw} (h : ¬ flwCmp a b < 0) (k : ¬ flwCmp b c < 0) : ¬ flwCmp a c < 0 := fun hc => by
  by_cases e1 : b.src = a.src ∧ b.dst = a.dst
  · refine k ?_
    rw [flwCmp_neg] at hc ⊢
    rw [e1.1, e1.2]; exact hc
  · by_cases e2 : c.src = b.src ∧ c.dst = b.dst
    · refine h ?_
      rw [flwCmp_neg] at hc ⊢
      rw [← e2.1, ← e2.2]; exact hc
    · have h1 := flwCmp_total h e1
      have h2 := flwCmp_total k e2
      exact flwCmp_irrefl _ (flwCmp_trans hc (flwCmp_trans h2 h1))
theorem sameF_of {L rows : List Flw} {m : List (Pr × Int)} (hn : (m.map (·.1)).Nodup) (hp : L.Perm (m.map mkF)) (hr : rows.Perm L) (ho : ∀ (i j : Nat) (a b : Flw), i < j → rows[i]? = some a → rows[j]? = some b → ¬ flwCmp b a < 0) : SameF rows m := by
  refine ⟨hr.trans hp, ?_⟩
  have h1 : (rows.map fun f => ((f.src, f.dst) : Pr)).Nodup := by
    have h2 := ((hr.trans hp).map fun f => ((f.src, f.dst) : Pr))
    rw [List.map_map] at h2
    exact (h2.pairwise_iff (R := (· ≠ ·)) fun h => Ne.symm h).2 hn
  rw [List.nodup_iff_pairwise_ne, List.pairwise_map] at h1
  rw [List.pairwise_iff_getElem] at h1 ⊢
  intro i j hi hj hij
  have h3 := h1 i j hi hj hij
  have h4 := ho i j _ _ hij (List.getElem?_eq_getElem hi) (List.getElem?_eq_getElem hj)
  exact flwCmp_total h4 fun e => h3 (Prod.ext e.1 e.2)
theorem cmpStr_tr {a b c : ByteArray} (h : cmpStr a b < 0) (k : cmpStr b c < 0) : cmpStr a c < 0 := by
  rw [cmpStr_neg] at h k ⊢; exact strLt_trans h k
theorem cmpStr_irr (a : ByteArray) : ¬ cmpStr a a < 0 := by rw [cmpStr_zero.2 rfl]; decide
theorem cmpStr_nt {a b c : ByteArray} (h : ¬ cmpStr a b < 0) (k : ¬ cmpStr b c < 0) : ¬ cmpStr a c < 0 := fun hc => by
  rw [cmpStr_neg] at h k hc
  by_cases e : strLt b a = true
  · exact k (strLt_trans e hc)
  · have h1 : a = b := strLt_total (by simpa using h) (by simpa using e)
    rw [h1] at hc; exact k hc
end Go.Proofs.YtebcjijpdhbcdaaGreat

namespace Go.En
open Go.RowKit Go.Cb
theorem AFg.exact2 {P : Program} {g : Nat} {p q : PV} {x : Value} (h : AFg P g [p, q] (· = .val x)) {M : BS} {W : World} {u v : Value} (hu : Shr M W u p) (hv : Shr M W v q) :
    Calls P g #[u, v] W fun e w' => e = .returned x ∧ ∃ q os', w' = Go.Sort.grow (W.drewN q) os' := h.exact (vs := [u, v]) rfl fun i a r h1 h2 => by
  match i with
  | 0 => simp at h1 h2; subst h1 h2; exact hu
  | 1 => simp at h1 h2; subst h1 h2; exact hv
  | i + 2 => simp at h1
end Go.En
namespace Go.Proofs.YtebcjijpdhbcdaaGreat
open Go.RowKit Go.Cb Go.En
set_option linter.all false
set_option maxRecDepth 100000

theorem tEl25_LdA : ElT Tryz.prog 25 44 2 24 (.agg #[(.string ByteArray.empty), (.int .i64 0)]) := ⟨Tryz.underlying25, by kernel_rfl, rfl, by decide⟩
theorem tEl63_LdA : ElT Tryz.prog 63 3 1 8 (.int .i64 0) := ⟨Tryz.underlying63, by kernel_rfl, rfl, by decide⟩
theorem tFl44_0_LdA : FldT Tryz.prog 44 0 0 = true := by kernel_rfl
theorem tFl47_0_LdA : FldT Tryz.prog 47 0 0 = true := by kernel_rfl
theorem tFl47_1_LdA : FldT Tryz.prog 47 1 1 = true := by kernel_rfl
theorem tNa3_LdA : NoAgg Tryz.prog 3 = true := by kernel_rfl
theorem tNa9_LdA : NoAgg Tryz.prog 9 = true := by kernel_rfl
theorem tSl63_LdA : SlT Tryz.prog 63 3 1 = true := by kernel_rfl
theorem tSt44_LdA : stInfo Tryz.prog 44 = some ((.agg #[(.string ByteArray.empty), (.int .i64 0)]), ([0, 1] : List Nat).map fun o => (o, 1)) := by kernel_rfl

theorem isNaNStr_g (s : ByteArray) : AFg Tryz.prog 128 [pStr s] (· = pBool false) := by
  refine AFg.of_body 6 Tryz.func128 rfl Tryz.ntmps128 (Nat.le_of_ble_eq_true rfl) ?_
  intro w0 M0 vs hl hv
  obtain ⟨v0, rfl⟩ := len1 hl
  obtain rfl := hv 0 _ _ rfl rfl
  clear hl hv
  refine nav ?_
  (refine aC_region ?_
    <;> refine xL 2 q_assign ?_
    <;> refine aL_end (nav ?_) <;> try dsimp only)
  (refine aC_region ?_
    <;> refine xL 3 q_move ?_
    <;> refine xL 4 q_move ?_
    <;> refine xL 5 q_sneq ?_
    <;> refine xL 2 q_assign ?_
    <;> refine aL_end (nav ?_) <;> try dsimp only)
  refine ret_shr (Tryz.results128) rfl ?_
  simp
theorem cmpString_g (a b : ByteArray) : AFg Tryz.prog 101 [pStr a, pStr b] (· = pInt (cmpStr a b)) := by
  refine AFg.of_body 20 Tryz.func101 rfl Tryz.ntmps101 (Nat.le_of_ble_eq_true rfl) ?_
  intro w0 M0 vs hl hv
  obtain ⟨v0, v1, rfl⟩ := len2 hl
  obtain rfl := hv 0 _ _ rfl rfl
  obtain rfl := hv 1 _ _ rfl rfl
  clear hl hv
  refine nav ?_
  (refine aC_region ?_
    <;> refine xL 4 q_assign ?_
    <;> refine aL_end (nav ?_) <;> try dsimp only)
  (refine aC_region ?_
    <;> refine xL 7 q_move ?_
    <;> (refine cS 8 (cA Tryz.call128 (isNaNStr_g a)) fun v8 hv8 => ?_; cases hv8)
    <;> refine xL 5 q_assign ?_
    <;> refine aL_end (nav ?_) <;> try dsimp only)
  (refine aC_region ?_
    <;> refine xL 9 q_move ?_
    <;> (refine cS 10 (cA Tryz.call128 (isNaNStr_g b)) fun v10 hv10 => ?_; cases hv10)
    <;> refine xL 6 q_assign ?_
    <;> refine aL_end (nav ?_) <;> try dsimp only)
  (refine aC_region ?_
    <;> refine xL 11 q_move ?_
    <;> refine aL_end (nav ?_) <;> try dsimp only)
  refine cCf ?_
  refine nav ?_
  (refine aC_region ?_
    <;> refine xL 13 q_move ?_
    <;> refine aL_end (nav ?_) <;> try dsimp only)
  refine cCf ?_
  refine nav ?_
  (refine aC_region ?_
    <;> refine xL 14 q_move ?_
    <;> refine xL 15 q_move ?_
    <;> refine xL 16 q_slss ?_
    <;> refine aL_end (nav ?_) <;> try dsimp only)
  first | refine cCd (fun hb16 => ?_) (fun hb16 => ?_) | refine cC (fun hb16 => ?_) (fun hb16 => ?_)
  · first
    | exact Bool.noConfusion hb16
    | (
     refine nav ?_
     (refine aC_region ?_
       <;> refine xL 4 q_assign ?_
       <;> refine aL_end (nav ?_) <;> try dsimp only)
     refine ret_shr (Tryz.results101) rfl ?_
     rw [cmpStr_lt hb16])
  · first
    | exact Bool.noConfusion hb16
    | (
     refine nav ?_
     (refine aC_region ?_
       <;> refine xL 17 q_move ?_
       <;> refine xL 18 q_move ?_
       <;> refine xL 19 q_sgtr ?_
       <;> refine aL_end (nav ?_) <;> try dsimp only)
     first | refine cCd (fun hb19 => ?_) (fun hb19 => ?_) | refine cC (fun hb19 => ?_) (fun hb19 => ?_)
     · first
       | exact Bool.noConfusion hb19
       | (
        refine nav ?_
        (refine aC_region ?_
          <;> refine xL 4 q_assign ?_
          <;> refine aL_end (nav ?_) <;> try dsimp only)
        refine ret_shr (Tryz.results101) rfl ?_
        rw [cmpStr_gt hb19])
     · first
       | exact Bool.noConfusion hb19
       | (
        refine nav ?_
        (refine aC_region ?_
          <;> refine xL 4 q_assign ?_
          <;> refine aL_end (nav ?_) <;> try dsimp only)
        refine ret_shr (Tryz.results101) rfl ?_
        rw [cmpStr_eq hb16 hb19]))
theorem cmpOr_g (l : List Int) : AFg Tryz.prog 100 [pInts l] (· = pInt (firstNZ l)) := by
  refine AFg.of_body 18 Tryz.func100 rfl Tryz.ntmps100 (Nat.le_of_ble_eq_true rfl) ?_
  intro w0 M0 vs hl hv
  obtain ⟨v0, rfl⟩ := len1 hl
  clear hl hv
  refine aC_slen 0 rfl fun hlen => ?_
  refine nav ?_
  (refine aC_region ?_
    <;> refine xL 2 q_assign ?_
    <;> refine aL_end (nav ?_) <;> try dsimp only)
  (refine aC_region ?_
    <;> refine xL 3 q_assign ?_
    <;> refine aL_end (nav ?_) <;> try dsimp only)
  (refine aC_region ?_
    <;> refine xL 6 q_move ?_
    <;> refine xL 7 (q_len tSl63_LdA) ?_
    <;> refine xL 8 q_move ?_
    <;> refine aL_end (nav ?_) <;> try dsimp only)
  refine aC_loop (ι := { k : Nat // k ≤ l.length ∧ firstNZ l = firstNZ (l.drop k) }) (fun k => ⟨[(3, _, _), (6, _, _), (7, _, _), (8, .int .i64 k.1, pInt k.1)], []⟩) (fun k => l.length - k.1) ⟨0, by omega, rfl⟩ (fun a w H => H.weaken ⟨rfl, rfl, rfl, rfl, trivial⟩ trivial) ?_
  rintro ⟨k, hk, hp⟩
  dsimp only
  refine nav ?_
  (refine aC_region ?_
    <;> refine xL 9 q_lss ?_
    <;> refine aL_end (nav ?_) <;> try dsimp only)
  first | refine cCd (fun hb9 => ?_) (fun hb9 => ?_) | refine cC (fun hb9 => ?_) (fun hb9 => ?_)
  · first
    | exact Bool.noConfusion hb9
    | (
     obtain ⟨x, hx⟩ := get_some (show k < l.length by omega)
     have e1 := map_at (f := pInt) hx
     have hs : firstNZ (l.drop k) = if x = 0 then firstNZ (l.drop (k + 1)) else x := by rw [drop_at hx, firstNZ]
     refine nav ?_
     (refine aC_region ?_
       <;> refine xL 10 (q_idxN tSl63_LdA) ?_
       <;> (refine yL 11 (q_ld tNa3_LdA) fun v11 hv11 => ?_; cases hv11)
       <;> refine xL 5 q_assign ?_
       <;> refine aL_end (nav ?_) <;> try dsimp only)
     (refine aC_region ?_
       <;> refine xL 12 q_move ?_
       <;> refine xL 13 q_move ?_
       <;> refine xL 14 q_neq ?_
       <;> refine aL_end (nav ?_) <;> try dsimp only)
     first | refine cCd (fun hb14 => ?_) (fun hb14 => ?_) | refine cC (fun hb14 => ?_) (fun hb14 => ?_)
     · first
       | exact Bool.noConfusion hb14
       | (
        refine nav ?_
        (refine aC_region ?_
          <;> refine xL 15 q_move ?_
          <;> refine xL 2 q_assign ?_
          <;> refine aL_end (nav ?_) <;> try dsimp only)
        refine ret_shr (Tryz.results100) rfl ?_
        rw [hp, hs, if_neg hb14])
     · first
       | exact Bool.noConfusion hb14
       | (
        refine nav ?_
        (refine aC_region ?_
          <;> refine xL 16 q_add ?_
          <;> refine xL 8 q_move ?_
          <;> refine aL_end (nav ?_) <;> try dsimp only)
        refine aN_again (
          ⟨k + 1, by omega, by rw [hp, hs, if_pos (by simpa using hb14)]⟩
          ) (by dsimp only; omega) ⟨rfl, rfl, rfl, rfl, trivial⟩ trivial))
  · first
    | exact Bool.noConfusion hb9
    | (
     refine nav ?_
     (refine aC_region ?_
       <;> refine xL 17 q_move ?_
       <;> refine xL 2 q_assign ?_
       <;> refine aL_end (nav ?_) <;> try dsimp only)
     refine ret_shr (Tryz.results100) rfl ?_
     rw [hp, List.drop_eq_nil_of_le (by omega)]; rfl)
theorem dFollows_g (a b : Flw) : AFg Tryz.prog 59 [.agg (cFlw a), .agg (cFlw b)] (· = pInt (flwCmp a b)) := by
  refine AFg.of_body 17 Tryz.func59 rfl Tryz.ntmps59 (Nat.le_of_ble_eq_true rfl) ?_
  intro w0 M0 vs hl hv
  obtain ⟨v0, v1, rfl⟩ := len2 hl
  clear hl hv
  refine nav ?_
  (refine aC_region ?_
    <;> refine s_boxa 2 3 fun h2 => ?_
    <;> refine s_boxa 3 3 fun h3 => ?_
    <;> refine xL 4 q_assign ?_
    <;> refine aL_end (nav ?_) <;> try dsimp only)
  (refine aC_draw (fun i => ([] : List Nat).elem i) [2, 3] (by kernel_rfl) ?_
    <;> refine xD 0 5 rfl (q_fldo 2 tFl47_0_LdA) ?_
    <;> (refine yD 1 6 rfl (q_ldo 2 tNa9_LdA) fun v6 hv6 => ?_; cases hv6)
    <;> refine xD 2 7 rfl (q_fldo 3 tFl47_0_LdA) ?_
    <;> (refine yD 3 8 rfl (q_ldo 3 tNa9_LdA) fun v8 hv8 => ?_; cases hv8)
    <;> refine xD 5 10 rfl (q_fldo 2 tFl47_1_LdA) ?_
    <;> (refine yD 6 11 rfl (q_ldo 2 tNa9_LdA) fun v11 hv11 => ?_; cases hv11)
    <;> refine xD 7 12 rfl (q_fldo 3 tFl47_1_LdA) ?_
    <;> (refine yD 8 13 rfl (q_ldo 3 tNa9_LdA) fun v13 hv13 => ?_; cases hv13)
    <;> (refine aD_one 4 (by kernel_rfl) ?_)
    <;> (refine aW_run rfl fun w9 M9 N9 DQ back => ?_)
    <;> (refine cS 9 (cA Tryz.call101 (cmpString_g a.src b.src)) fun v9 hv9 => ?_; cases hv9)
    <;> refine aL_end (back _ (nrm ?_))
    <;> (refine aD_one 9 (by kernel_rfl) ?_)
    <;> (refine aW_run rfl fun w9 M9 N9 DQ back => ?_)
    <;> (refine cS 14 (cA Tryz.call101 (cmpString_g a.dst b.dst)) fun v14 hv14 => ?_; cases hv14)
    <;> refine aL_end (back _ (nrm ?_))
    <;> (refine aD_one 10 (by kernel_rfl) ?_)
    <;> (refine aW_run rfl fun w9 M9 N9 DQ back => ?_)
    <;> refine s_litn (xs := [_, _]) 15 tEl63_LdA fun h15 ho15 => ?_
    <;> refine aL_end (back _ (nrm ?_))
    <;> (refine aD_one 11 (by kernel_rfl) ?_)
    <;> (refine aW_run rfl fun w9 M9 N9 DQ back => ?_)
    <;> (refine aL_ent (En.freeze (l := 15) (t := 15) rfl rfl) fun _ => ?_; refine cS 16 (cA Tryz.call100 (cmpOr_g [cmpStr a.src b.src, cmpStr a.dst b.dst])) fun v16 hv16 => ?_; cases hv16)
    <;> refine aL_end (back _ (nrm ?_))
    <;> refine xE 12 4 rfl q_assign ?_
    <;> refine aD_end (by kernel_rfl) (nav ?_)
    <;> try dsimp only)
  refine ret_shr (Tryz.results59) rfl ?_
  unfold flwCmp firstNZ firstNZ firstNZ
  by_cases h : cmpStr a.src b.src = 0
  · rw [if_pos h, if_pos h]; split <;> simp_all
  · rw [if_neg h, if_neg h]
theorem dList1_g (a b : Cnt) : AFg Tryz.prog 123 [.agg (cCnt a), .agg (cCnt b)] (· = pInt (cmpStr a.name b.name)) := by
  refine AFg.of_body 10 Tryz.func123 rfl Tryz.ntmps123 (Nat.le_of_ble_eq_true rfl) ?_
  intro w0 M0 vs hl hv
  obtain ⟨v0, v1, rfl⟩ := len2 hl
  clear hl hv
  refine nav ?_
  (refine aC_region ?_
    <;> refine s_boxa 2 2 fun h2 => ?_
    <;> refine s_boxa 3 2 fun h3 => ?_
    <;> refine xL 4 q_assign ?_
    <;> refine aL_end (nav ?_) <;> try dsimp only)
  (refine aC_region ?_
    <;> refine xL 5 (q_fldo 2 tFl44_0_LdA) ?_
    <;> (refine yL 6 (q_ldo 2 tNa9_LdA) fun v6 hv6 => ?_; cases hv6)
    <;> refine xL 7 (q_fldo 3 tFl44_0_LdA) ?_
    <;> (refine yL 8 (q_ldo 3 tNa9_LdA) fun v8 hv8 => ?_; cases hv8)
    <;> (refine cS 9 (cA Tryz.call101 (cmpString_g a.name b.name)) fun v9 hv9 => ?_; cases hv9)
    <;> refine xL 4 q_assign ?_
    <;> refine aL_end (nav ?_) <;> try dsimp only)
  exact ret_shr Tryz.results123 rfl rfl
theorem tAggCnt : AggT Tryz.prog 44 2 = true := by kernel_rfl
theorem sortCnt_c : SortC Tryz.prog 122 123 2 := fun enc hk h1 cf hO blk cap d w hcmp hH hblk hsz =>
  AnyQ.slices_SortFunc Tryz.sortCntL 2 (fun w => AggT.run tAggCnt w) (fun w => AggT.size tAggCnt w) enc hk h1 cf hO 123 #[] blk 0 cap d w (Tryz.call123) hcmp hH hblk hsz
theorem sortCnt0_e (caps : List PV) : AF Tryz.prog 122 [.sl 0 [], .fn 123 caps] (· = .val (.tuple #[])) := fun M w vs hM hlen hv => by
  obtain ⟨v, fv, rfl⟩ := len2 hlen
  have hS := hv 0 v _ rfl rfl
  cases hS with
  | emp a c hc ha =>
    refine (AnyF.slices_SortFunc_none Tryz.sortCntL a c fv w).mono fun e w' ⟨h1, h2⟩ => ?_
    rw [h1, h2]
    exact ⟨_, _, fun _ => False, rfl, rfl, Ext.rfl' _, .shr (.val _) (fun _ h => h), fun b hb => hb.elim, fun h => h.elim⟩
  | sl b off n c cs vs' hnc hc hcell hT =>
    refine (AnyF.slices_SortFunc_none Tryz.sortCntL _ c fv w).mono fun e w' ⟨h1, h2⟩ => ?_
    rw [h1, h2]
    exact ⟨_, _, fun _ => False, rfl, rfl, Ext.rfl' _, .shr (.val _) (fun _ h => h), fun b hb => hb.elim, fun h => h.elim⟩
theorem left_lt {es : Array MapEntry} {seen : Array Nat} {e : MapEntry} {clock : Nat} (hW : WfM es clock) (he : e ∈ (leftOf es seen).toList) : (leftOf es (seen.push e.born)).size < (leftOf es seen).size := by
  have h := (left_next hW he).length_eq
  rw [List.length_cons, kvOf_len, kvOf_len] at h
  omega
theorem left_kv {es : Array MapEntry} {seen : Array Nat} {e : MapEntry} (he : e ∈ (leftOf es seen).toList) : (e.key, e.val) ∈ kvOf es := List.mem_map.2 ⟨e, left_mem he, rfl⟩
theorem app_flat {α : Type} {f : α → List PV} {L : List α} {c : α} {ps : List PV} (h : ps = f c) : L.flatMap f ++ ps = (L ++ [c]).flatMap f := by
  rw [List.flatMap_append, h]; simp
set_option maxHeartbeats 1000000 in
theorem dList_e (m : List (ByteArray × Int)) (hn : (m.map (·.1)).Nodup) (hl : m.length ≤ 1000000) : AF Tryz.prog 96 [.smap (skv (ivals m))] (fun p => ∃ L, SameC L m ∧ p = .own 44 2 L.length (L.flatMap cCnt)) := by
  refine AF.of_body 22 Tryz.func96 rfl Tryz.ntmps96 (Nat.le_of_ble_eq_true rfl) ?_
  intro w0 M0 vs hl hv
  obtain ⟨v0, rfl⟩ := len1 hl
  clear hl hv
  refine nav ?_
  (refine aC_region ?_
    <;> refine xL 2 q_assign ?_
    <;> refine aL_end (nav ?_) <;> try dsimp only)
  (refine aC_region ?_
    <;> refine xL 3 q_assign ?_
    <;> refine aL_end (nav ?_) <;> try dsimp only)
  (refine aC_region ?_
    <;> refine xL 6 q_move ?_
    <;> refine aL_range 7 Tryz.underlying93 (fun b7 r7 c7 es7 hkv7 hWf7 => ?_)
    <;> refine aL_end (nav ?_) <;> try dsimp only)
  refine aC_ent (nilOwn 200 44 2 rfl) fun _ => ?_
  refine aC_loop (ι := { x : Value × Array Nat × List Cnt // x.1.oneCell' = true ∧ (x.2.2 = [] → x.1 = .slice none 0 0) ∧ (x.2.2 ++ (kvOf (leftOf es7 x.2.1)).map decC).Perm (m.map mkC) }) (fun k => ⟨[(7, _, _), (3, k.1.1, .val k.1.1)], [(7, itv r7, itP b7 r7 c7 es7 k.1.2.1), (200, k.1.1, .own 44 2 k.1.2.2.length (k.1.2.2.flatMap cCnt))]⟩) (fun k => (leftOf es7 k.1.2.1).size) ⟨(.slice none 0 0, #[], []), rfl, fun _ => rfl, by rw [left_all, ← hkv7, dec_skv]; exact .refl _⟩ (fun a w H => H.weaken ⟨rfl, rfl, trivial⟩ ⟨rfl, rfl, trivial⟩) ?_
  rintro ⟨⟨hov, seen, L⟩, ho, hnil, hp⟩
  dsimp only
  dsimp only at ho hnil hp
  have hLl : L.length ≤ 1000000 := by
    have := hp.length_eq
    rw [List.length_append, List.length_map (f := mkC)] at this; omega
  have hLm : (L.flatMap cCnt).length = L.length * 2 := flat_len cCnt_len L
  refine nav ?_
  (refine aC_region ?_
    <;> refine aL_next 7 8 hWf7 (fun hlf7 => ?_) (fun e7 hle7 => ?_)
    <;> refine xL 9 q_extract ?_
    <;> refine aL_end (nav ?_) <;> try dsimp only) <;> (
   first | refine cCd (fun hb9 => ?_) (fun hb9 => ?_) | refine cC (fun hb9 => ?_) (fun hb9 => ?_)
   · first
     | exact Bool.noConfusion hb9
     | (
      refine nav ?_
      (refine aC_region ?_
        <;> refine xL 10 (q_entry 7 hWf7 (left_mem hle7)) ?_
        <;> refine xL 11 q_extract ?_
        <;> refine xL 12 q_extract ?_
        <;> refine xL 4 q_assign ?_
        <;> refine xL 5 q_assign ?_
        <;> refine aL_end (nav ?_) <;> try dsimp only)
      obtain ⟨s, n, hmem, hks, hvs⟩ := skv_mem (hkv7 ▸ left_kv hle7)
      dsimp only at hks hvs
      rw [hks, hvs]
      (refine aC_region ?_
        <;> refine xL 13 q_move ?_
        <;> refine xL 14 q_move ?_
        <;> refine xL 15 q_move ?_
        <;> refine xL 16 (q_build tSt44_LdA) ?_
        <;> refine s_lit1a 17 tEl25_LdA fun h17 ho17 => ?_
        <;> refine s_app 200 17 18 tEl25_LdA fun h18 ho18 => ?_
        <;> refine xL 3 q_assign ?_
        <;> refine aL_end (nav ?_) <;> try dsimp only)
      refine aN_ent (relabel (l := 18) 200 rfl rfl) fun _ => ?_
      rw [app_flat (f := cCnt) (L := L) (c := (⟨s, n⟩ : Cnt)) (by rfl), show L.length + 1 = (L ++ [(⟨s, n⟩ : Cnt)]).length by simp]
      refine aN_again (
        ⟨(h18, seen.push e7.born, L ++ [⟨s, n⟩]), ho18, fun h => absurd h (by simp), by
          refine .trans ?_ hp
          have h1 := (left_next hWf7 hle7).map decC
          rw [List.map_cons, hks, hvs] at h1
          show (L ++ [_] ++ _).Perm _
          rw [List.append_assoc]
          exact h1.symm.append_left L⟩
        ) (left_lt hWf7 hle7) ⟨rfl, rfl, trivial⟩ ⟨rfl, rfl, trivial⟩)
   · first
     | exact Bool.noConfusion hb9
     | (
      refine nav ?_
      have hp0 : L.Perm (m.map mkC) := by
        rw [hlf7] at hp
        have h1 : kvOf (#[] : Array MapEntry) = [] := rfl
        rw [h1, List.map_nil, List.append_nil] at hp
        exact hp
      (refine aC_region ?_
        <;> refine xL 19 q_move ?_
        <;> (by_cases hL : L = [] <;> first | (subst hL; obtain rfl := hnil rfl; refine aL_ent (En.freeze (l := 200) (t := 19) rfl rfl) fun _ => ?_; refine cS 20 (cA Tryz.call122 (sortCnt0_e [])) fun v20 hv20 => ?_; cases hv20) | (refine aL_sort (l := 200) (β := Cnt) (f := cCnt) (cmp := fun a b => cmpStr a.name b.name) (rows := L) sortCnt_c (fun _ => rfl) (by decide) (fun _ => rfl) (fun a => cmpStr_irr _) (fun a b c => cmpStr_tr) (fun a b c => cmpStr_nt) (fun x y M W u v _ _ hu hv => (dList1_g x y).exact2 hu hv) (List.length_pos_iff.2 hL) (by omega) rfl rfl (Nat.le_of_ble_eq_true rfl) rfl (Tryz.call122) rfl rfl rfl (fun rows' hperm hord => ?_)))
        <;> refine aL_end (nav ?_) <;> try dsimp only) <;> (
       (refine aC_region ?_
         <;> refine xL 21 q_move ?_
         <;> refine xL 2 q_assign ?_
         <;> refine aL_end (nav ?_) <;> try dsimp only)
       first
         | exact ret_own 200 (Tryz.results96) rfl rfl ⟨rows', sameC_of hn hp0 hperm hord, by rw [hperm.length_eq]⟩
         | (refine aR_ent (nilOwn 201 44 2 rfl) fun _ => ?_
            exact ret_own 201 (Tryz.results96) rfl rfl ⟨[], sameC_of hn hp0 (.refl _) (fun i j a b _ h => by simp at h), rfl⟩))))
end Go.Proofs.YtebcjijpdhbcdaaGreat

namespace Go.Proofs.YtebcjijpdhbcdaaGreat
open Go.RowKit Go.Cb Go.En
set_option linter.all false

structure M4 where
  a : List (ByteArray × Int)
  s : List (ByteArray × Int)
  f : List (ByteArray × Int)
  q : List (Pr × Int)
def pairsOf : List ByteArray → List Pr
  | a :: b :: l => (a, b) :: pairsOf (b :: l)
  | _ => []
section
variable {κ : Type} [DecidableEq κ]
def addAll (m : List (κ × Int)) (ks : List κ) (c : Int) : List (κ × Int) := ks.foldl (fun m k => iadd m k c) m
theorem addAll_snoc (m : List (κ × Int)) (ks : List κ) (k : κ) (c : Int) : addAll m (ks ++ [k]) c = iadd (addAll m ks c) k c := by
  unfold addAll; rw [List.foldl_append]; rfl
structure MOk (m : List (κ × Int)) (b : Nat) : Prop where
  nd : (m.map (·.1)).Nodup
  len : m.length ≤ b
  bd : ∀ x ∈ m, 0 ≤ x.2 ∧ x.2 ≤ b * 1048576
theorem MOk.nil : MOk ([] : List (κ × Int)) 0 := ⟨List.nodup_nil, Nat.le_refl _, fun x h => by simp at h⟩
theorem MOk.mono {m : List (κ × Int)} {b b' : Nat} (h : MOk m b) (hb : b ≤ b') : MOk m b' := ⟨h.nd, Nat.le_trans h.len hb, fun x hx => by
  have := h.bd x hx
  have h2 : (b : Int) * 1048576 ≤ b' * 1048576 := by omega
  omega⟩
theorem MOk.get {m : List (κ × Int)} {b : Nat} (h : MOk m b) (k : κ) : 0 ≤ iget m k ∧ iget m k ≤ b * 1048576 := by
  have key : ∀ (m : List (κ × Int)), (∀ x ∈ m, 0 ≤ x.2 ∧ x.2 ≤ (b : Int) * 1048576) → 0 ≤ iget m k ∧ iget m k ≤ b * 1048576 := fun m => by
    induction m with
    | nil => intro _; rw [iget]; omega
    | cons x m ih =>
      intro h
      rw [iget]
      split
      · exact h x (by simp)
      · exact ih fun y hy => h y (by simp [hy])
  exact key m h.bd
theorem iput_mem {m : List (κ × Int)} {k : κ} {v : Int} {x : κ × Int} (h : x ∈ iput m k v) : x = (k, v) ∨ x ∈ m := by
  induction m with
  | nil => rw [iput, List.mem_singleton] at h; exact .inl h
  | cons y m ih =>
    rw [iput] at h
    split at h
    · rcases List.mem_cons.1 h with h | h
      · exact .inl h
      · exact .inr (by simp [h])
    · rcases List.mem_cons.1 h with h | h
      · exact .inr (by simp [h])
      · rcases ih h with h | h
        · exact .inl h
        · exact .inr (by simp [h])
theorem MOk.add {m : List (κ × Int)} {b : Nat} (h : MOk m b) {k : κ} {n : Int} (h0 : 0 ≤ n) (h1 : n ≤ 1048576) : MOk (iadd m k n) (b + 1) := by
  refine ⟨iput_nodup h.nd, Nat.le_trans (iput_len _ _ _) (Nat.succ_le_succ h.len), fun x hx => ?_⟩
  rcases iput_mem hx with rfl | hx
  · have := h.get k
    dsimp only
    omega
  · have := h.bd x hx
    omega
theorem MOk.addAll {n : Int} (h0 : 0 ≤ n) (h1 : n ≤ 1048576) : ∀ {ks : List κ} {b : Nat} {m : List (κ × Int)}, MOk m b → MOk (addAll m ks n) (b + ks.length)
  | [], b, m, h => h
  | k :: ks, b, m, h => by
    have := MOk.addAll h0 h1 (ks := ks) (h.add (k := k) h0 h1)
    rw [List.length_cons, show b + (ks.length + 1) = b + 1 + ks.length by omega]
    exact this
theorem iadd_keys {m : List (κ × Int)} {k : κ} {n : Int} {p : κ → Prop} (h : ∀ x ∈ m, p x.1) (hk : p k) : ∀ x ∈ iadd m k n, p x.1 := fun x hx => by
  rcases iput_mem hx with rfl | hx
  · exact hk
  · exact h x hx
theorem addAll_keys {c : Int} {p : κ → Prop} : ∀ {ks : List κ} {m : List (κ × Int)}, (∀ x ∈ m, p x.1) → (∀ k ∈ ks, p k) → ∀ x ∈ addAll m ks c, p x.1
  | [], m, h, _ => h
  | k :: ks, m, h, hk => addAll_keys (ks := ks) (iadd_keys h (hk k (by simp))) fun y hy => hk y (by simp [hy])
end
def mk1 (st : M4) (x : Var) : M4 := ⟨addAll st.a x.acts x.count, (match x.acts with | [] => st.s | s :: _ => iadd st.s s x.count), (match x.acts.getLast? with | some s => iadd st.f s x.count | none => st.f), addAll st.q (pairsOf x.acts) x.count⟩
def makeM (l : List Var) : M4 := l.foldl mk1 ⟨[], [], [], []⟩
theorem makeM_snoc {l : List Var} {k : Nat} {x : Var} (h : l[k]? = some x) : makeM (l.take (k + 1)) = mk1 (makeM (l.take k)) x := by
  unfold makeM; rw [take_snoc h, List.foldl_append]; rfl
theorem pairs_len : ∀ l : List ByteArray, (pairsOf l).length ≤ l.length
  | [] => Nat.le_refl _
  | [a] => Nat.zero_le _
  | a :: b :: l => by rw [pairsOf, List.length_cons, List.length_cons]; have := pairs_len (b :: l); omega
theorem pairs_mem : ∀ {l : List ByteArray} {p : Pr}, p ∈ pairsOf l → p.1 ∈ l ∧ p.2 ∈ l
  | [], p, h => by simp [pairsOf] at h
  | [a], p, h => by simp [pairsOf] at h
  | a :: b :: l, p, h => by
    rw [pairsOf] at h
    rcases List.mem_cons.1 h with rfl | h
    · exact ⟨by simp, by simp⟩
    · have := pairs_mem h
      exact ⟨List.mem_cons_of_mem _ this.1, List.mem_cons_of_mem _ this.2⟩
theorem pairs_snoc : ∀ (l : List ByteArray) (a b : ByteArray), pairsOf (l ++ [a] ++ [b]) = pairsOf (l ++ [a]) ++ [(a, b)]
  | [], a, b => rfl
  | [x], a, b => rfl
  | x :: y :: l, a, b => by
    show (x, y) :: pairsOf (y :: l ++ [a] ++ [b]) = (x, y) :: pairsOf (y :: l ++ [a]) ++ [(a, b)]
    rw [pairs_snoc (y :: l) a b]; rfl
theorem pairs_step {w : List ByteArray} {j : Nat} {a b : ByteArray} (ha : w[j]? = some a) (hb : w[j + 1]? = some b) : pairsOf (w.take (j + 1 + 1)) = pairsOf (w.take (j + 1)) ++ [(a, b)] := by
  rw [take_snoc hb, take_snoc ha]; exact pairs_snoc _ _ _
theorem pairs_one {w : List ByteArray} {b : ByteArray} (hb : w[0]? = some b) : pairsOf (w.take (0 + 1)) = [] := by
  rw [take_snoc hb]; rfl
theorem name_sz {s : ByteArray} (h : isName s = true) : s.size ≤ 40 := by
  unfold isName at h
  simp only [Bool.and_eq_true, decide_eq_true_eq, List.all_eq_true] at h
  exact h.1.1.2
structure KOk (st : M4) (b : Nat) : Prop where
  a : MOk st.a b
  s : MOk st.s b
  f : MOk st.f b
  q : MOk st.q b
  k : ∀ x ∈ st.q, prOk x.1
theorem KOk.step {st : M4} {b : Nat} {x : Var} (h : KOk st b) (hx : okVar x = true) : KOk (mk1 st x) (b + 200) := by
  unfold okVar at hx
  simp only [Bool.and_eq_true, decide_eq_true_eq, List.all_eq_true] at hx
  obtain ⟨⟨⟨h1, h2⟩, h3⟩, h4⟩ := hx
  have hp := pairs_len x.acts
  refine ⟨(h.a.addAll (by omega) h4).mono (by omega), ?_, ?_, (h.q.addAll (by omega) h4).mono (by omega), addAll_keys h.k fun k hk => ?_⟩
  · unfold mk1
    dsimp only
    split
    · exact h.s.mono (by omega)
    · exact (h.s.add (by omega) h4).mono (by omega)
  · unfold mk1
    dsimp only
    split
    · exact (h.f.add (by omega) h4).mono (by omega)
    · exact h.f.mono (by omega)
  · have := pairs_mem hk
    have n1 := name_sz (h2 _ this.1)
    have n2 := name_sz (h2 _ this.2)
    exact ⟨by omega, by omega⟩
theorem KOk.all {l : List Var} (hl : ∀ x ∈ l, okVar x = true) : ∀ k, k ≤ l.length → KOk (makeM (l.take k)) (k * 200)
  | 0, _ => ⟨MOk.nil, MOk.nil, MOk.nil, MOk.nil, fun x h => by simp [makeM] at h⟩
  | k + 1, hk => by
    obtain ⟨x, hx⟩ := get_some (show k < l.length by omega)
    rw [makeM_snoc hx, Nat.add_mul]
    exact (KOk.all hl k (by omega)).step (hl x (List.mem_of_getElem? hx))
end Go.Proofs.YtebcjijpdhbcdaaGreat

namespace Go.En
open Go.RowKit Go.Cb
theorem splitAgg {sL hP : List (Nat × Ent)} {t : Nat} {vs : List Value} {q : PV} (ht : lk sL t = some (.agg vs.toArray, q)) : EntE (⟨sL, hP⟩ : St) (fun _ : Unit => ⟨put t (.agg vs.toArray, .agg (vs.map .val)) sL, hP⟩) := fun c a w ⟨F, H⟩ => by
  refine ⟨(), F, H.toHeapF, fun s u r hs => ?_, H.size, H.df⟩
  rcases lk_put hs with ⟨rfl, e⟩ | ⟨_, e⟩
  · cases e
    refine ⟨(H.sl _ _ _ ht).1, .agg _ _ (by rw [List.length_map]) fun i v p hv hp => ?_⟩
    rw [List.getElem?_map, hv] at hp
    cases hp
    exact .val _
  · exact H.sl s u r e
end Go.En
namespace Go.Proofs.YtebcjijpdhbcdaaGreat
open Go.RowKit Go.Cb Go.En
set_option linter.all false
set_option maxRecDepth 100000

theorem tAgg28_LdB : AggT Tryz.prog 28 4 = true := by kernel_rfl
theorem tAr97_LdB : ArrT Tryz.prog 97 2 = true := by kernel_rfl
theorem tEl26_LdB : ElT Tryz.prog 26 47 3 40 (.agg #[(.string ByteArray.empty), (.string ByteArray.empty), (.int .i64 0)]) := ⟨Tryz.underlying26, by kernel_rfl, rfl, by decide⟩
theorem tFl28_3_LdB : FldT Tryz.prog 28 3 3 = true := by kernel_rfl
theorem tFl96_0_LdB : FldT Tryz.prog 96 0 0 = true := by kernel_rfl
theorem tFl96_1_LdB : FldT Tryz.prog 96 1 1 = true := by kernel_rfl
theorem tFl96_2_LdB : FldT Tryz.prog 96 2 2 = true := by kernel_rfl
theorem tFl96_3_LdB : FldT Tryz.prog 96 3 3 = true := by kernel_rfl
theorem tNa26_LdB : NoAgg Tryz.prog 26 = true := by kernel_rfl
theorem tNa93_LdB : NoAgg Tryz.prog 93 = true := by kernel_rfl
theorem tNa94_LdB : NoAgg Tryz.prog 94 = true := by kernel_rfl
theorem tNa9_LdB : NoAgg Tryz.prog 9 = true := by kernel_rfl
theorem tSt28_LdB : stInfo Tryz.prog 28 = some ((.agg #[(.slice none 0 0), (.slice none 0 0), (.slice none 0 0), (.slice none 0 0)]), ([0, 1, 2, 3] : List Nat).map fun o => (o, 1)) := by kernel_rfl
theorem tSt47_LdB : stInfo Tryz.prog 47 = some ((.agg #[(.string ByteArray.empty), (.string ByteArray.empty), (.int .i64 0)]), ([0, 1, 2] : List Nat).map fun o => (o, 1)) := by kernel_rfl
theorem tSt96_LdB : stInfo Tryz.prog 96 = some ((.agg #[(.map none), (.map none), (.map none), (.map none)]), ([0, 1, 2, 3] : List Nat).map fun o => (o, 1)) := by kernel_rfl
theorem tSz26_LdB : (Tryz.prog.info? 26).map (·.size) = some 1 := by kernel_rfl
theorem tZr28_LdB : ZeroT Tryz.prog 28 (.agg #[(.slice none 0 0), (.slice none 0 0), (.slice none 0 0), (.slice none 0 0)]) := by unfold ZeroT; kernel_rfl
theorem tZr97_LdB : ZeroT Tryz.prog 97 (.agg #[(.string ByteArray.empty), (.string ByteArray.empty)]) := by unfold ZeroT; kernel_rfl

theorem dNewCounter_e : AF Tryz.prog 48 [] (· = .obox 96 4 [.omap [], .omap [], .omap [], .omap []]) := by
  refine AF.of_body 7 Tryz.func48 rfl Tryz.ntmps48 (Nat.le_of_ble_eq_true rfl) ?_
  intro w0 M0 vs hl hv
  obtain rfl := List.eq_nil_of_length_eq_zero hl
  clear hl hv
  refine nav ?_
  (refine aC_region ?_
    <;> refine xL 0 q_assign ?_
    <;> refine aL_end (nav ?_) <;> try dsimp only)
  (refine aC_region ?_
    <;> refine s_mkmap 1 fun h1 ho1 => ?_
    <;> refine s_mkmap 2 fun h2 ho2 => ?_
    <;> refine s_mkmap 3 fun h3 ho3 => ?_
    <;> refine s_mkmap 4 fun h4 ho4 => ?_
    <;> refine xL 5 (q_build tSt96_LdB) ?_
    <;> refine s_boxa 6 4 fun h6 => ?_
    <;> refine xL 0 q_assign ?_
    <;> refine aL_end (nav ?_) <;> try dsimp only)
  refine aR_ent (fold (l := 6) (l' := 1) (j := 0) rfl rfl rfl rfl) fun _ => ?_
  refine aR_ent (fold (l := 6) (l' := 2) (j := 1) rfl rfl rfl rfl) fun _ => ?_
  refine aR_ent (fold (l := 6) (l' := 3) (j := 2) rfl rfl rfl rfl) fun _ => ?_
  refine aR_ent (fold (l := 6) (l' := 4) (j := 3) rfl rfl rfl rfl) fun _ => ?_
  exact ret_obox 6 (Tryz.results48) rfl rfl rfl
theorem tAggFlw : AggT Tryz.prog 47 3 = true := by kernel_rfl
theorem tAggPr : AggT Tryz.prog 97 2 = true := by kernel_rfl
theorem sortFlw_c : SortC Tryz.prog 97 59 3 := fun enc hk h1 cf hO blk cap d w hcmp hH hblk hsz =>
  AnyQ.slices_SortFunc Tryz.sortFlwL 3 (fun w => AggT.run tAggFlw w) (fun w => AggT.size tAggFlw w) enc hk h1 cf hO 59 #[] blk 0 cap d w (Tryz.call59) hcmp hH hblk hsz
theorem sortFlw0_e (caps : List PV) : AF Tryz.prog 97 [.sl 0 [], .fn 59 caps] (· = .val (.tuple #[])) := fun M w vs hM hlen hv => by
  obtain ⟨v, fv, rfl⟩ := len2 hlen
  have hS := hv 0 v _ rfl rfl
  cases hS with
  | emp a c hc ha =>
    refine (AnyF.slices_SortFunc_none Tryz.sortFlwL a c fv w).mono fun e w' ⟨h1, h2⟩ => ?_
    rw [h1, h2]
    exact ⟨_, _, fun _ => False, rfl, rfl, Ext.rfl' _, .shr (.val _) (fun _ h => h), fun b hb => hb.elim, fun h => h.elim⟩
  | sl b off n c cs vs' hnc hc hcell hT =>
    refine (AnyF.slices_SortFunc_none Tryz.sortFlwL _ c fv w).mono fun e w' ⟨h1, h2⟩ => ?_
    rw [h1, h2]
    exact ⟨_, _, fun _ => False, rfl, rfl, Ext.rfl' _, .shr (.val _) (fun _ h => h), fun b hb => hb.elim, fun h => h.elim⟩
theorem share_cntsD (e n : Nat) (l : List Cnt) (hn : n = l.length) : share (.own e 2 n (l.flatMap cCnt)) = pCnts l := by
  subst hn
  rw [share, shares_eq, List.map_flatMap]; rfl
theorem share_flws (e n : Nat) (l : List Flw) (hn : n = l.length) : share (.own e 3 n (l.flatMap cFlw)) = pFlws l := by
  subst hn
  rw [share, shares_eq, List.map_flatMap]; rfl
def SameG (g : Dfg) (st : M4) : Prop := SameC g.acts st.a ∧ SameC g.starts st.s ∧ SameC g.ends st.f ∧ SameF g.follows st.q
set_option maxHeartbeats 2000000 in
theorem dGraph_e (st : M4) (b : Nat) (hb : b ≤ 1000000) (hk : KOk st b) : AF Tryz.prog 49 [.sptr 0 [.smap (skv (ivals st.a)), .smap (skv (ivals st.s)), .smap (skv (ivals st.f)), .smap (akv (ivals st.q))]] (fun p => ∃ g, SameG g st ∧ p = pDfg g) := by
  have l1 := hk.a.len
  have l2 := hk.s.len
  have l3 := hk.f.len
  have l4 := hk.q.len
  refine AF.of_body 47 Tryz.func49 rfl Tryz.ntmps49 (Nat.le_of_ble_eq_true rfl) ?_
  intro w0 M0 vs hl hv
  obtain ⟨v0, rfl⟩ := len1 hl
  clear hl hv
  refine nav ?_
  (refine aC_region ?_
    <;> refine s_alloc [(.slice none 0 0), (.slice none 0 0), (.slice none 0 0), (.slice none 0 0)] 4 2 tZr28_LdB fun h2 => ?_
    <;> refine aL_end (nav ?_) <;> try dsimp only)
  (refine aC_draw (fun i => ([17] : List Nat).elem i) [] (by kernel_rfl) ?_
    <;> refine xD 0 6 rfl q_move ?_
    <;> refine xD 1 7 rfl q_nilp ?_
    <;> refine xD 2 8 rfl (q_fld tFl96_0_LdB) ?_
    <;> (refine yD 3 9 rfl (q_ld tNa93_LdB) fun v9 hv9 => ?_; cases hv9)
    <;> refine xD 5 11 rfl q_move ?_
    <;> refine xD 6 12 rfl q_nilp ?_
    <;> refine xD 7 13 rfl (q_fld tFl96_1_LdB) ?_
    <;> (refine yD 8 14 rfl (q_ld tNa93_LdB) fun v14 hv14 => ?_; cases hv14)
    <;> refine xD 10 16 rfl q_move ?_
    <;> refine xD 11 17 rfl q_nilp ?_
    <;> refine xD 12 18 rfl (q_fld tFl96_2_LdB) ?_
    <;> (refine yD 13 19 rfl (q_ld tNa93_LdB) fun v19 hv19 => ?_; cases hv19)
    <;> (refine aD_two 4 16 (by kernel_rfl) ?_ ?_; rotate_right; (focus ((refine aW_run rfl fun w9 M9 N9 DQ back => ?_) <;> refine s_alloc [(.slice none 0 0), (.slice none 0 0), (.slice none 0 0), (.slice none 0 0)] 4 3 tZr28_LdB fun h3 => ?_ <;> refine aL_end (back _ (nrm ?_)) <;> (refine aD_one 4 (by kernel_rfl) ?_) <;> (refine aW_run rfl fun w9 M9 N9 DQ back => ?_) <;> (refine aL_co 10 rfl rfl (Nat.le_of_ble_eq_true rfl) rfl (cA Tryz.call96 (dList_e st.a hk.a.nd (by omega))) ?_; rintro p' ⟨La, hLa, rfl⟩; refine ⟨rfl, fun h10 ho10 => ?_⟩; refine aL_ent (En.freeze (l := 10) (t := 10) rfl rfl) fun _ => ?_; rw [share_cntsD _ _ _ rfl]) <;> refine aL_end (back _ (nrm ?_)) <;> (refine aD_one 9 (by kernel_rfl) ?_) <;> (refine aW_run rfl fun w9 M9 N9 DQ back => ?_) <;> (refine aL_co 15 rfl rfl (Nat.le_of_ble_eq_true rfl) rfl (cA Tryz.call96 (dList_e st.s hk.s.nd (by omega))) ?_; rintro p' ⟨Ls, hLs, rfl⟩; refine ⟨rfl, fun h15 ho15 => ?_⟩; refine aL_ent (En.freeze (l := 15) (t := 15) rfl rfl) fun _ => ?_; rw [share_cntsD _ _ _ rfl]) <;> refine aL_end (back _ (nrm ?_)) <;> (refine aD_one 14 (by kernel_rfl) ?_) <;> (refine aW_run rfl fun w9 M9 N9 DQ back => ?_) <;> (refine aL_co 20 rfl rfl (Nat.le_of_ble_eq_true rfl) rfl (cA Tryz.call96 (dList_e st.f hk.f.nd (by omega))) ?_; rintro p' ⟨Lf, hLf, rfl⟩; refine ⟨rfl, fun h20 ho20 => ?_⟩; refine aL_ent (En.freeze (l := 20) (t := 20) rfl rfl) fun _ => ?_; rw [share_cntsD _ _ _ rfl]) <;> refine aL_end (back _ (nrm ?_)) <;> refine xE 15 21 rfl (q_build tSt28_LdB) ?_ <;> (refine aD_one 17 (by kernel_rfl) ?_) <;> (refine aW_last rfl rfl (by kernel_rfl) fun DQ back => ?_) <;> refine s_sta 3 tAgg28_LdB ?_ <;> refine aL_end (back _ (nav ?_)))); rotate_right; (focus ((refine aW_run rfl fun w9 M9 N9 DQ back => ?_) <;> (refine aL_co 10 rfl rfl (Nat.le_of_ble_eq_true rfl) rfl (cA Tryz.call96 (dList_e st.a hk.a.nd (by omega))) ?_; rintro p' ⟨La, hLa, rfl⟩; refine ⟨rfl, fun h10 ho10 => ?_⟩; refine aL_ent (En.freeze (l := 10) (t := 10) rfl rfl) fun _ => ?_; rw [share_cntsD _ _ _ rfl]) <;> refine aL_end (back _ (nrm ?_)) <;> (refine aD_two 9 16 (by kernel_rfl) ?_ ?_; rotate_right; (focus ((refine aW_run rfl fun w9 M9 N9 DQ back => ?_) <;> refine s_alloc [(.slice none 0 0), (.slice none 0 0), (.slice none 0 0), (.slice none 0 0)] 4 3 tZr28_LdB fun h3 => ?_ <;> refine aL_end (back _ (nrm ?_)) <;> (refine aD_one 9 (by kernel_rfl) ?_) <;> (refine aW_run rfl fun w9 M9 N9 DQ back => ?_) <;> (refine aL_co 15 rfl rfl (Nat.le_of_ble_eq_true rfl) rfl (cA Tryz.call96 (dList_e st.s hk.s.nd (by omega))) ?_; rintro p' ⟨Ls, hLs, rfl⟩; refine ⟨rfl, fun h15 ho15 => ?_⟩; refine aL_ent (En.freeze (l := 15) (t := 15) rfl rfl) fun _ => ?_; rw [share_cntsD _ _ _ rfl]) <;> refine aL_end (back _ (nrm ?_)) <;> (refine aD_one 14 (by kernel_rfl) ?_) <;> (refine aW_run rfl fun w9 M9 N9 DQ back => ?_) <;> (refine aL_co 20 rfl rfl (Nat.le_of_ble_eq_true rfl) rfl (cA Tryz.call96 (dList_e st.f hk.f.nd (by omega))) ?_; rintro p' ⟨Lf, hLf, rfl⟩; refine ⟨rfl, fun h20 ho20 => ?_⟩; refine aL_ent (En.freeze (l := 20) (t := 20) rfl rfl) fun _ => ?_; rw [share_cntsD _ _ _ rfl]) <;> refine aL_end (back _ (nrm ?_)) <;> refine xE 15 21 rfl (q_build tSt28_LdB) ?_ <;> (refine aD_one 17 (by kernel_rfl) ?_) <;> (refine aW_last rfl rfl (by kernel_rfl) fun DQ back => ?_) <;> refine s_sta 3 tAgg28_LdB ?_ <;> refine aL_end (back _ (nav ?_)))); rotate_right; (focus ((refine aW_run rfl fun w9 M9 N9 DQ back => ?_) <;> (refine aL_co 15 rfl rfl (Nat.le_of_ble_eq_true rfl) rfl (cA Tryz.call96 (dList_e st.s hk.s.nd (by omega))) ?_; rintro p' ⟨Ls, hLs, rfl⟩; refine ⟨rfl, fun h15 ho15 => ?_⟩; refine aL_ent (En.freeze (l := 15) (t := 15) rfl rfl) fun _ => ?_; rw [share_cntsD _ _ _ rfl]) <;> refine aL_end (back _ (nrm ?_)) <;> (refine aD_two 14 16 (by kernel_rfl) ?_ ?_; rotate_right; (focus ((refine aW_run rfl fun w9 M9 N9 DQ back => ?_) <;> refine s_alloc [(.slice none 0 0), (.slice none 0 0), (.slice none 0 0), (.slice none 0 0)] 4 3 tZr28_LdB fun h3 => ?_ <;> refine aL_end (back _ (nrm ?_)) <;> (refine aD_one 14 (by kernel_rfl) ?_) <;> (refine aW_run rfl fun w9 M9 N9 DQ back => ?_) <;> (refine aL_co 20 rfl rfl (Nat.le_of_ble_eq_true rfl) rfl (cA Tryz.call96 (dList_e st.f hk.f.nd (by omega))) ?_; rintro p' ⟨Lf, hLf, rfl⟩; refine ⟨rfl, fun h20 ho20 => ?_⟩; refine aL_ent (En.freeze (l := 20) (t := 20) rfl rfl) fun _ => ?_; rw [share_cntsD _ _ _ rfl]) <;> refine aL_end (back _ (nrm ?_)) <;> refine xE 15 21 rfl (q_build tSt28_LdB) ?_ <;> (refine aD_one 17 (by kernel_rfl) ?_) <;> (refine aW_last rfl rfl (by kernel_rfl) fun DQ back => ?_) <;> refine s_sta 3 tAgg28_LdB ?_ <;> refine aL_end (back _ (nav ?_)))); rotate_right; (focus ((refine aW_run rfl fun w9 M9 N9 DQ back => ?_) <;> (refine aL_co 20 rfl rfl (Nat.le_of_ble_eq_true rfl) rfl (cA Tryz.call96 (dList_e st.f hk.f.nd (by omega))) ?_; rintro p' ⟨Lf, hLf, rfl⟩; refine ⟨rfl, fun h20 ho20 => ?_⟩; refine aL_ent (En.freeze (l := 20) (t := 20) rfl rfl) fun _ => ?_; rw [share_cntsD _ _ _ rfl]) <;> refine aL_end (back _ (nrm ?_)) <;> refine xD 15 21 rfl (q_build tSt28_LdB) ?_ <;> (refine aD_one 16 (by kernel_rfl) ?_) <;> (refine aW_run rfl fun w9 M9 N9 DQ back => ?_) <;> refine s_alloc [(.slice none 0 0), (.slice none 0 0), (.slice none 0 0), (.slice none 0 0)] 4 3 tZr28_LdB fun h3 => ?_ <;> refine aL_end (back _ (nrm ?_)) <;> (refine aD_one 17 (by kernel_rfl) ?_) <;> (refine aW_last rfl rfl (by kernel_rfl) fun DQ back => ?_) <;> refine s_sta 3 tAgg28_LdB ?_ <;> refine aL_end (back _ (nav ?_)))))))))))
    <;> try dsimp only) <;> (
   (refine aC_region ?_
     <;> refine xL 22 q_move ?_
     <;> refine xL 23 q_nilp ?_
     <;> refine xL 24 (q_fld tFl96_3_LdB) ?_
     <;> (refine yL 25 (q_ld tNa94_LdB) fun v25 hv25 => ?_; cases hv25)
     <;> refine aL_range 26 Tryz.underlying94 (fun b26 r26 c26 es26 hkv26 hWf26 => ?_)
     <;> refine aL_end (nav ?_) <;> try dsimp only)
   refine aC_ent (nilOwn 200 47 3 rfl) fun _ => ?_
   refine aC_loop (ι := { x : Value × Array Nat × List Flw // x.1.oneCell' = true ∧ (x.2.2 = [] → x.1 = .slice none 0 0) ∧ (x.2.2 ++ (kvOf (leftOf es26 x.2.1)).map decF).Perm (st.q.map mkF) }) (fun k => ⟨[(2, _, _), (3, _, _), (26, _, _)], [(2, _, _), (3, h3, .own 28 4 1 [pCnts La, pCnts Ls, pCnts Lf, .val k.1.1]), (26, itv r26, itP b26 r26 c26 es26 k.1.2.1), (200, k.1.1, .own 47 3 k.1.2.2.length (k.1.2.2.flatMap cFlw))]⟩) (fun k => (leftOf es26 k.1.2.1).size) ⟨(.slice none 0 0, #[], []), rfl, fun _ => rfl, by rw [left_all, ← hkv26, dec_akv]; exact .refl _⟩ (fun a w H => H.weaken ⟨rfl, rfl, rfl, trivial⟩ ⟨rfl, rfl, rfl, rfl, trivial⟩) ?_
   rintro ⟨⟨hov, seen, L⟩, ho, hnil, hp⟩
   dsimp only
   dsimp only at ho hnil hp
   have hLl : L.length ≤ 1000000 := by
     have := hp.length_eq
     rw [List.length_append, List.length_map (f := mkF)] at this; omega
   have hLm : (L.flatMap cFlw).length = L.length * 3 := flat_len cFlw_len L
   refine nav ?_
   (refine aC_region ?_
     <;> refine aL_next 26 27 hWf26 (fun hlf26 => ?_) (fun e26 hle26 => ?_)
     <;> refine xL 28 q_extract ?_
     <;> refine aL_end (nav ?_) <;> try dsimp only) <;> (
    first | refine cCd (fun hb28 => ?_) (fun hb28 => ?_) | refine cC (fun hb28 => ?_) (fun hb28 => ?_)
    · first
      | exact Bool.noConfusion hb28
      | (
       refine nav ?_
       obtain ⟨kk, n, hmem, hks, hvs⟩ := akv_mem (hkv26 ▸ left_kv hle26)
       dsimp only at hks hvs
       (refine aC_region ?_
         <;> refine xL 29 (q_entry 26 hWf26 (left_mem hle26)) ?_
         <;> refine xL 30 q_extract ?_
         <;> refine xL 31 q_extract ?_
         <;> refine s_alloc [(.string ByteArray.empty), (.string ByteArray.empty)] 2 4 tZr97_LdB fun h4 => ?_
         <;> (rw [hks]; refine aL_ent (splitAgg (t := 30) (vs := [.string kk.1, .string kk.2]) rfl) fun _ => ?_; refine s_sta 4 tAggPr ?_)
         <;> refine xL 5 q_assign ?_
         <;> refine aL_end (nav ?_) <;> try dsimp only)
       rw [hvs]
       (refine aC_region ?_
         <;> refine xL 32 (q_fldo 3 tFl28_3_LdB) ?_
         <;> (refine yL 33 (q_ldo 3 tNa26_LdB) fun v33 hv33 => ?_; cases hv33)
         <;> refine xL 34 (q_idxa 4 tAr97_LdB) ?_
         <;> (refine yL 35 (q_ldo 4 tNa9_LdB) fun v35 hv35 => ?_; cases hv35)
         <;> refine xL 36 (q_idxa 4 tAr97_LdB) ?_
         <;> (refine yL 37 (q_ldo 4 tNa9_LdB) fun v37 hv37 => ?_; cases hv37)
         <;> refine xL 38 q_move ?_
         <;> refine xL 39 (q_build tSt47_LdB) ?_
         <;> refine s_lit1a 40 tEl26_LdB fun h40 ho40 => ?_
         <;> refine s_app 200 40 41 tEl26_LdB fun h41 ho41 => ?_
         <;> refine xL 42 (q_fldo 3 tFl28_3_LdB) ?_
         <;> refine s_st 3 tNa26_LdB tSz26_LdB ?_
         <;> refine aL_end (nav ?_) <;> try dsimp only)
       refine aN_ent (relabel (l := 41) 200 rfl rfl) fun _ => ?_
       rw [app_flat (f := cFlw) (L := L) (c := (⟨kk.1, kk.2, n⟩ : Flw)) (by rfl), show L.length + 1 = (L ++ [(⟨kk.1, kk.2, n⟩ : Flw)]).length by simp]
       refine aN_again (
         ⟨(h41, seen.push e26.born, L ++ [⟨kk.1, kk.2, n⟩]), ho41, fun h => absurd h (by simp), by
           refine .trans ?_ hp
           have h1 := (left_next hWf26 hle26).map decF
           rw [List.map_cons, hks, hvs] at h1
           show (L ++ [_] ++ _).Perm _
           rw [List.append_assoc]
           exact h1.symm.append_left L⟩
         ) (left_lt hWf26 hle26) ⟨rfl, rfl, rfl, trivial⟩ ⟨rfl, rfl, rfl, rfl, trivial⟩)
    · first
      | exact Bool.noConfusion hb28
      | (
       refine nav ?_
       have hp0 : L.Perm (st.q.map mkF) := by
         rw [hlf26] at hp
         have h1 : kvOf (#[] : Array MapEntry) = [] := rfl
         rw [h1, List.map_nil, List.append_nil] at hp
         exact hp
       (refine aC_region ?_
         <;> refine xL 43 (q_fldo 3 tFl28_3_LdB) ?_
         <;> (refine yL 44 (q_ldo 3 tNa26_LdB) fun v44 hv44 => ?_; cases hv44)
         <;> (by_cases hL : L = [] <;> first | (subst hL; obtain rfl := hnil rfl; refine aL_ent (En.freeze (l := 200) (t := 44) rfl rfl) fun _ => ?_; refine cS 45 (cA Tryz.call97 (sortFlw0_e [])) fun v45 hv45 => ?_; cases hv45; refine aL_ent (nilOwn 201 47 3 rfl) fun _ => ?_; refine aL_ent (freezeCell (l := 3) (l' := 201) (j := 3) rfl rfl rfl rfl) fun _ => ?_; rw [show share (.own 47 3 0 []) = pFlws [] from share_flws _ 0 [] rfl]; have hF : SameF [] st.q := sameF_of hk.q.nd hp0 (.refl _) (fun i j a b _ h => by simp at h)) | (refine aL_sort (l := 200) (β := Flw) (f := cFlw) (cmp := flwCmp) (rows := L) sortFlw_c (fun _ => rfl) (by decide) (fun _ => rfl) (fun a => flwCmp_irrefl a) (fun a b c => flwCmp_trans) (fun a b c => flwCmp_nt) (fun x y M W u v _ _ hu hv => (dFollows_g x y).exact2 hu hv) (List.length_pos_iff.2 hL) (by omega) rfl rfl (Nat.le_of_ble_eq_true rfl) rfl (Tryz.call97) rfl rfl rfl (fun rows' hperm hord => ?_); refine aL_ent (freezeCell (l := 3) (l' := 200) (j := 3) rfl rfl rfl rfl) fun _ => ?_; rw [share_flws _ _ _ hperm.length_eq.symm]; have hF : SameF rows' st.q := sameF_of hk.q.nd hp0 hperm hord))
         <;> refine aL_end (nav ?_) <;> try dsimp only) <;> (
        (refine aC_region ?_
          <;> (refine yL 46 (q_ldao 3 tAgg28_LdB) fun v46 hv46 => ?_; cases hv46)
          <;> refine s_sta 2 tAgg28_LdB ?_
          <;> refine aL_end (nav ?_) <;> try dsimp only)
        exact ret_cell (k := 4) 2 (by kernel_rfl) (Tryz.results49) rfl rfl (Nat.le_of_ble_eq_true rfl) (by decide) rfl ⟨⟨La, Ls, Lf, _⟩, ⟨hLa, hLs, hLf, hF⟩, rfl⟩))))
end Go.Proofs.YtebcjijpdhbcdaaGreat

namespace Go.En
open Go.RowKit Go.Cb
theorem cDx {P : Program} {c : Ctx} {ops : Array Oper} {Q : Exit → Act → World → Prop} {rest : List Oper} {sL hP : List (Nat × Ent)} {o : Oper} {ι : Type} {p : ι → PV} (d : Nat) (hC : CallR P c (⟨sL, hP⟩ : St) o (fun q => ∃ i, q = p i)) (k : ∀ i v, vOf (p i) v → aL P c ops Q rest ⟨put d (v, p i) sL, hP⟩) (hsh : ∀ i, shD (p i) = true) (hw : wants ops sL o = some true := by exact rfl) (hd : o.dst = some d := by exact rfl) (hn : d < c.nt := by exact Nat.le_of_ble_eq_true rfl) : aL P c ops Q (o :: rest) (⟨sL, hP⟩ : St) :=
  call_run hw hC fun a w F w' v p' Fr H hR hx hT hlo hdw => by
    obtain ⟨i, rfl⟩ := hR
    have hS := hT.shD (hsh i)
    rw [hd]
    exact k i v hS.vOf _ _ ⟨F, put_up H hx hn (hS.anti fun b _ h => .inl h)⟩
end Go.En

namespace Go.Proofs.YtebcjijpdhbcdaaGreat
open Go.RowKit Go.Cb Go.En
set_option linter.all false
set_option maxRecDepth 100000

theorem tAgg28_LdC : AggT Tryz.prog 28 4 = true := by kernel_rfl
theorem tAgg60_LdC : AggT Tryz.prog 60 2 = true := by kernel_rfl
theorem tAr97_LdC : ArrT Tryz.prog 97 2 = true := by kernel_rfl
theorem tFl60_0_LdC : FldT Tryz.prog 60 0 0 = true := by kernel_rfl
theorem tFl60_1_LdC : FldT Tryz.prog 60 1 1 = true := by kernel_rfl
theorem tFl96_0_LdC : FldT Tryz.prog 96 0 0 = true := by kernel_rfl
theorem tFl96_1_LdC : FldT Tryz.prog 96 1 1 = true := by kernel_rfl
theorem tFl96_2_LdC : FldT Tryz.prog 96 2 2 = true := by kernel_rfl
theorem tFl96_3_LdC : FldT Tryz.prog 96 3 3 = true := by kernel_rfl
theorem tMp93_LdC : MpT Tryz.prog 93 9 3 .string (.int .i64 0) := ⟨Tryz.underlying93, Tryz.underlying9, .inl rfl, by show ZeroT _ _ _; unfold ZeroT; kernel_rfl⟩
theorem tNa3_LdC : NoAgg Tryz.prog 3 = true := by kernel_rfl
theorem tNa51_LdC : NoAgg Tryz.prog 51 = true := by kernel_rfl
theorem tNa93_LdC : NoAgg Tryz.prog 93 = true := by kernel_rfl
theorem tNa94_LdC : NoAgg Tryz.prog 94 = true := by kernel_rfl
theorem tNa9_LdC : NoAgg Tryz.prog 9 = true := by kernel_rfl
theorem tPk94_LdC : PkT Tryz.prog 94 97 9 3 (.int .i64 0) := ⟨Tryz.underlying94, Tryz.underlying97, Tryz.underlying9, by kernel_rfl, by kernel_rfl, by kernel_rfl, by kernel_rfl, by kernel_rfl, fun a b => by kernel_rfl, ⟨Tryz.prog.types.size - 1, by kernel_rfl⟩, by show ZeroT _ _ _; unfold ZeroT; kernel_rfl⟩
theorem tSl22_LdC : SlT Tryz.prog 22 60 2 = true := by kernel_rfl
theorem tSl51_LdC : SlT Tryz.prog 51 9 1 = true := by kernel_rfl
theorem tSt28_LdC : stInfo Tryz.prog 28 = some ((.agg #[(.slice none 0 0), (.slice none 0 0), (.slice none 0 0), (.slice none 0 0)]), ([0, 1, 2, 3] : List Nat).map fun o => (o, 1)) := by kernel_rfl
theorem tZr28_LdC : ZeroT Tryz.prog 28 (.agg #[(.slice none 0 0), (.slice none 0 0), (.slice none 0 0), (.slice none 0 0)]) := by unfold ZeroT; kernel_rfl
theorem tZr60_LdC : ZeroT Tryz.prog 60 (.agg #[(.slice none 0 0), (.int .i64 0)]) := by unfold ZeroT; kernel_rfl
theorem tZr97_LdC : ZeroT Tryz.prog 97 (.agg #[(.string ByteArray.empty), (.string ByteArray.empty)]) := by unfold ZeroT; kernel_rfl

def zeroD : PV := .agg [.val (.slice none 0 0), .val (.slice none 0 0), .val (.slice none 0 0), .val (.slice none 0 0)]
def RMake (l : List Var) (p : PV) : Prop :=
  (validVars l = false ∧ p = .tup [zeroD, pInt 1]) ∨ (validVars l = true ∧ 40 < (makeM l).a.length ∧ p = .tup [zeroD, pInt 5]) ∨ (validVars l = true ∧ (makeM l).a.length ≤ 40 ∧ ∃ g, SameG g (makeM l) ∧ p = .tup [pDfg g, pInt 0])
theorem mget_i (m : List (ByteArray × Int)) (s : ByteArray) : (mget (skv (ivals m)) (.string s)).getD (.int .i64 0) = .int .i64 (iget m s) := by
  rw [mget_skv]; exact aget_ivals m s
theorem mput_i (m : List (ByteArray × Int)) (s : ByteArray) (n : Int) : mput (skv (ivals m)) (.string s) (.int .i64 n) = skv (ivals (iput m s n)) := by
  rw [mput_skv, aput_ivals]
theorem ivals_keys {κ : Type} (m : List (κ × Int)) : (ivals m).map (·.1) = m.map (·.1) := by
  unfold ivals; rw [List.map_map]; rfl
theorem ivals_all {κ : Type} {m : List (κ × Int)} {p : κ → Prop} (h : ∀ x ∈ m, p x.1) : ∀ x ∈ ivals m, p x.1 := fun x hx => by
  obtain ⟨y, hy, rfl⟩ := List.mem_map.1 hx
  exact h y hy
theorem aput_all {m : List (Pr × Value)} {k : Pr} {v : Value} {p : Pr → Prop} (h : ∀ x ∈ m, p x.1) (hk : p k) : ∀ x ∈ aput m k v, p x.1 := fun x hx => by
  rcases (aput_keys x.1).1 (List.mem_map.2 ⟨x, hx, rfl⟩) with h1 | h1
  · rw [h1]; exact hk
  · obtain ⟨z, hz, hzx⟩ := List.mem_map.1 h1
    rw [← hzx]; exact h z hz
def midA (st : M4) (x : Var) (j : Nat) : List (ByteArray × Int) := addAll st.a (x.acts.take j) x.count
def midQ (st : M4) (x : Var) (j : Nat) : List (Pr × Int) := addAll st.q (pairsOf (x.acts.take j)) x.count
theorem midA_step {st : M4} {x : Var} {j : Nat} {s : ByteArray} (hs : x.acts[j]? = some s) : midA st x (j + 1) = iput (midA st x j) s (iget (midA st x j) s + x.count) := by
  unfold midA; rw [take_snoc hs, addAll_snoc]; rfl
theorem midQ_zero {st : M4} {x : Var} {s : ByteArray} (hs : x.acts[0]? = some s) : midQ st x (0 + 1) = midQ st x 0 := by
  unfold midQ; rw [pairs_one hs]; rfl
theorem midQ_step {st : M4} {x : Var} {j : Nat} {a s : ByteArray} (ha : x.acts[j]? = some a) (hs : x.acts[j + 1]? = some s) : midQ st x (j + 1 + 1) = iput (midQ st x (j + 1)) (a, s) (iget (midQ st x (j + 1)) (a, s) + x.count) := by
  unfold midQ; rw [pairs_step ha hs, addAll_snoc]; rfl
theorem midA_ok {st : M4} {x : Var} {b j : Nat} (h : KOk st b) (hx : okVar x = true) : MOk (midA st x j) (b + 200) := by
  unfold okVar at hx
  simp only [Bool.and_eq_true, decide_eq_true_eq, List.all_eq_true] at hx
  exact (h.a.addAll (by omega) hx.2).mono (by rw [List.length_take]; omega)
theorem midQ_ok {st : M4} {x : Var} {b j : Nat} (h : KOk st b) (hx : okVar x = true) : MOk (midQ st x j) (b + 200) ∧ ∀ y ∈ midQ st x j, prOk y.1 := by
  unfold okVar at hx
  simp only [Bool.and_eq_true, decide_eq_true_eq, List.all_eq_true] at hx
  obtain ⟨⟨⟨h1, h2⟩, h3⟩, h4⟩ := hx
  have hp := pairs_len (x.acts.take j)
  refine ⟨(h.q.addAll (by omega) h4).mono (by rw [List.length_take] at hp; omega), addAll_keys h.k fun k hk => ?_⟩
  have := pairs_mem hk
  have n1 := name_sz (h2 _ (List.mem_of_mem_take this.1))
  have n2 := name_sz (h2 _ (List.mem_of_mem_take this.2))
  exact ⟨by omega, by omega⟩
set_option maxHeartbeats 4000000 in
theorem dMake_e (l : List Var) (hf : fitV l) : AF Tryz.prog 13 [pVars l] (RMake l) := by
  refine AF.of_body 100 Tryz.func13 rfl Tryz.ntmps13 (Nat.le_of_ble_eq_true rfl) ?_
  intro w0 M0 vs hl hv
  obtain ⟨v0, rfl⟩ := len1 hl
  clear hl hv
  refine nav ?_
  (refine aC_region ?_
    <;> refine s_alloc [(.slice none 0 0), (.slice none 0 0), (.slice none 0 0), (.slice none 0 0)] 4 2 tZr28_LdC fun h2 => ?_
    <;> refine xL 3 q_assign ?_
    <;> refine aL_end (nav ?_) <;> try dsimp only)
  (refine aC_region ?_
    <;> refine xL 10 q_move ?_
    <;> (refine cS 11 (cA Tryz.call47 (validVariants_e l hf)) fun v11 hv11 => ?_; cases hv11)
    <;> refine xL 12 q_not ?_
    <;> refine aL_end (nav ?_) <;> try dsimp only)
  first | refine cCd (fun hb12 => ?_) (fun hb12 => ?_) | refine cC (fun hb12 => ?_) (fun hb12 => ?_)
  · first
    | exact Bool.noConfusion hb12
    | (
     refine nav ?_
     (refine aC_region ?_
       <;> refine xL 13 (q_build tSt28_LdC) ?_
       <;> refine s_sta 2 tAgg28_LdC ?_
       <;> refine xL 3 q_assign ?_
       <;> refine aL_end (nav ?_) <;> try dsimp only)
     exact ret_cs (k := 4) 2 (by kernel_rfl) (Tryz.results13) rfl rfl rfl (Nat.le_of_ble_eq_true rfl) (by decide) rfl (.inl ⟨by simpa using hb12, rfl⟩))
  · first
    | exact Bool.noConfusion hb12
    | (
     have hV : validVars l = true := by simpa using hb12
     have hl300 : l.length ≤ 300 := by have h := hV; simp only [validVars, Bool.and_eq_true, decide_eq_true_eq] at h; exact h.1
     have hok : ∀ x ∈ l, okVar x = true := fun x hx => by
       obtain ⟨i, hi⟩ := List.getElem?_of_mem hx
       exact validVars_at hV hi
     have hK := KOk.all hok
     refine nav ?_
     (refine aC_region ?_
       <;> refine cO 14 (cA Tryz.call48 (dNewCounter_e)) fun v14 ho14 => ?_
       <;> refine xL 4 q_assign ?_
       <;> refine aL_end (nav ?_) <;> try dsimp only)
     refine aC_ent (openBox (l := 14) rfl) fun i => ?_
     obtain ⟨h14, hv14⟩ := i
     subst hv14
     refine aC_ent (focusO (l := 14) (l' := 301) (j := 0) rfl rfl rfl rfl) fun i => ?_
     obtain ⟨m1, hm1⟩ := i
     refine aC_ent (focusO (l := 14) (l' := 302) (j := 1) rfl rfl rfl rfl) fun i => ?_
     obtain ⟨m2, hm2⟩ := i
     refine aC_ent (focusO (l := 14) (l' := 303) (j := 2) rfl rfl rfl rfl) fun i => ?_
     obtain ⟨m3, hm3⟩ := i
     refine aC_ent (focusO (l := 14) (l' := 304) (j := 3) rfl rfl rfl rfl) fun i => ?_
     obtain ⟨m4, hm4⟩ := i
     dsimp only [List.set]
     (refine aC_region ?_
       <;> refine xL 15 q_move ?_
       <;> refine xL 16 (q_len tSl22_LdC) ?_
       <;> refine xL 17 q_move ?_
       <;> refine aL_end (nav ?_) <;> try dsimp only)
     refine aC_loop (ι := { k : Nat // k ≤ l.length }) (fun k => ⟨[(2, _, _), (4, _, _), (15, _, _), (16, _, _), (17, .int .i64 k.1, pInt k.1)], [(2, _, _), (14, h14, .own 96 4 1 [.val m1, .val m2, .val m3, .val m4]), (301, m1, .omap (skv (ivals (makeM (l.take k.1)).a))), (302, m2, .omap (skv (ivals (makeM (l.take k.1)).s))), (303, m3, .omap (skv (ivals (makeM (l.take k.1)).f))), (304, m4, .omap (akv (ivals (makeM (l.take k.1)).q)))]⟩) (fun k => l.length - k.1) ⟨0, Nat.zero_le _⟩ (fun a w H => H.weaken ⟨rfl, rfl, rfl, rfl, rfl, trivial⟩ ⟨rfl, rfl, rfl, rfl, rfl, rfl, trivial⟩) ?_
     rintro ⟨k, hk⟩
     dsimp only
     have hKk := hK k hk
     obtain ⟨st, hst⟩ : ∃ st, st = makeM (l.take k) := ⟨_, rfl⟩
     rw [← hst] at hKk ⊢
     refine nav ?_
     (refine aC_region ?_
       <;> refine xL 18 q_lss ?_
       <;> refine aL_end (nav ?_) <;> try dsimp only)
     first | refine cCd (fun hb18 => ?_) (fun hb18 => ?_) | refine cC (fun hb18 => ?_) (fun hb18 => ?_)
     · first
       | exact Bool.noConfusion hb18
       | (
        obtain ⟨x, hx⟩ := get_some (show k < l.length by omega)
        have e1 := flat_drop cVar_len l k x hx
        have e2 := flat_fit cVar_len hx
        have hxo := hok x (List.mem_of_getElem? hx)
        have hxo2 := hxo
        unfold okVar at hxo2
        simp only [Bool.and_eq_true, decide_eq_true_eq, List.all_eq_true] at hxo2
        obtain ⟨⟨⟨hxl, hxn⟩, hx1⟩, hx2⟩ := hxo2
        have hnx := makeM_snoc hx
        rw [← hst] at hnx
        refine nav ?_
        (refine aC_region ?_
          <;> refine xL 19 (q_idxN tSl22_LdC) ?_
          <;> (refine yL 20 (q_lda tAgg60_LdC) fun v20 hv20 => ?_; cases hv20)
          <;> refine s_alloc [(.slice none 0 0), (.int .i64 0)] 2 6 tZr60_LdC fun h6 => ?_
          <;> refine s_sta 6 tAgg60_LdC ?_
          <;> refine aL_end (nav ?_) <;> try dsimp only)
        (refine aC_region ?_
          <;> refine xL 21 (q_fldo 6 tFl60_0_LdC) ?_
          <;> (refine yL 22 (q_ldo 6 tNa51_LdC) fun v22 hv22 => ?_; cases hv22)
          <;> refine xL 23 (q_len tSl51_LdC) ?_
          <;> refine xL 24 q_move ?_
          <;> refine aL_end (nav ?_) <;> try dsimp only)
        refine aC_loop (ι := { j : Nat // j ≤ x.acts.length }) (fun k => ⟨[(2, _, _), (4, _, _), (6, _, _), (15, _, _), (16, _, _), (17, _, _), (22, _, _), (23, _, _), (24, .int .i64 k.1, pInt k.1)], [(2, _, _), (6, _, _), (14, _, _), (302, _, _), (303, _, _), (301, m1, .omap (skv (ivals (midA st x k.1)))), (304, m4, .omap (akv (ivals (midQ st x k.1))))]⟩) (fun k => x.acts.length - k.1) ⟨0, Nat.zero_le _⟩ (fun a w H => H.weaken ⟨rfl, rfl, rfl, rfl, rfl, rfl, rfl, rfl, rfl, trivial⟩ ⟨rfl, rfl, rfl, rfl, rfl, rfl, rfl, trivial⟩) ?_
        rintro ⟨j, hj⟩
        dsimp only
        have hAj := midA_ok (j := j) hKk hxo
        have hQj := midQ_ok (j := j) hKk hxo
        refine nav ?_
        (refine aC_region ?_
          <;> refine xL 25 q_lss ?_
          <;> refine aL_end (nav ?_) <;> try dsimp only)
        first | refine cCd (fun hb25 => ?_) (fun hb25 => ?_) | refine cC (fun hb25 => ?_) (fun hb25 => ?_)
        · first
          | exact Bool.noConfusion hb25
          | (
           obtain ⟨s, hs⟩ := get_some (show j < x.acts.length by omega)
           have e3 := map_at (f := pStr) hs
           have hgA := hAj.get s
           have hsn := name_sz (hxn s (List.mem_of_getElem? hs))
           refine nav ?_
           (refine aC_region ?_
             <;> refine xL 26 q_move ?_
             <;> refine xL 27 (q_idxN tSl51_LdC) ?_
             <;> (refine yL 28 (q_ld tNa9_LdC) fun v28 hv28 => ?_; cases hv28)
             <;> refine xL 7 q_assign ?_
             <;> refine xL 8 q_assign ?_
             <;> refine aL_end (nav ?_) <;> try dsimp only)
           (refine aC_draw (fun i => ([9] : List Nat).elem i) [6, 14, 301] (by kernel_rfl) ?_
             <;> refine xD 0 29 rfl q_move ?_
             <;> refine xD 1 30 rfl (q_nilo 14) ?_
             <;> refine xD 2 31 rfl (q_fldo 14 tFl96_0_LdC) ?_
             <;> (refine yD 3 32 rfl (q_ldo 14 tNa93_LdC) fun v32 hv32 => ?_; cases hv32)
             <;> refine xD 4 33 rfl q_move ?_
             <;> refine xD 5 34 rfl (q_lookoE 301 tMp93_LdC (hk := kok_skv _ _) (hu := mget_i _ _)) ?_
             <;> refine xE 6 35 rfl (q_fldo 6 tFl60_1_LdC) ?_
             <;> (refine yE 7 36 rfl (q_ldo 6 tNa3_LdC) fun v36 hv36 => ?_; cases hv36)
             <;> refine xE 8 37 rfl q_add ?_
             <;> (refine aD_one 9 (by kernel_rfl) ?_)
             <;> (refine aW_last rfl rfl (by kernel_rfl) fun DQ back => ?_)
             <;> refine s_mput 301 tMp93_LdC ?_
             <;> refine aL_end (back _ (nav ?_))
             <;> try dsimp only)
           rw [mput_i, ← midA_step hs]
           (refine aC_region ?_
             <;> refine xL 38 q_move ?_
             <;> refine xL 39 q_gtr ?_
             <;> refine aL_end (nav ?_) <;> try dsimp only)
           first | refine cCd (fun hb39 => ?_) (fun hb39 => ?_) | refine cC (fun hb39 => ?_) (fun hb39 => ?_)
           · first
             | exact Bool.noConfusion hb39
             | (
              obtain ⟨j', rfl⟩ : ∃ j', j = j' + 1 := ⟨j - 1, by omega⟩
              obtain ⟨a, ha⟩ := get_some (show j' < x.acts.length by omega)
              have e4 : (x.acts.map pStr)[(((j' + 1 : Nat) : Int) - 1).toNat * 1]? = some (pStr a) := by rw [show (((j' + 1 : Nat) : Int) - 1).toNat = j' by omega]; exact map_at (f := pStr) ha
              have hgQ := hQj.1.get (a, s)
              have han := name_sz (hxn a (List.mem_of_getElem? ha))
              have hpr : prOk (a, s) := ⟨by show a.size ≤ _; omega, by show s.size ≤ _; omega⟩
              have hQn : ((ivals (midQ st x (j' + 1))).map (·.1)).Nodup := by rw [ivals_keys]; exact hQj.1.nd
              have hQk := ivals_all hQj.2
              have hQg := aget_ivals (midQ st x (j' + 1)) (a, s)
              refine nav ?_
              (refine aC_draw (fun i => ([18] : List Nat).elem i) [6, 14] (by kernel_rfl) ?_
                <;> refine xD 0 40 rfl q_move ?_
                <;> refine xD 1 41 rfl (q_nilo 14) ?_
                <;> refine xD 2 42 rfl (q_fldo 14 tFl96_3_LdC) ?_
                <;> (refine yD 3 43 rfl (q_ldo 14 tNa94_LdC) fun v43 hv43 => ?_; cases hv43)
                <;> refine xD 4 44 rfl (q_fldo 6 tFl60_0_LdC) ?_
                <;> (refine yD 5 45 rfl (q_ldo 6 tNa51_LdC) fun v45 hv45 => ?_; cases hv45)
                <;> refine xD 6 46 rfl q_move ?_
                <;> refine xD 7 47 rfl q_sub ?_
                <;> refine xD 8 48 rfl (q_idx tSl51_LdC) ?_
                <;> (refine yD 9 49 rfl (q_ld tNa9_LdC) fun v49 hv49 => ?_; cases hv49)
                <;> refine xD 10 50 rfl q_move ?_
                <;> refine xD 11 51 rfl (q_build2 tAr97_LdC tZr97_LdC) ?_
                <;> refine xD 13 53 rfl (q_fldo 6 tFl60_1_LdC) ?_
                <;> (refine yD 14 54 rfl (q_ldo 6 tNa3_LdC) fun v54 hv54 => ?_; cases hv54)
                <;> (refine aD_two 12 16 (by kernel_rfl) ?_ ?_; rotate_right; (focus ((refine aW_run rfl fun w9 M9 N9 DQ back => ?_) <;> (refine aL_mentryP 304 56 (k := (a, s)) tPk94_LdC hQk hQn hpr (fun b56 c56 n56 es56 hm56 hw56 he56 hj56 => ?_); subst hm56) <;> refine aL_end (back _ (nrm ?_)) <;> refine xD 17 57 rfl q_extract ?_ <;> (refine aD_one 12 (by kernel_rfl) ?_) <;> (refine aW_run rfl fun w9 M9 N9 DQ back => ?_) <;> (first | refine xL 52 (q_lookP 304 (k := (a, s)) (u := .int .i64 (iget (midQ st x (j' + 1)) (a, s))) tPk94_LdC hQk hQn hpr hQg) ?_ | refine xL 52 (q_lookPB 304 (k := (a, s)) (u := .int .i64 (iget (midQ st x (j' + 1)) (a, s))) tPk94_LdC he56 (aput_all hQk hpr) (aput_nodup hQn) hpr (by rw [aget_aput]; exact hQg)) ?_) <;> refine aL_end (back _ (nrm ?_)) <;> refine xE 15 55 rfl q_add ?_ <;> (refine aD_one 18 (by kernel_rfl) ?_) <;> (refine aW_last rfl rfl (by kernel_rfl) fun DQ back => ?_) <;> (refine aL_estoreP 304 hw56 he56 (aput_nodup hQn) hj56 ?_; rw [aput_aput, aput_ivals]) <;> refine aL_end (back _ (nav ?_)))); rotate_right; (focus ((refine aW_run rfl fun w9 M9 N9 DQ back => ?_) <;> (first | refine xL 52 (q_lookP 304 (k := (a, s)) (u := .int .i64 (iget (midQ st x (j' + 1)) (a, s))) tPk94_LdC hQk hQn hpr hQg) ?_ | refine xL 52 (q_lookPB 304 (k := (a, s)) (u := .int .i64 (iget (midQ st x (j' + 1)) (a, s))) tPk94_LdC he56 (aput_all hQk hpr) (aput_nodup hQn) hpr (by rw [aget_aput]; exact hQg)) ?_) <;> refine aL_end (back _ (nrm ?_)) <;> refine xD 15 55 rfl q_add ?_ <;> (refine aD_one 16 (by kernel_rfl) ?_) <;> (refine aW_run rfl fun w9 M9 N9 DQ back => ?_) <;> (refine aL_mentryP 304 56 (k := (a, s)) tPk94_LdC hQk hQn hpr (fun b56 c56 n56 es56 hm56 hw56 he56 hj56 => ?_); subst hm56) <;> refine aL_end (back _ (nrm ?_)) <;> refine xE 17 57 rfl q_extract ?_ <;> (refine aD_one 18 (by kernel_rfl) ?_) <;> (refine aW_last rfl rfl (by kernel_rfl) fun DQ back => ?_) <;> (refine aL_estoreP 304 hw56 he56 (aput_nodup hQn) hj56 ?_; rw [aput_aput, aput_ivals]) <;> refine aL_end (back _ (nav ?_)))))
                <;> try dsimp only) <;> (
               (refine aC_region ?_
                 <;> refine xL 58 q_add ?_
                 <;> refine xL 24 q_move ?_
                 <;> refine aL_end (nav ?_) <;> try dsimp only)
               try rw [← midQ_step ha hs]
               try (obtain rfl : j = 0 := by omega)
               try rw [← midQ_zero hs]
               first
                 | (exact aN_again (
                     ⟨j' + 1 + 1, by omega⟩
                     ) (by first | (show x.acts.length - (j' + 1 + 1) < x.acts.length - (j' + 1); omega) | (show x.acts.length - (0 + 1) < x.acts.length - 0; omega)) ⟨rfl, rfl, rfl, rfl, rfl, rfl, rfl, rfl, rfl, trivial⟩ ⟨rfl, rfl, rfl, rfl, rfl, rfl, rfl, trivial⟩)
                 | (exact aN_again (
                     ⟨0 + 1, by omega⟩
                     ) (by first | (show x.acts.length - (j' + 1 + 1) < x.acts.length - (j' + 1); omega) | (show x.acts.length - (0 + 1) < x.acts.length - 0; omega)) ⟨rfl, rfl, rfl, rfl, rfl, rfl, rfl, rfl, rfl, trivial⟩ ⟨rfl, rfl, rfl, rfl, rfl, rfl, rfl, trivial⟩)))
           · first
             | exact Bool.noConfusion hb39
             | (
              refine nav ?_
              (refine aC_region ?_
                <;> refine xL 58 q_add ?_
                <;> refine xL 24 q_move ?_
                <;> refine aL_end (nav ?_) <;> try dsimp only)
              try rw [← midQ_step ha hs]
              try (obtain rfl : j = 0 := by omega)
              try rw [← midQ_zero hs]
              first
                | (exact aN_again (
                    ⟨j' + 1 + 1, by omega⟩
                    ) (by first | (show x.acts.length - (j' + 1 + 1) < x.acts.length - (j' + 1); omega) | (show x.acts.length - (0 + 1) < x.acts.length - 0; omega)) ⟨rfl, rfl, rfl, rfl, rfl, rfl, rfl, rfl, rfl, trivial⟩ ⟨rfl, rfl, rfl, rfl, rfl, rfl, rfl, trivial⟩)
                | (exact aN_again (
                    ⟨0 + 1, by omega⟩
                    ) (by first | (show x.acts.length - (j' + 1 + 1) < x.acts.length - (j' + 1); omega) | (show x.acts.length - (0 + 1) < x.acts.length - 0; omega)) ⟨rfl, rfl, rfl, rfl, rfl, rfl, rfl, rfl, rfl, trivial⟩ ⟨rfl, rfl, rfl, rfl, rfl, rfl, rfl, trivial⟩)))
        · first
          | exact Bool.noConfusion hb25
          | (
           refine nav ?_
           have hjl : j = x.acts.length := by omega
           have eA : midA st x j = (mk1 st x).a := by unfold midA mk1; rw [hjl, List.take_length]
           have eQ : midQ st x j = (mk1 st x).q := by unfold midQ mk1; rw [hjl, List.take_length]
           rw [eA, eQ]
           (refine aC_region ?_
             <;> refine xL 59 (q_fldo 6 tFl60_0_LdC) ?_
             <;> (refine yL 60 (q_ldo 6 tNa51_LdC) fun v60 hv60 => ?_; cases hv60)
             <;> refine xL 61 (q_len tSl51_LdC) ?_
             <;> refine xL 9 q_assign ?_
             <;> refine aL_end (nav ?_) <;> try dsimp only)
           (refine aC_region ?_
             <;> refine xL 62 q_move ?_
             <;> refine xL 63 q_gtr ?_
             <;> refine aL_end (nav ?_) <;> try dsimp only)
           first | refine cCd (fun hb63 => ?_) (fun hb63 => ?_) | refine cC (fun hb63 => ?_) (fun hb63 => ?_)
           · first
             | exact Bool.noConfusion hb63
             | (
              obtain ⟨s0, hs0⟩ := get_some (show 0 < x.acts.length by omega)
              obtain ⟨s1, hs1⟩ := get_some (show x.acts.length - 1 < x.acts.length by omega)
              have e5 : (x.acts.map pStr)[0 * 1]? = some (pStr s0) := map_at (f := pStr) hs0
              have e6 : (x.acts.map pStr)[((x.acts.length : Int) - 1).toNat * 1]? = some (pStr s1) := by rw [show ((x.acts.length : Int) - 1).toNat = x.acts.length - 1 by omega]; exact map_at (f := pStr) hs1
              have hgS := hKk.s.get s0
              have hgF := hKk.f.get s1
              refine nav ?_
              (refine aC_draw (fun i => ([12] : List Nat).elem i) [6, 14, 302] (by kernel_rfl) ?_
                <;> refine xD 0 64 rfl q_move ?_
                <;> refine xD 1 65 rfl (q_nilo 14) ?_
                <;> refine xD 2 66 rfl (q_fldo 14 tFl96_1_LdC) ?_
                <;> (refine yD 3 67 rfl (q_ldo 14 tNa93_LdC) fun v67 hv67 => ?_; cases hv67)
                <;> refine xD 4 68 rfl (q_fldo 6 tFl60_0_LdC) ?_
                <;> (refine yD 5 69 rfl (q_ldo 6 tNa51_LdC) fun v69 hv69 => ?_; cases hv69)
                <;> refine xD 6 70 rfl (q_idxN (i := 0) tSl51_LdC) ?_
                <;> (refine yD 7 71 rfl (q_ld tNa9_LdC) fun v71 hv71 => ?_; cases hv71)
                <;> refine xD 8 72 rfl (q_lookoE 302 tMp93_LdC (hk := kok_skv _ _) (hu := mget_i _ _)) ?_
                <;> refine xE 9 73 rfl (q_fldo 6 tFl60_1_LdC) ?_
                <;> (refine yE 10 74 rfl (q_ldo 6 tNa3_LdC) fun v74 hv74 => ?_; cases hv74)
                <;> refine xE 11 75 rfl q_add ?_
                <;> (refine aD_one 12 (by kernel_rfl) ?_)
                <;> (refine aW_last rfl rfl (by kernel_rfl) fun DQ back => ?_)
                <;> refine s_mput 302 tMp93_LdC ?_
                <;> refine aL_end (back _ (nav ?_))
                <;> try dsimp only)
              (refine aC_draw (fun i => ([14] : List Nat).elem i) [6, 14, 303] (by kernel_rfl) ?_
                <;> refine xD 0 76 rfl q_move ?_
                <;> refine xD 1 77 rfl (q_nilo 14) ?_
                <;> refine xD 2 78 rfl (q_fldo 14 tFl96_2_LdC) ?_
                <;> (refine yD 3 79 rfl (q_ldo 14 tNa93_LdC) fun v79 hv79 => ?_; cases hv79)
                <;> refine xD 4 80 rfl (q_fldo 6 tFl60_0_LdC) ?_
                <;> (refine yD 5 81 rfl (q_ldo 6 tNa51_LdC) fun v81 hv81 => ?_; cases hv81)
                <;> refine xD 6 82 rfl q_move ?_
                <;> refine xD 7 83 rfl q_sub ?_
                <;> refine xD 8 84 rfl (q_idx tSl51_LdC) ?_
                <;> (refine yD 9 85 rfl (q_ld tNa9_LdC) fun v85 hv85 => ?_; cases hv85)
                <;> refine xD 10 86 rfl (q_lookoE 303 tMp93_LdC (hk := kok_skv _ _) (hu := mget_i _ _)) ?_
                <;> refine xE 11 87 rfl (q_fldo 6 tFl60_1_LdC) ?_
                <;> (refine yE 12 88 rfl (q_ldo 6 tNa3_LdC) fun v88 hv88 => ?_; cases hv88)
                <;> refine xE 13 89 rfl q_add ?_
                <;> (refine aD_one 14 (by kernel_rfl) ?_)
                <;> (refine aW_last rfl rfl (by kernel_rfl) fun DQ back => ?_)
                <;> refine s_mput 303 tMp93_LdC ?_
                <;> refine aL_end (back _ (nav ?_))
                <;> try dsimp only)
              (refine aC_region ?_
                <;> refine xL 90 q_add ?_
                <;> refine xL 17 q_move ?_
                <;> refine aL_end (nav ?_) <;> try dsimp only)
              try rw [mput_i, mput_i]
              try rw [show iput st.s s0 (iget st.s s0 + x.count) = (mk1 st x).s by unfold mk1; cases hc : x.acts with | nil => rw [hc] at hs0; simp at hs0 | cons z t => rw [hc] at hs0; simp at hs0; subst hs0; rfl]
              try rw [show iput st.f s1 (iget st.f s1 + x.count) = (mk1 st x).f by unfold mk1; rw [List.getLast?_eq_getElem?, hs1]; rfl]
              try rw [show st.s = (mk1 st x).s by unfold mk1; rw [show x.acts = [] from List.eq_nil_of_length_eq_zero (by omega)], show st.f = (mk1 st x).f by unfold mk1; rw [show x.acts = [] from List.eq_nil_of_length_eq_zero (by omega)]; rfl]
              rw [← hnx]
              refine aN_again (
                ⟨k + 1, by omega⟩
                ) (by dsimp only; omega) ⟨rfl, rfl, rfl, rfl, rfl, trivial⟩ ⟨rfl, rfl, rfl, rfl, rfl, rfl, trivial⟩)
           · first
             | exact Bool.noConfusion hb63
             | (
              refine nav ?_
              (refine aC_region ?_
                <;> refine xL 90 q_add ?_
                <;> refine xL 17 q_move ?_
                <;> refine aL_end (nav ?_) <;> try dsimp only)
              try rw [mput_i, mput_i]
              try rw [show iput st.s s0 (iget st.s s0 + x.count) = (mk1 st x).s by unfold mk1; cases hc : x.acts with | nil => rw [hc] at hs0; simp at hs0 | cons z t => rw [hc] at hs0; simp at hs0; subst hs0; rfl]
              try rw [show iput st.f s1 (iget st.f s1 + x.count) = (mk1 st x).f by unfold mk1; rw [List.getLast?_eq_getElem?, hs1]; rfl]
              try rw [show st.s = (mk1 st x).s by unfold mk1; rw [show x.acts = [] from List.eq_nil_of_length_eq_zero (by omega)], show st.f = (mk1 st x).f by unfold mk1; rw [show x.acts = [] from List.eq_nil_of_length_eq_zero (by omega)]; rfl]
              rw [← hnx]
              refine aN_again (
                ⟨k + 1, by omega⟩
                ) (by dsimp only; omega) ⟨rfl, rfl, rfl, rfl, rfl, trivial⟩ ⟨rfl, rfl, rfl, rfl, rfl, rfl, trivial⟩)))
     · first
       | exact Bool.noConfusion hb18
       | (
        refine nav ?_
        obtain rfl : k = l.length := by omega
        rw [List.take_length] at hst
        have hKl := hKk
        rw [hst] at hKl ⊢
        have hAl := hKl.a.len
        (refine aC_region ?_
          <;> refine xL 91 q_move ?_
          <;> refine xL 92 (q_nilo 14) ?_
          <;> refine xL 93 (q_fldo 14 tFl96_0_LdC) ?_
          <;> (refine yL 94 (q_ldo 14 tNa93_LdC) fun v94 hv94 => ?_; cases hv94)
          <;> refine xL 95 (q_mleno 301 Tryz.underlying93) ?_
          <;> refine xL 96 q_gtr ?_
          <;> refine aL_end (nav ?_) <;> try dsimp only)
        first | refine cCd (fun hb96 => ?_) (fun hb96 => ?_) | refine cC (fun hb96 => ?_) (fun hb96 => ?_)
        · first
          | exact Bool.noConfusion hb96
          | (
           refine nav ?_
           (refine aC_region ?_
             <;> refine xL 97 (q_build tSt28_LdC) ?_
             <;> refine s_sta 2 tAgg28_LdC ?_
             <;> refine xL 3 q_assign ?_
             <;> refine aL_end (nav ?_) <;> try dsimp only)
           exact ret_cs (k := 4) 2 (by kernel_rfl) (Tryz.results13) rfl rfl rfl (Nat.le_of_ble_eq_true rfl) (by decide) rfl (.inr (.inl ⟨hV, by unfold skv ivals at hb96; simp only [List.length_map] at hb96; omega, rfl⟩)))
        · first
          | exact Bool.noConfusion hb96
          | (
           refine nav ?_
           have h40 : (makeM l).a.length ≤ 40 := by unfold skv ivals at hb96; simp only [List.length_map] at hb96; omega
           refine aC_ent (fold (l := 14) (l' := 301) (j := 0) rfl rfl rfl rfl) fun _ => ?_
           refine aC_ent (fold (l := 14) (l' := 302) (j := 1) rfl rfl rfl rfl) fun _ => ?_
           refine aC_ent (fold (l := 14) (l' := 303) (j := 2) rfl rfl rfl rfl) fun _ => ?_
           refine aC_ent (fold (l := 14) (l' := 304) (j := 3) rfl rfl rfl rfl) fun _ => ?_
           refine aC_ent (freezeP (l := 14) (t := 4) (j := 0) rfl Nat.one_pos rfl) fun _ => ?_
           dsimp only [shares, share, List.set]
           (refine aC_region ?_
             <;> refine xL 98 q_move ?_
             <;> (refine cDx 99 (cA Tryz.call49 ((dGraph_e (makeM l) _ (by omega) hKl).mono (R' := fun p => ∃ i : { g // SameG g (makeM l) }, p = pDfg i.1) fun p ⟨g, h1, h2⟩ => ⟨⟨g, h1⟩, h2⟩)) (fun i v99 hv99 => ?_) (fun _ => rfl); obtain ⟨g, hg⟩ := i; dsimp only [pDfg])
             <;> refine s_sta 2 tAgg28_LdC ?_
             <;> refine xL 3 q_assign ?_
             <;> refine aL_end (nav ?_) <;> try dsimp only)
           exact ret_cs (k := 4) 2 (by kernel_rfl) (Tryz.results13) rfl rfl rfl (Nat.le_of_ble_eq_true rfl) (by decide) rfl (.inr (.inr ⟨hV, h40, g, hg, rfl⟩)))))
end Go.Proofs.YtebcjijpdhbcdaaGreat
