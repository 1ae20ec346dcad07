/-
  Contracts of other texts, turned into the engine's.
  Contracts of Go's library, turned into the engine's: strings.Join, slices.Clone.
  Walks: what cut.Split hands to ContainsFunc and SortFunc.
  slices.SortFunc over variants, on this program.
-/
import Derived.Test.YtoanjgpdepaciaaGreatEa
import Derived.Test.YtoanjgpdepaciaaGreatWa
import Derived.Test.YtoanjgpdepaciaaGreatPlain
import Derived.Test.YtoanjgpdepaciaaGreatMShelf
import Derived.Test.YtoanjgpdepaciaaGreatEngb
import Derived.Test.YtoanjgpdepaciaaGreatLp
namespace Go.Proofs.YtoanjgpdepaciaaGreat
open Go.RowKit Go.Cb Go.En
set_option linter.all false
set_option maxRecDepth 100000

theorem shr_sl {α : Type} {k : Nat} {E : Elt α} {f : α → List PV} (hf : ∀ x, (f x).length = k) {M : BS} {w : World} {v : Value} {l : List α} (h : Shr M w v (.sl l.length (l.flatMap f))) (hl : l.length ≤ 140737488355328)
    (hE : ∀ (x : α) (b o : Nat) (vs : Nat → Value), x ∈ l → (∀ j, j < k → w.cell? ⟨b, o + j, none⟩ = some (vs j) ∧ ¬ M b) → (∀ (j : Nat) (p : PV), (f x)[j]? = some p → Shr M w (vs j) p) → E M w b o x) : SlR k E M w v l := by
  generalize hn : l.length = n at h
  generalize hcs : l.flatMap f = cs at h
  cases h with
  | emp a c hc ha =>
    have : l = [] := List.eq_nil_of_length_eq_zero hn
    subst this
    exact ⟨a, c, rfl, Nat.zero_le _, by unfold maxLen at hc; exact hc, by simp, ha, fun i x hx => by simp at hx⟩
  | sl b off n c cs vs hnc hc hcell hT =>
    subst hn hcs
    refine ⟨some ⟨b, off, none⟩, c, rfl, hnc, by unfold maxLen at hc; exact hc, hl, (by intro h; cases h), fun i x hx => ⟨b, off, rfl, ?_⟩⟩
    have hfit := flat_fit hf hx
    refine hE x b (off + i * k) (fun j => vs (i * k + j)) (List.mem_of_getElem? hx) (fun j hj => ?_) (fun j p hp => ?_)
    · have := hcell (i * k + j) (by omega)
      rw [Nat.add_assoc]; exact this
    · have hj : j < k := by rw [← hf x]; exact lt_of_get hp
      exact hT _ p (by rw [flat_at hf hx hj]; exact hp)
theorem shr_strs {M : BS} {w : World} {v : Value} {l : List ByteArray} (h : Shr M w v (pStrs l)) (hf : fitS l) : Strs M w v l := by
  unfold pStrs at h
  rw [flat_one] at h
  refine shr_sl (k := 1) (f := fun x => [pStr x]) (fun _ => rfl) h hf.1 fun x b o vs hx hc hT => ?_
  have h0 : vs 0 = .string x := (hT 0 _ rfl).vOf
  have := hc 0 (by decide)
  rw [h0] at this
  exact ⟨this, hf.2 x hx⟩
theorem ret_val {w w' : World} {M : BS} {v : Value} {e : Ending} (h1 : e = .returned v) (h2 : Ext w w') : RetAF ⟨w, M, fun _ => False, 0, False⟩ (· = .val v) e w' := ⟨v, _, fun _ => False, h1, rfl, h2, .shr (.val _) (fun _ h => h), fun _ h => h.elim, fun h => h.elim⟩
end Go.Proofs.YtoanjgpdepaciaaGreat

namespace Go.Proofs.YtoanjgpdepaciaaGreat
open Go.RowKit Go.Cb Go.En
set_option linter.all false
set_option maxRecDepth 100000

theorem row_shr {M : BS} {w : World} {B e n : Nat} {v : Value} {xs : List Value} (h : w.ownsRow B e 1 v n xs) (hM : ∀ b, M b → b < B) : Shr M w v (.sl n (xs.map PV.val)) := by
  rcases h.2 with ⟨rfl, rfl⟩ | ⟨g, cap, cur, rfl, hg, hh, h4, h5, h6, h7⟩
  · have : xs = [] := List.eq_nil_of_length_eq_zero (by rw [h.1])
    subst this
    exact .emp none 0 (by unfold maxLen; omega) (fun _ => rfl)
  · refine .sl g 0 n cap _ (fun i => (xs[i]?).getD undef) h4 h5 (fun i hi => ?_) (fun i p hp => ?_)
    · rw [List.length_map] at hi
      obtain ⟨x, hx⟩ := get_of_lt hi
      refine ⟨?_, fun hm => by have := hM g hm; omega⟩
      rw [Nat.zero_add, h.cellAt i (by rw [← h.1]; exact hi), hx]; rfl
    · rw [List.getElem?_map, Option.map_eq_some_iff] at hp
      obtain ⟨x, hx, rfl⟩ := hp
      show Shr M w ((xs[i]?).getD undef) (.val x)
      rw [hx]; exact .val _
theorem ret_shrAF {w w' : World} {M : BS} {v : Value} {p : PV} {e : Ending} (h1 : e = .returned v) (h2 : Ext w w') (h3 : Shr M w' v p) : RetAF ⟨w, M, fun _ => False, 0, False⟩ (· = p) e w' :=
  ⟨v, p, fun _ => False, h1, rfl, h2, .shr (h3.anti fun b _ hb => hb.elim id False.elim) (fun _ h => h), fun _ h => h.elim, fun h => h.elim⟩
theorem shr_cells {M : BS} {w : World} {b off n c : Nat} {l : List ByteArray} (h : Shr M w (.slice (some ⟨b, off, none⟩) n c) (pStrs l)) : ∀ (j : Nat) (s : ByteArray), l[j]? = some s → w.cell? ⟨b, off + j, none⟩ = some (.string s) := fun j s hs => by
  unfold pStrs at h
  generalize hn : l.length = m at h
  generalize hcs : l.map pStr = cs at h
  cases h with
  | emp =>
    have : l = [] := List.eq_nil_of_length_eq_zero hn
    subst this; simp at hs
  | sl _ _ _ _ _ vs hn hc hcell hT =>
    subst hcs
    have h1 := (hcell j (by rw [List.length_map]; exact lt_of_get hs)).1
    have h2 : vs j = .string s := (hT j (pStr s) (by rw [List.getElem?_map, hs]; rfl)).vOf
    rw [h1, h2]
theorem clone_e (l : List ByteArray) (hl : l.length ≤ 1000000) : AF Tryz.prog 92 [pStrs l] (· = pStrs l) := fun M w vs hM hlen hv => by
  obtain ⟨v, rfl⟩ := len1 hlen
  have hS := hv 0 v _ rfl rfl
  have hS' := hS
  unfold pStrs at hS'
  generalize hn : l.length = n at hS'
  generalize hcs : l.map pStr = cs at hS'
  cases hS' with
  | emp a c hc ha =>
    have : l = [] := List.eq_nil_of_length_eq_zero hn
    subst this
    cases a with
    | none => exact (Tryz.slices_Clone_string_nil 0 c w).mono fun e w' ⟨h1, h2⟩ => ret_shrAF h1 (h2 ▸ Ext.rfl' _) (.emp none 0 (by unfold maxLen; omega) (fun _ => rfl))
    | some a => exact (Tryz.slices_Clone_string_zero a c w).mono fun e w' ⟨v', h1, h2, _, h3⟩ => ret_shrAF h1 h3 (row_shr h2 hM)
  | sl b off n c cs vs' hnc hc hcell hT =>
    subst hn hcs
    have hcl := shr_cells hS
    refine (Tryz.slices_Clone_string b off l.length c l w (Nat.le_refl _) (by omega) (fun j hj => ?_)).mono fun e w' ⟨v', h1, h2, _, h3⟩ => ret_shrAF h1 h3 ?_
    · obtain ⟨s, hs⟩ := get_of_lt hj
      rw [hcl j s hs, List.getD, hs]; rfl
    · have := row_shr h2 hM
      rw [List.take_length, List.map_map] at this
      exact this
def joinW (l : List ByteArray) : ByteArray := ⟨(Lib.join (l.map (·.data.toList)) [32]).toArray⟩
theorem join_e (l : List ByteArray) (hl : l.length ≤ 1000000) (hj : (Lib.join (l.map (·.data.toList)) [32]).length ≤ 140737488355328) : AF Tryz.prog 91 [pStrs l, pStr ⟨#[32]⟩] (· = pStr (joinW l)) := fun M w vs hM hlen hv => by
  obtain ⟨v, u, rfl⟩ := len2 hlen
  have hu : u = .string ⟨#[32]⟩ := (hv 1 u _ rfl rfl).vOf
  subst hu
  have hS := hv 0 v _ rfl rfl
  have hS' := hS
  unfold pStrs at hS'
  generalize hn : l.length = n at hS'
  generalize hcs : l.map pStr = cs at hS'
  cases hS' with
  | emp a c hc ha =>
    have : l = [] := List.eq_nil_of_length_eq_zero hn
    subst this
    exact (Tryz.strings_Join_none a c ⟨#[32]⟩ w).mono fun e w' ⟨h1, h2⟩ => ret_val (v := .string (joinW [])) (by rw [h1]; rfl) (h2 ▸ Ext.rfl' _)
  | sl b off n c cs vs' hnc hc hcell hT =>
    subst hn hcs
    have hcl := shr_cells hS
    cases hl0 : l with
    | nil =>
      subst hl0
      exact (Tryz.strings_Join_none (some ⟨b, off, none⟩) c ⟨#[32]⟩ w).mono fun e w' ⟨h1, h2⟩ => ret_val (v := .string (joinW [])) (by rw [h1]; rfl) (h2 ▸ Ext.rfl' _)
    | cons s0 l0 =>
      rw [← hl0]
      have hb : b < w.heap.size := World.block_lt_of_cell? _ _ (hcl 0 s0 (by rw [hl0]; rfl))
      exact (Tryz.strings_Join b off c l ⟨#[32]⟩ w hcl hb (by omega) hnc hj).mono fun e w' ⟨h1, h2⟩ => ret_val (v := .string (joinW l)) h1 h2
end Go.Proofs.YtoanjgpdepaciaaGreat

namespace Go.Proofs.YtoanjgpdepaciaaGreat
open Go.RowKit Go.Cb Go.En
set_option linter.all false
set_option maxRecDepth 100000

theorem tFl51_1_EwG : FldT Tryz.prog 51 1 1 = true := by kernel_rfl
theorem tNa3_EwG : NoAgg Tryz.prog 3 = true := by kernel_rfl

theorem cSplit1_e (x : Var) : AF Tryz.prog 93 [.agg (cVar x)] (· = pBool (decide (1048576 < x.count))) := by
  refine AF.of_body 6 Tryz.func93 rfl Tryz.ntmps93 (Nat.le_of_ble_eq_true rfl) ?_
  intro w0 M0 vs hl hv
  obtain ⟨v0, rfl⟩ := len1 hl
  clear hl hv
  refine nav ?_
  (refine aC_region ?_
    <;> refine s_boxa 1 2 fun h1 => ?_
    <;> refine xL 2 q_assign ?_
    <;> refine aL_end (nav ?_) <;> try dsimp only)
  (refine aC_region ?_
    <;> refine xL 3 (q_fldo 1 tFl51_1_EwG) ?_
    <;> (refine yL 4 (q_ldo 1 tNa3_EwG) fun v4 hv4 => ?_; cases hv4)
    <;> refine xL 5 q_gtr ?_
    <;> refine xL 2 q_assign ?_
    <;> refine aL_end (nav ?_) <;> try dsimp only)
  exact ret_shr (Tryz.results93) rfl rfl

theorem alloc2_grow (W : World) (o1 o2 : Obj) : (W.alloc o1).alloc o2 = Sort.grow (W.drewN 0) #[o1, o2] := by
  have : (W.heap.push o1).push o2 = W.heap ++ #[o1, o2] := by
    apply Array.ext'
    simp
  show ({ W with heap := (W.heap.push o1).push o2 } : World) = { W with heap := W.heap ++ #[o1, o2], drawn := W.drawn + 0 }
  rw [this]
  rfl
theorem cSplit2_c (x y : Var) (hx : fitS x.acts) (hy : fitS y.acts) (M : BS) (W : World) (u v : Value) (hu : Shr M W u (.agg (cVar x))) (hv : Shr M W v (.agg (cVar y))) :
    Calls Tryz.prog 95 #[u, v] W fun e w' => e = .returned (.int .i64 (cmpStrs x.acts y.acts)) ∧ ∃ q os', w' = Sort.grow (W.drewN q) os' := by
  unfold cVar at hu hv
  generalize hps : [pStrs x.acts, pInt x.count] = ps at hu
  generalize hqs : [pStrs y.acts, pInt y.count] = qs at hv
  cases hu with
  | agg us ps hl hT =>
    cases hv with
    | agg vs qs hl' hT' =>
      subst hps hqs
      obtain ⟨a1, a2, rfl⟩ := len2 hl
      obtain ⟨b1, b2, rfl⟩ := len2 hl'
      have e1 : a2 = .int .i64 x.count := (hT 1 a2 _ rfl rfl).vOf
      have e2 : b2 = .int .i64 y.count := (hT' 1 b2 _ rfl rfl).vOf
      subst e1 e2
      have s1 := shr_strs (hT 0 a1 _ rfl rfl) hx
      have s2 := shr_strs (hT' 0 b1 _ rfl rfl) hy
      clear hT hT' hl hl'
      obtain ⟨p1, c1, rfl, _⟩ := id s1
      obtain ⟨p2, c2, rfl, _⟩ := id s2
      have HC := Lib.hid (nameCompare_c x.acts y.acts _ _ ((W.alloc (.cells #[.slice p1 x.acts.length c1, .int .i64 x.count] 51)).alloc (.cells #[.slice p2 y.acts.length c2, .int .i64 y.count] 51)) (s1.up ((Ext.alloc _ _).to_alloc _)) (s2.up ((Ext.alloc _ _).to_alloc _)))
      clear s1 s2
      go_enter Tryz.func95, Tryz.ntmps95
      go_wp2_with (go_at_call 86; refine HC.out.mono ?_; rintro e w' ⟨rfl, rfl⟩)
      go_ret
      refine ⟨rfl, 0, #[.cells #[.slice p1 x.acts.length c1, .int .i64 x.count] 51, .cells #[.slice p2 y.acts.length c2, .int .i64 y.count] 51], ?_⟩
      exact alloc2_grow _ _ _
end Go.Proofs.YtoanjgpdepaciaaGreat

namespace Go.Proofs.YtoanjgpdepaciaaGreat
open Go.RowKit Go.Cb Go.En
set_option linter.all false
set_option maxRecDepth 100000



theorem tAggVar : AggT Tryz.prog 51 2 = true := by kernel_rfl
theorem sortVar_c : SortC Tryz.prog 94 95 2 := fun enc hk h1 cf hO blk cap d w hcmp hH hblk hsz =>
  AnyQ.slices_SortFunc Tryz.sortVarL 2 (fun w => AggT.run tAggVar w) (fun w => AggT.size tAggVar w) enc hk h1 cf hO 95 #[] blk 0 cap d w (Tryz.call95) hcmp hH hblk hsz
theorem sortVar_none (p : Option Addr) (cap : Nat) (fv : Value) (w : World) : Calls Tryz.prog 94 #[.slice p 0 cap, fv] w fun e w' => e = .returned (.tuple #[]) ∧ w' = w :=
  AnyF.slices_SortFunc_none Tryz.sortVarL p cap fv w
end Go.Proofs.YtoanjgpdepaciaaGreat
