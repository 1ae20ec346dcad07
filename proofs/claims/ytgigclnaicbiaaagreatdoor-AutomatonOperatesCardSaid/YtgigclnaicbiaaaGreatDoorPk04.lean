/-
  Walks: the reference's automata: closures, where a symbol leads, what is final, what is near.
  Walks: the reference's automata: distances, the words up to a length.
  Walks: the reference's automata: the words up to a length.
  Plain laws: tables, their classes, their minimal automata. No program in sight.
  Plain laws: lists of numbers as texts. No program in sight.
  Plain laws: moves in order; products of automata; the first word of a product. No program in sight.
  Plain laws: what minimal automata are like; complements. No program in sight.
  Plain laws: searches that go alike; the least automaton of a table whose final states are turned. No program in sight.
  Plain laws: automata that operations make. No program in sight.
  Plain laws: minimal automata are deterministic and complete; their products. No program in sight.
  Plain laws: the language of a table; classes are those of languages; the minimal automaton is told by the language. No program in sight.
  Plain laws: the language of an automaton; minimal automata of automata. No program in sight.
  Plain laws: what the operations' results accept; ways. No program in sight.
  Plain laws: automata side by side; unions, concatenations, reversals. No program in sight.
  The engine: arrays of two numbers are compared. No program in sight.
  The engine: numerals are appended to a row of bytes; the library's table. No program in sight.
  Walks: automata: sets of states as texts.
  Walks: automata: the subset automaton.
  Walks: automata: the classes of a table's states.
-/
import Derived.DeepKeys3
import Derived.Lib.AppendIntMem
import Derived.Lib.OthersKept
import Derived.Laws.BytesArg
import Derived.Test.YtgigclnaicbiaaaGreatDoorPk03
import Derived.Test.YtgigclnaicbiaaaGreatDoorMShelfE
namespace Go.Proofs.YtgigclnaicbiaaaGreatDoor
open Go.RowKit Go.Cb Go.En
set_option linter.all false
set_option maxRecDepth 100000
def markL (l : List Int) (i : Nat) : Bool := hasI l (i : Nat)
structure MkI (a : Aut) (l : List Int) (f : Nat → Bool) : Prop where
 base : ∀ s ∈ l, f s.toNat = true
 snd : ∀ i : Nat, i < a.n.toNat → f i = true → Rch a l (i : Nat)
def ClosF (a : Aut) (f : Nat → Bool) : Prop := ∀ m ∈ a.moves, m.sym < 0 → f m.src.toNat = true → f m.dst.toNat = true
theorem MkI.start {a : Aut} {l : List Int} (hl : InS a l) : MkI a l (markL l) := by
 refine ⟨fun s hs => ?_, fun i _ h => .base (hasI_iff.1 h)⟩
 unfold markL
 rw [hasI_iff, show ((s.toNat : Nat) : Int) = s by have := hl s hs; omega]
 exact hs
def setB (f : Nat → Bool) (i : Nat) : Nat → Bool := fun j => if j = i then true else f j
structure PassB (a : Aut) (l : List Int) (f0 f : Nat → Bool) (fl : Bool) (i : Nat) : Prop where
 mki : MkI a l f
 no : fl = false → f = f0 ∧ ∀ j m, j < i → a.moves[j]? = some m → m.sym < 0 → f m.src.toNat = true → f m.dst.toNat = true
 yes : fl = true → cntF a.n.toNat f < cntF a.n.toNat f0
theorem PassB.start {a : Aut} {l : List Int} {f : Nat → Bool} (h : MkI a l f) : PassB a l f f false 0 := ⟨h, fun _ => ⟨rfl, fun j m hj => by omega⟩, fun h => Bool.noConfusion h⟩
theorem PassB.set {a : Aut} {l : List Int} {f0 f : Nat → Bool} {fl : Bool} {i : Nat} {m : Mv} (hA : AOk a) (hl : InS a l) (h : PassB a l f0 f fl i) (hm : a.moves[i]? = some m) (h1 : m.sym < 0) (h2 : f m.src.toNat = true) (h3 : f m.dst.toNat = false) : PassB a l f0 (setB f m.dst.toNat) true (i + 1) := by
 have hmv := hA.mv m (List.mem_of_getElem? hm)
 refine ⟨⟨fun s hs => ?_, fun j hj hf => ?_⟩, fun h => Bool.noConfusion h, fun _ => ?_⟩
 · unfold setB; split
   · rfl
   · exact h.mki.base s hs
 · unfold setB at hf
   split at hf
   · rename_i e
     have h4 := h.mki.snd m.src.toNat (by omega) h2
     have h5 := Rch.step h4 (List.mem_of_getElem? hm) (by omega) (by omega)
     rw [e, show ((m.dst.toNat : Nat) : Int) = m.dst by omega]; exact h5
   · exact h.mki.snd j hj hf
 · have h4 := cntF_set h3 (n := a.n.toNat) (by omega)
   have h5 : cntF a.n.toNat (setB f m.dst.toNat) + 1 = cntF a.n.toNat f := h4
   cases hfl : fl
   · have := (h.no hfl).1
     rw [this] at h5 ⊢; omega
   · have := h.yes hfl; omega
theorem PassB.skip {a : Aut} {l : List Int} {f0 f : Nat → Bool} {fl : Bool} {i : Nat} {m : Mv} (h : PassB a l f0 f fl i) (hm : a.moves[i]? = some m) (h1 : m.sym < 0 → f m.src.toNat = true → f m.dst.toNat = true) : PassB a l f0 f fl (i + 1) :=
 ⟨h.mki, fun hf => ⟨(h.no hf).1, fun j x hj hx => by
  by_cases e : j = i
  · subst e; rw [hm] at hx; cases hx; exact h1
  · exact (h.no hf).2 j x (by omega) hx⟩, h.yes⟩
theorem PassB.clos {a : Aut} {l : List Int} {f0 f : Nat → Bool} {i : Nat} (h : PassB a l f0 f false i) (hi : a.moves.length ≤ i) : ClosF a f := fun m hm => by
 obtain ⟨j, hj⟩ := List.getElem?_of_mem hm
 exact (h.no rfl).2 j m (by have := lt_of_get hj; omega) hj
theorem PassB.less {a : Aut} {l : List Int} {f0 f : Nat → Bool} {fl : Bool} {i : Nat} (h : PassB a l f0 f fl i) : cntF a.n.toNat f + (if fl then 1 else 0) < cntF a.n.toNat f0 + (if true then 1 else 0) := by
 cases hf : fl
 · have h1 := (h.no hf).1
   rw [h1]; simp
 · have h1 := h.yes hf
   simp; omega
def FinJ (a : Aut) (k : Nat) (L : List Int) : Prop := L.length = a.n.toNat ∧ ∀ s, s < k → L[s]? = some (if finB a (s : Nat) then 0 else -1)
theorem FinJ.step {a : Aut} {k : Nat} {L : List Int} {d : Int} (h : FinJ a k L) (hk : k < a.n.toNat) (hd : d = if finB a (k : Nat) then 0 else -1) : FinJ a (k + 1) (L.set k d) := by
 refine ⟨by rw [List.length_set]; exact h.1, fun s hs => ?_⟩
 by_cases e : k = s
 · subst e
   rw [List.getElem?_set_self (by rw [h.1]; exact hk), hd]
 · rw [List.getElem?_set_ne e]; exact h.2 s (by omega)
theorem FinJ.done {a : Aut} {k : Nat} {L : List Int} (h : FinJ a k L) (hk : a.n.toNat ≤ k) : L = farAt a 0 := by
 apply List.ext_getElem?
 intro s
 rcases Nat.lt_or_ge s a.n.toNat with hs | hs
 · rw [h.2 s (by omega), show (farAt a 0)[s]? = _ from farInit_at hs]
 · rw [List.getElem?_eq_none (by rw [h.1]; exact hs), List.getElem?_eq_none (by rw [(farAt_ok a 0).len]; exact hs)]
theorem nodupN_len {n : Nat} {L : List Nat} (h : L.Nodup) (hl : ∀ s ∈ L, s < n) : L.length ≤ n := by
 have := nodup_len n (L.map fun x : Nat => (x : Int)) (List.pairwise_map.2 (h.imp fun h1 h2 => h1 (by omega))) fun s hs => by
  obtain ⟨x, hx, rfl⟩ := List.mem_map.1 hs
  have := hl x hx
  omega
 simpa using this
structure Tab where
 m : Nat
 rows : List (List Nat)
 fin : List Bool
structure TOk (t : Tab) : Prop where
 fl : t.fin.length = t.rows.length
 rl : ∀ r ∈ t.rows, r.length = t.m
 to : ∀ r ∈ t.rows, ∀ x ∈ r, x < t.rows.length
 pos : 0 < t.rows.length
 n1 : t.rows.length ≤ 2000
 m1 : t.m ≤ 40
def subW (a : Aut) : Srch (List Int) (List Int) := ⟨id, 2000, a.syms.toNat, fun _ l s => nextL a (s : Nat) l⟩
def subT (a : Aut) : Option Tab := ((subW a).all (closL a a.start)).map fun q => ⟨a.syms.toNat, q.2, q.1.map (accB a)⟩
def SetOk (a : Aut) (l : List Int) : Prop := InS a l ∧ Srt l
theorem SetOk.len {a : Aut} (h : AOk a) {l : List Int} (hl : SetOk a l) : l.length ≤ 2000 := by
 have h4 := nodup_len a.n.toNat l (hl.2.imp fun h => by omega) fun s hs => by
  have := hl.1 s hs
  have := h.n0
  omega
 have := h.n1
 omega
theorem set_next {a : Aut} (h : AOk a) (c : Int) (l : List Int) : SetOk a (nextL a c l) := ⟨next_in h.mi c l, closL_srt h.mi (leads_in h.mi c l)⟩
theorem set_start {a : Aut} (h : AOk a) : SetOk a (closL a a.start) := ⟨closL_in h.mi h.st, closL_srt h.mi h.st⟩
theorem sub_ok {a : Aut} (h : AOk a) {i : Nat} {o : List (List Int)} {rows : List (List Nat)} (hu : (subW a).upto (closL a a.start) i = some (o, rows)) : (subW a).Ok (SetOk a) (closL a a.start) o rows ∧ (i ≤ o.length → rows.length = i) ∧ (o.length ≤ i → rows.length = o.length) :=
 Srch.ok (P := SetOk a) (show 1 ≤ 2000 by decide) (set_start h) (fun _ _ s _ _ => set_next h s _) hu
theorem sub_tok {a : Aut} (h : AOk a) {t : Tab} (ht : subT a = some t) : TOk t := by
 unfold subT at ht
 obtain ⟨⟨o, rows⟩, h1, rfl⟩ := Option.map_eq_some_iff.1 ht
 obtain ⟨h2, h3, h4⟩ := sub_ok h h1
 have hcap : o.length ≤ 2000 := h2.cap
 have h5 := h4 hcap
 have hp := h2.pos
 have hs := h.s1
 refine ⟨by simp [h5], h2.len, fun r hr x hx => ?_, by dsimp only; omega, by dsimp only; omega, by dsimp only; omega⟩
 obtain ⟨i, hi⟩ := List.getElem?_of_mem hr
 obtain ⟨t, ht⟩ := List.getElem?_of_mem hx
 dsimp only at hi
 obtain ⟨y, hy⟩ := get_some (show i < o.length by have := lt_of_get hi; omega)
 have := (h2.to i y r t x hy hi ht).1
 dsimp only; omega
section
variable {κ : Type} [DecidableEq κ]
def fstK (k : Nat → κ) : Nat → List κ
 | 0 => []
 | s + 1 => if k s ∈ fstK k s then fstK k s else fstK k s ++ [k s]
theorem fstK_pre (k : Nat → κ) (s : Nat) : fstK k s <+: fstK k (s + 1) := by
 rw [fstK]; split
 · exact List.prefix_refl _
 · exact List.prefix_append _ _
theorem fstK_pre' (k : Nat → κ) (s : Nat) : ∀ t, fstK k s <+: fstK k (s + t)
 | 0 => List.prefix_refl _
 | t + 1 => (fstK_pre' k s t).trans (fstK_pre k (s + t))
theorem fstK_len (k : Nat → κ) : ∀ s, (fstK k s).length ≤ s
 | 0 => Nat.le_refl _
 | s + 1 => by
   have := fstK_len k s
   rw [fstK]; split
   · omega
   · rw [List.length_append, List.length_singleton]; omega
theorem fstK_mem {k : Nat → κ} : ∀ {s : Nat} {x : κ}, x ∈ fstK k s ↔ ∃ i, i < s ∧ k i = x
 | 0, x => by simp [fstK]
 | s + 1, x => by
   have ih := fstK_mem (k := k) (s := s) (x := x)
   rw [fstK]; split
   · rename_i h
     rw [ih]
     constructor
     · rintro ⟨i, h1, h2⟩; exact ⟨i, by omega, h2⟩
     · rintro ⟨i, h1, h2⟩
       by_cases e : i = s
       · subst e; subst h2; exact ih.1 h
       · exact ⟨i, by omega, h2⟩
   · rw [List.mem_append, ih, List.mem_singleton]
     constructor
     · rintro (⟨i, h1, h2⟩ | h)
       · exact ⟨i, by omega, h2⟩
       · exact ⟨s, by omega, h.symm⟩
     · rintro ⟨i, h1, h2⟩
       by_cases e : i = s
       · subst e; exact .inr h2.symm
       · exact .inl ⟨i, by omega, h2⟩
theorem fstK_nd (k : Nat → κ) : ∀ s, (fstK k s).Nodup
 | 0 => List.nodup_nil
 | s + 1 => by
   rw [fstK]; split
   · exact fstK_nd k s
   · rename_i h
     rw [List.nodup_append]
     exact ⟨fstK_nd k s, by simp, fun a ha b hb e => h (by rw [List.mem_singleton.1 hb] at e; rw [← e]; exact ha)⟩
theorem posI_lt {l : List κ} {x : κ} : posK id l x < l.length ↔ x ∈ l := by
 rw [posK_lt]
 constructor
 · rintro ⟨y, h1, rfl⟩; exact h1
 · exact fun h => ⟨x, h, rfl⟩
theorem fstK_old {k : Nat → κ} {s : Nat} (h : posK id (fstK k s) (k s) < (fstK k s).length) : fstK k (s + 1) = fstK k s := by rw [fstK, if_pos (posI_lt.1 h)]
theorem fstK_new {k : Nat → κ} {s : Nat} (h : ¬ posK id (fstK k s) (k s) < (fstK k s).length) : fstK k (s + 1) = fstK k s ++ [k s] := by rw [fstK, if_neg fun h1 => h (posI_lt.2 h1)]
theorem fstK_pos {k : Nat → κ} {s n : Nat} (h : s < n) : posK id (fstK k n) (k s) = posK id (fstK k (s + 1)) (k s) ∧ posK id (fstK k n) (k s) < (fstK k n).length := by
 have h1 : k s ∈ fstK k (s + 1) := fstK_mem.2 ⟨s, by omega, rfl⟩
 have h2 := fstK_pre' k (s + 1) (n - (s + 1))
 rw [show s + 1 + (n - (s + 1)) = n by omega] at h2
 obtain ⟨e, he⟩ := h2
 exact ⟨by rw [← he, posK_app e (posI_lt.2 h1)], posI_lt.2 (fstK_mem.2 ⟨s, h, rfl⟩)⟩
end
def keyC (rows : List (List Nat)) (c : Nat → Nat) (s : Nat) : List Nat := c s :: ((rows[s]?).getD []).map c
def nextC (rows : List (List Nat)) (c : Nat → Nat) (s : Nat) : Nat := posK id (fstK (keyC rows c) rows.length) (keyC rows c s)
def cntC (rows : List (List Nat)) (c : Nat → Nat) : Nat := (fstK (keyC rows c) rows.length).length
def clsIt (rows : List (List Nat)) : Nat → (Nat → Nat) → Nat → (Nat → Nat)
 | 0, c, _ => c
 | f + 1, c, k => if cntC rows c = k then nextC rows c else clsIt rows f (nextC rows c) (cntC rows c)
def finC (fin : List Bool) (s : Nat) : Nat := if (fin[s]?).getD false then 1 else 0
def clsT (t : Tab) : Nat → Nat := clsIt t.rows (t.rows.length + 2) (finC t.fin) 0
structure COk (n : Nat) (c : Nat → Nat) (k : Nat) : Prop where
 hit : ∀ v, v < k → ∃ s, s < n ∧ c s = v
 le : k ≤ n
 bd : ∀ s, s < n → c s ≤ n
theorem COk.start (fin : List Bool) (n : Nat) : COk n (finC fin) 0 := ⟨fun v h => by omega, Nat.zero_le _, fun s h => by unfold finC; split <;> omega⟩
theorem COk.grow {rows : List (List Nat)} {c : Nat → Nat} {k : Nat} (h : COk rows.length c k) : k ≤ cntC rows c := by
 have h1 : ∀ v, v < k → v ∈ (fstK (keyC rows c) rows.length).map fun l => l.headD 0 := fun v hv => by
  obtain ⟨s, hs, rfl⟩ := h.hit v hv
  exact List.mem_map.2 ⟨keyC rows c s, fstK_mem.2 ⟨s, hs, rfl⟩, rfl⟩
 have h2 : ∀ (n : Nat) (L : List Nat), (∀ v, v < n → v ∈ L) → n ≤ L.length := fun n => by
  induction n with
  | zero => exact fun _ _ => Nat.zero_le _
  | succ n ih =>
    intro L hL
    have h3 := ih (L.erase n) fun v hv => (List.mem_erase_of_ne (by omega)).2 (hL v (by omega))
    rw [List.length_erase_of_mem (hL n (by omega))] at h3
    have := List.length_pos_of_mem (hL n (by omega))
    omega
 have := h2 k _ h1
 rwa [List.length_map] at this
theorem COk.next {rows : List (List Nat)} {c : Nat → Nat} {k : Nat} (h : COk rows.length c k) : COk rows.length (nextC rows c) (cntC rows c) := by
 have hl := fstK_len (keyC rows c) rows.length
 refine ⟨fun v hv => ?_, hl, fun s hs => ?_⟩
 · obtain ⟨x, hx⟩ := get_some hv
   obtain ⟨s, hs, rfl⟩ := fstK_mem.1 (List.mem_of_getElem? hx)
   refine ⟨s, hs, ?_⟩
   have hn : ((fstK (keyC rows c) rows.length).map id).Nodup := by rw [List.map_id]; exact fstK_nd _ _
   exact posK_idx hn hx
 · have := (fstK_pos (k := keyC rows c) hs).2
   show posK _ _ _ ≤ _
   omega
def toT (t : Tab) (x s : Nat) : Nat := ((((t.rows[x]?).getD [])[s]?).getD 0)
def minW (t : Tab) : Srch Nat Nat := ⟨clsT t, t.rows.length, t.m, fun _ x s => toT t x s⟩
theorem toT_at {t : Tab} {x s n : Nat} {r : List Nat} (h : t.rows[x]? = some r) (h2 : r[s]? = some n) : toT t x s = n := by
 unfold toT; rw [h]; show ((r[s]?).getD 0) = n; rw [h2]; rfl
theorem toT_lt {t : Tab} (h : TOk t) {x s : Nat} : toT t x s < t.rows.length := by
 unfold toT
 cases h1 : t.rows[x]? with
 | none => simpa using h.pos
 | some r =>
   show ((r[s]?).getD 0) < _
   cases h2 : r[s]? with
   | none => simpa using h.pos
   | some n => exact h.to r (List.mem_of_getElem? h1) n (List.mem_of_getElem? h2)
theorem nodup_of_map {α β : Type} {f : α → β} : ∀ {l : List α}, (l.map f).Nodup → l.Nodup
 | [], _ => List.nodup_nil
 | x :: l, h => by
   rw [List.map_cons, List.nodup_cons] at h
   exact List.nodup_cons.2 ⟨fun h1 => h.1 (List.mem_map_of_mem h1), nodup_of_map h.2⟩
theorem min_visit {t : Tab} (h : TOk t) {o : List Nat} (hm : (minW t).Met (· < t.rows.length) 0 o) {x : Nat} (hx : x < t.rows.length) (hn : ¬ posK (minW t).key o ((minW t).key x) < o.length) : o.length < t.rows.length := by
 have h1 : (o ++ [x]).Nodup := by
  rw [List.nodup_append]
  refine ⟨nodup_of_map hm.nd, by simp, fun a ha b hb e => hn (posK_lt.2 ⟨x, ?_, rfl⟩)⟩
  rw [List.mem_singleton.1 hb] at e
  rw [← e]; exact ha
 have := nodupN_len h1 fun s hs => by
  rcases List.mem_append.1 hs with hs | hs
  · exact hm.p s hs
  · rw [List.mem_singleton.1 hs]; exact hx
 rw [List.length_append, List.length_singleton] at this
 omega
theorem min_row {t : Tab} (h : TOk t) {i x : Nat} {o : List Nat} (hm : (minW t).Met (· < t.rows.length) 0 o) : ∀ s, s ≤ t.m → ∃ q, (minW t).row i x o s = some q
 | 0, _ => ⟨_, rfl⟩
 | s + 1, hs => by
   obtain ⟨⟨o1, r1⟩, h1⟩ := min_row h hm s (by omega)
   obtain ⟨h2, _⟩ := hm.row (fun s _ => toT_lt h) (show s ≤ (minW t).m from (by show s ≤ t.m; omega)) h1
   by_cases hp : posK (minW t).key o1 ((minW t).key ((minW t).step i x s)) < o1.length
   · exact ⟨_, Srch.row_snoc h1 (visit_old hp)⟩
   · exact ⟨_, Srch.row_snoc h1 (visit_new hp (min_visit h h2 (toT_lt h) hp))⟩
theorem min_ok {t : Tab} (h : TOk t) {i : Nat} {o : List Nat} {rows : List (List Nat)} (hu : (minW t).upto 0 i = some (o, rows)) : (minW t).Ok (· < t.rows.length) 0 o rows ∧ (i ≤ o.length → rows.length = i) ∧ (o.length ≤ i → rows.length = o.length) :=
 Srch.ok (W := minW t) (P := (· < t.rows.length)) h.pos h.pos (fun _ _ s _ _ => toT_lt h) hu
theorem min_upto {t : Tab} (h : TOk t) : ∀ i, ∃ q, (minW t).upto 0 i = some q
 | 0 => ⟨_, rfl⟩
 | i + 1 => by
   obtain ⟨⟨o, rows⟩, h1⟩ := min_upto h i
   cases hx : o[i]? with
   | none => exact ⟨_, Srch.upto_stop h1 (List.getElem?_eq_none_iff.1 hx) 1⟩
   | some x =>
     obtain ⟨⟨o', r⟩, h2⟩ := min_row h (i := i) (x := x) (min_ok h h1).1.toMet t.m (Nat.le_refl _)
     exact ⟨_, Srch.upto_snoc h1 hx h2⟩
theorem min_all {t : Tab} (h : TOk t) : ∃ q, (minW t).all 0 = some q := min_upto h _
def rowMv (i : Nat) (r : List Nat) : List Mv := r.zipIdx.map fun p => ⟨(i : Nat), (p.1 : Nat), (p.2 : Nat)⟩
def movesT (rows : List (List Nat)) : List Mv := rows.zipIdx.flatMap fun p => rowMv p.2 p.1
theorem rowMv_snoc (i : Nat) (r : List Nat) (n : Nat) : rowMv i (r ++ [n]) = rowMv i r ++ [⟨(i : Nat), (n : Nat), (r.length : Nat)⟩] := by
 unfold rowMv; rw [List.zipIdx_append, List.map_append]; simp
theorem rowMv_len (i : Nat) (r : List Nat) : (rowMv i r).length = r.length := by unfold rowMv; simp
theorem movesT_snoc (rows : List (List Nat)) (r : List Nat) : movesT (rows ++ [r]) = movesT rows ++ rowMv rows.length r := by
 unfold movesT; rw [List.zipIdx_append, List.flatMap_append]; simp
theorem movesT_len {m : Nat} : ∀ (rows : List (List Nat)), (∀ r ∈ rows, r.length = m) → (movesT rows).length = rows.length * m := by
 intro rows
 have key : ∀ (L : List (List Nat)) (k : Nat), (∀ r ∈ L, r.length = m) → ((L.zipIdx k).flatMap fun p => rowMv p.2 p.1).length = L.length * m := by
  intro L
  induction L with
  | nil => intro k _; simp
  | cons r L ih =>
    intro k h
    rw [List.zipIdx_cons, List.flatMap_cons, List.length_append, ih (k + 1) (fun r hr => h r (List.mem_cons_of_mem _ hr)), rowMv_len, h r (List.mem_cons_self ..), List.length_cons, Nat.succ_mul]
    omega
 exact key rows 0
def finAt (t : Tab) (o : List Nat) (i : Nat) : Bool := (t.fin[(o[i]?).getD 0]?).getD false
def autQ (t : Tab) (q : List Nat × List (List Nat)) : Aut := ⟨(q.1.length : Nat), (t.m : Nat), [0], listedL q.1.length (finAt t q.1), movesT q.2⟩
def leastT (t : Tab) : Option Aut := ((minW t).all 0).bind fun q => if 20000 < (movesT q.2).length then none else some (autQ t q)
def autZ : Aut := ⟨0, 0, [], [], []⟩
def resA : Except Int Aut → PV
 | .ok a => .tup [pAut a, pInt 0]
 | .error e => .tup [pAut autZ, pInt e]
def rawZ : PV := .agg [pInt 0, pInt 0, .val (.slice none 0 0), .val (.slice none 0 0), .val (.slice none 0 0)]
def resW : Except Int Aut → PV
 | .ok a => .tup [pAut a, pInt 0]
 | .error e => .tup [rawZ, pInt e]
def lim (x : Option Aut) : Except Int Aut := match x with
 | some a => .ok a
 | none => .error 13
def redX (a : Aut) : Except Int Aut := match subT a with
 | some t => lim (leastT t)
 | none => .error 13
def minX (a : Aut) : Except Int Aut := if autOk a then redX a else .error 1
def valD (l : List UInt8) : Nat := l.foldl (fun v b => v * 10 + (b.toNat - 48)) 0
theorem valD_snoc (l : List UInt8) (b : UInt8) : valD (l ++ [b]) = valD l * 10 + (b.toNat - 48) := by unfold valD; rw [List.foldl_append]; rfl
theorem dig_nat {u : Nat} (h : u < 10) : (UInt8.ofNat (48 + u)).toNat = 48 + u := by
 rw [UInt8.toNat_ofNat']; omega
theorem valD_dec (u : Nat) : valD (Lib.decDigits u) = u := by
 induction u using Nat.strongRecOn with
 | _ u ih =>
   rw [Lib.decDigits]
   split
   · rename_i h
     show 0 * 10 + ((UInt8.ofNat (48 + u)).toNat - 48) = u
     rw [dig_nat h]; omega
   · rw [valD_snoc, ih (u / 10) (by omega), dig_nat (by omega)]; omega
theorem dec_ne (u : Nat) : ∀ b ∈ Lib.decDigits u, b ≠ 32 := by
 induction u using Nat.strongRecOn with
 | _ u ih =>
   have key : ∀ v : Nat, v < 10 → UInt8.ofNat (48 + v) ≠ 32 := fun v hv e => by
    have := congrArg UInt8.toNat e
    rw [dig_nat hv] at this
    have h32 : (32 : UInt8).toNat = 32 := rfl
    omega
   rw [Lib.decDigits]
   split
   · rename_i h
     intro b hb
     rw [List.mem_singleton.1 hb]; exact key u h
   · intro b hb
     rcases List.mem_append.1 hb with hb | hb
     · exact ih (u / 10) (by omega) b hb
     · rw [List.mem_singleton.1 hb]; exact key _ (by omega)
theorem split_32 : ∀ {a b c d : List UInt8}, (∀ x ∈ a, x ≠ 32) → (∀ x ∈ b, x ≠ 32) → a ++ 32 :: c = b ++ 32 :: d → a = b ∧ c = d
 | [], [], c, d, _, _, h => ⟨rfl, (List.cons.inj h).2⟩
 | [], y :: b, c, d, _, hb, h => absurd (List.cons.inj h).1.symm (hb y (List.mem_cons_self ..))
 | x :: a, [], c, d, ha, _, h => absurd (List.cons.inj h).1 (ha x (List.mem_cons_self ..))
 | x :: a, y :: b, c, d, ha, hb, h => by
   obtain ⟨h1, h2⟩ := List.cons.inj h
   obtain ⟨h3, h4⟩ := split_32 (fun z hz => ha z (List.mem_cons_of_mem _ hz)) (fun z hz => hb z (List.mem_cons_of_mem _ hz)) h2
   exact ⟨by rw [h1, h3], h4⟩
def keyL (l : List Int) : List UInt8 := l.flatMap fun s => Lib.itoa s ++ [32]
def keyB (l : List Int) : ByteArray := ⟨(keyL l).toArray⟩
theorem keyL_inj : ∀ {l m : List Int}, (∀ x ∈ l, 0 ≤ x) → (∀ x ∈ m, 0 ≤ x) → keyL l = keyL m → l = m
 | [], [], _, _, _ => rfl
 | [], y :: m, _, _, h => by
   have := congrArg List.length h
   simp only [keyL, List.flatMap_cons, List.flatMap_nil, List.length_append, List.length_cons, List.length_nil] at this
   omega
 | x :: l, [], _, _, h => by
   have := congrArg List.length h
   simp only [keyL, List.flatMap_cons, List.flatMap_nil, List.length_append, List.length_cons, List.length_nil] at this
   omega
 | x :: l, y :: m, hl, hm, h => by
   have hx := hl x (List.mem_cons_self ..)
   have hy := hm y (List.mem_cons_self ..)
   have e1 : Lib.itoa x = Lib.decDigits x.toNat := by unfold Lib.itoa; rw [if_neg (by omega)]
   have e2 : Lib.itoa y = Lib.decDigits y.toNat := by unfold Lib.itoa; rw [if_neg (by omega)]
   have h' : Lib.decDigits x.toNat ++ 32 :: keyL l = Lib.decDigits y.toNat ++ 32 :: keyL m := by
    have : keyL (x :: l) = Lib.itoa x ++ [32] ++ keyL l := rfl
    rw [this, show keyL (y :: m) = Lib.itoa y ++ [32] ++ keyL m from rfl, e1, e2] at h
    simpa using h
   obtain ⟨h1, h2⟩ := split_32 (dec_ne _) (dec_ne _) h'
   have h3 := congrArg valD h1
   rw [valD_dec, valD_dec] at h3
   rw [keyL_inj (fun z hz => hl z (List.mem_cons_of_mem _ hz)) (fun z hz => hm z (List.mem_cons_of_mem _ hz)) h2, show x = y by omega]
theorem ba_inj {l m : List UInt8} (h : (⟨l.toArray⟩ : ByteArray) = ⟨m.toArray⟩) : l = m := by
 have := ByteArray.mk.inj h
 simpa using this
theorem keyB_inj {l m : List Int} (hl : ∀ x ∈ l, 0 ≤ x) (hm : ∀ x ∈ m, 0 ≤ x) : keyB l = keyB m ↔ l = m :=
 ⟨fun h => keyL_inj hl hm (ba_inj h), fun h => by rw [h]⟩
def toI (l : List Nat) : List Int := l.map fun x : Nat => (x : Int)
theorem toI_inj {l m : List Nat} : toI l = toI m ↔ l = m := by
 unfold toI
 constructor
 · intro h
   have := congrArg (List.map Int.toNat) h
   simpa [List.map_map, Function.comp_def] using this
 · intro h; rw [h]
def eqM (a b : Mv) : Bool := decide (a.src = b.src) && decide (a.dst = b.dst) && decide (a.sym = b.sym)
theorem eqM_iff {a b : Mv} : eqM a b = true ↔ a = b := by
 unfold eqM
 simp only [Bool.and_eq_true, decide_eq_true_eq]
 cases a; cases b
 simp only [Mv.mk.injEq, and_assoc]
theorem mvLt_irr (a : Mv) : mvLt a a = false := by
 cases h : mvLt a a with
 | false => rfl
 | true => have := mvLt_iff.1 h; omega
theorem mvLt_tr {a b c : Mv} (h1 : mvLt a b = true) (h2 : mvLt b c = true) : mvLt a c = true := by
 rw [mvLt_iff] at h1 h2 ⊢; omega
theorem mvLt_tri {a b : Mv} (h1 : mvLt a b = false) (h2 : mvLt b a = false) : a = b := by
 have e1 : ¬ mvLt a b = true := by rw [h1]; simp
 have e2 : ¬ mvLt b a = true := by rw [h2]; simp
 rw [mvLt_iff] at e1 e2
 rw [← eqM_iff]; unfold eqM
 simp only [Bool.and_eq_true, decide_eq_true_eq]; omega
def AscM (l : List Mv) : Prop := l.Pairwise fun a b => mvLt a b = true
theorem ascM_ext : ∀ {l m : List Mv}, AscM l → AscM m → (∀ x, x ∈ l ↔ x ∈ m) → l = m
 | [], [], _, _, _ => rfl
 | [], y :: m, _, _, h => absurd ((h y).2 (List.mem_cons_self ..)) (by simp)
 | x :: l, [], _, _, h => absurd ((h x).1 (List.mem_cons_self ..)) (by simp)
 | x :: l, y :: m, hl, hm, h => by
   have hl' := List.pairwise_cons.1 hl
   have hm' := List.pairwise_cons.1 hm
   have hxy : x = y := by
    rcases List.mem_cons.1 ((h x).1 (List.mem_cons_self ..)) with e | h1
    · exact e
    · rcases List.mem_cons.1 ((h y).2 (List.mem_cons_self ..)) with e | h2
      · exact e.symm
      · have h3 := mvLt_tr (hm'.1 x h1) (hl'.1 y h2)
        rw [mvLt_irr] at h3; cases h3
   subst hxy
   congr 1
   refine ascM_ext hl'.2 hm'.2 fun z => ⟨fun hz => ?_, fun hz => ?_⟩
   · rcases List.mem_cons.1 ((h z).1 (List.mem_cons_of_mem _ hz)) with e | h1
     · have h3 := hl'.1 z hz
       rw [e, mvLt_irr] at h3; cases h3
     · exact h1
   · rcases List.mem_cons.1 ((h z).2 (List.mem_cons_of_mem _ hz)) with e | h1
     · have h3 := hm'.1 z hz
       rw [e, mvLt_irr] at h3; cases h3
     · exact h1
def insM (m : Mv) : List Mv → List Mv
 | [] => [m]
 | x :: l => if mvLt m x then m :: x :: l else if eqM m x then x :: l else x :: insM m l
theorem insM_mem {m y : Mv} : ∀ {l : List Mv}, y ∈ insM m l ↔ y = m ∨ y ∈ l
 | [] => by simp [insM]
 | x :: l => by
   rw [insM]; split
   · simp
   · split
     · rename_i h
       rw [eqM_iff] at h; subst h
       simp
     · rw [List.mem_cons, insM_mem, List.mem_cons]
       constructor
       · rintro (h | h | h)
         · exact .inr (.inl h)
         · exact .inl h
         · exact .inr (.inr h)
       · rintro (h | h | h)
         · exact .inr (.inl h)
         · exact .inl h
         · exact .inr (.inr h)
theorem insM_asc {m : Mv} : ∀ {l : List Mv}, AscM l → AscM (insM m l)
 | [], _ => by simp [insM, AscM]
 | x :: l, h => by
   have h' := List.pairwise_cons.1 h
   rw [insM]; split
   · rename_i hm
     refine List.pairwise_cons.2 ⟨fun z hz => ?_, h⟩
     rcases List.mem_cons.1 hz with rfl | hz
     · exact hm
     · exact mvLt_tr hm (h'.1 z hz)
   · rename_i hm
     split
     · exact h
     · rename_i he
       refine List.pairwise_cons.2 ⟨fun z hz => ?_, insM_asc h'.2⟩
       rcases insM_mem.1 hz with rfl | hz
       · cases hxz : mvLt x z with
         | true => rfl
         | false => exact absurd (eqM_iff.2 (mvLt_tri (by simpa using hm) hxz)) he
       · exact h'.1 z hz
def mkM : List Mv → List Mv
 | [] => []
 | x :: l => insM x (mkM l)
theorem mkM_mem {y : Mv} : ∀ {l : List Mv}, y ∈ mkM l ↔ y ∈ l
 | [] => by simp [mkM]
 | x :: l => by rw [mkM, insM_mem, mkM_mem, List.mem_cons]
theorem mkM_asc : ∀ l, AscM (mkM l)
 | [] => .nil
 | x :: l => insM_asc (mkM_asc l)
theorem mkM_eq {l m : List Mv} (hl : AscM l) (h : ∀ x, x ∈ l ↔ x ∈ m) : l = mkM m := ascM_ext hl (mkM_asc m) fun x => by rw [h, mkM_mem]
theorem asc_len {l m : List Mv} (hl : AscM l) (h : ∀ x ∈ l, x ∈ m) : l.length ≤ m.length := by
 induction l generalizing m with
 | nil => exact Nat.zero_le _
 | cons x l ih =>
   have h' := List.pairwise_cons.1 hl
   obtain ⟨a, b, rfl⟩ := List.append_of_mem (h x (List.mem_cons_self ..))
   have := ih (m := a ++ b) h'.2 fun y hy => by
    rcases List.mem_append.1 (h y (List.mem_cons_of_mem _ hy)) with h1 | h1
    · exact List.mem_append_left _ h1
    · rcases List.mem_cons.1 h1 with rfl | h1
      · have := h'.1 y hy
        rw [mvLt_irr] at this; cases this
      · exact List.mem_append_right _ h1
   simp only [List.length_append, List.length_cons] at this ⊢
   omega
theorem mkM_len (l : List Mv) : (mkM l).length ≤ l.length := asc_len (mkM_asc l) fun x h => mkM_mem.1 h
def redL (a : Aut) : Except Int Aut := if 2000 < a.n ∨ 20000 < a.moves.length then .error 13 else redX a
def madeX (a : Aut) : Except Int Aut := redL { a with moves := mkM a.moves }
def starA (a : Aut) : Aut := ⟨a.n + 1, a.syms, [a.n], [a.n], a.moves ++ (a.start.map fun s => ⟨a.n, s, -1⟩) ++ a.fin.map fun s => ⟨s, a.n, -1⟩⟩
def starX (a : Aut) : Except Int Aut := if autOk a then madeX (starA a) else .error 1
def stepA (A : Aut) (i s : Nat) : Nat := (((A.moves[i * A.syms.toNat + s]?).map Mv.dst).getD 0).toNat
def decB (op : Int) (x y : Bool) : Bool := if op = 1 then x && y else if op = 2 then x || y else if op = 3 then x && !y else x != y
def prodW (A B : Aut) : Srch ((Nat × Nat) × (Int × Int)) (Nat × Nat) := ⟨Prod.fst, 2000, A.syms.toNat, fun i x s => ((stepA A x.1.1 s, stepA B x.1.2 s), ((i : Nat), (s : Nat)))⟩
def prodQ (A B : Aut) : Option (List ((Nat × Nat) × (Int × Int)) × List (List Nat)) := (prodW A B).all ((0, 0), (-1, -1))
def prodF (A B : Aut) (op : Int) (x : (Nat × Nat) × (Int × Int)) : Bool := decB op (finB A (x.1.1 : Nat)) (finB B (x.1.2 : Nat))
def prodT (A B : Aut) (op : Int) (q : List ((Nat × Nat) × (Int × Int)) × List (List Nat)) : Tab := ⟨A.syms.toNat, q.2, q.1.map (prodF A B op)⟩
def bothX (a b : Aut) : Except Int (Aut × Aut × List ((Nat × Nat) × (Int × Int)) × List (List Nat)) := match redX a, redX b with
 | .ok A, .ok B => match prodQ A B with
   | some q => .ok (A, B, q)
   | none => .error 13
 | _, _ => .error 13
def fitX (a b : Aut) : Int := if autOk a = false ∨ autOk b = false then 1 else if ¬ a.syms = b.syms then 29 else 0
def prodX (a b : Aut) (op : Int) : Except Int Aut := if ¬ fitX a b = 0 then .error (fitX a b) else if op < 1 ∨ 4 < op then .error 2 else match bothX a b with
 | .ok (A, B, q) => lim (leastT (prodT A B op q))
 | .error e => .error e
def pathP (par : List (Int × Int)) : Nat → Nat → List Int
 | 0, _ => []
 | f + 1, i => match par[i]? with
   | some x => if x.1 < 0 then [] else pathP par f x.1.toNat ++ [x.2]
   | none => []
def cmpR (A B : Aut) (op : Int) (q : List ((Nat × Nat) × (Int × Int)) × List (List Nat)) : Bool × List Int :=
 match (q.1.map (prodF A B op)).idxOf? true with
 | some i => (false, pathP (q.1.map (·.2)) (i + 1) i)
 | none => (true, [])
def cmpX (a b : Aut) (op : Int) : Bool × List Int × Int := if ¬ fitX a b = 0 then (false, [], fitX a b) else match bothX a b with
 | .ok (A, B, q) => ((cmpR A B op q).1, (cmpR A B op q).2, 0)
 | .error e => (false, [], e)
theorem leastT_some {t : Tab} {A : Aut} (h : leastT t = some A) : ∃ o rows, (minW t).all 0 = some (o, rows) ∧ A = autQ t (o, rows) ∧ (movesT rows).length ≤ 20000 := by
 unfold leastT at h
 obtain ⟨⟨o, rows⟩, h1, h2⟩ := Option.bind_eq_some_iff.1 h
 dsimp only at h2
 split at h2
 · cases h2
 · cases h2
   exact ⟨o, rows, h1, rfl, by omega⟩
structure Fin (t : Tab) (o : List Nat) (rows : List (List Nat)) : Prop where
 ok : (minW t).Ok (· < t.rows.length) 0 o rows
 len : rows.length = o.length
 n1 : o.length ≤ 2000
 pos : 0 < o.length
theorem fin_of {t : Tab} (h : TOk t) {o : List Nat} {rows : List (List Nat)} (hu : (minW t).all 0 = some (o, rows)) : Fin t o rows := by
 obtain ⟨h1, _, h3⟩ := min_ok h hu
 have hc : o.length ≤ t.rows.length := h1.cap
 have := h.n1
 exact ⟨h1, h3 hc, by omega, h1.pos⟩
theorem mem_rowMv {i : Nat} {r : List Nat} {m : Mv} (h : m ∈ rowMv i r) : ∃ n s : Nat, r[s]? = some n ∧ m = ⟨(i : Nat), (n : Nat), (s : Nat)⟩ := by
 unfold rowMv at h
 obtain ⟨p, hp, rfl⟩ := List.mem_map.1 h
 exact ⟨p.1, p.2, by have := List.mem_zipIdx_iff_getElem?.1 hp; exact this, rfl⟩
theorem mem_movesT {rows : List (List Nat)} {m : Mv} (h : m ∈ movesT rows) : ∃ (i s n : Nat) (r : List Nat), rows[i]? = some r ∧ r[s]? = some n ∧ m = ⟨(i : Nat), (n : Nat), (s : Nat)⟩ := by
 unfold movesT at h
 obtain ⟨p, hp, hm⟩ := List.mem_flatMap.1 h
 obtain ⟨n, s, h1, h2⟩ := mem_rowMv hm
 exact ⟨p.2, s, n, p.1, List.mem_zipIdx_iff_getElem?.1 hp, h1, h2⟩
theorem autQ_aok {t : Tab} (ht : TOk t) {o : List Nat} {rows : List (List Nat)} (h : Fin t o rows) (hm : (movesT rows).length ≤ 20000) : AOk (autQ t (o, rows)) := by
 have hp := h.pos
 have hn := h.n1
 have hm1 := ht.m1
 have hll := listedL_len o.length (finAt t o)
 refine ⟨by show (0 : Int) ≤ (o.length : Nat); omega, by show ((o.length : Nat) : Int) ≤ 2000; omega, by show (0 : Int) ≤ (t.m : Nat); omega, by show ((t.m : Nat) : Int) ≤ 40; omega, hm, fun s hs => ?_, fun s hs => ?_, by show [(0 : Int)].length ≤ 2000; simp, by show (listedL o.length (finAt t o)).length ≤ 2000; omega, fun m hmm => ?_⟩
 · rw [show s = 0 from List.mem_singleton.1 hs]
   exact ⟨Int.le_refl _, by show (0 : Int) < (o.length : Nat); omega⟩
 · obtain ⟨h1, h2, _⟩ := listedL_mem.1 hs
   exact ⟨h1, h2⟩
 · obtain ⟨i, s, n, r, h1, h2, rfl⟩ := mem_movesT hmm
   have h3 : i < rows.length := lt_of_get h1
   have h4 := lt_of_get h2
   have h5 : r.length = t.m := h.ok.len r (List.mem_of_getElem? h1)
   obtain ⟨x, hx⟩ := get_some (show i < o.length by rw [← h.len]; exact h3)
   have h6 := (h.ok.to i x r s n hx h1 h2).1
   have h7 := h.len
   refine ⟨by show (0 : Int) ≤ (i : Nat); omega, by show ((i : Nat) : Int) < (o.length : Nat); omega, by show (0 : Int) ≤ (n : Nat); omega, by show ((n : Nat) : Int) < (o.length : Nat); omega, by show (-1 : Int) ≤ (s : Nat); omega, by show ((s : Nat) : Int) < (t.m : Nat); omega⟩
theorem redX_ok {a A : Aut} (h : AOk a) (hr : redX a = .ok A) : ∃ t o rows, subT a = some t ∧ TOk t ∧ (minW t).all 0 = some (o, rows) ∧ Fin t o rows ∧ A = autQ t (o, rows) ∧ (movesT rows).length ≤ 20000 := by
 unfold redX at hr
 split at hr
 · rename_i t ht
   cases hl : leastT t with
   | none => rw [hl] at hr; cases hr
   | some B =>
     rw [hl] at hr; cases hr
     obtain ⟨o, rows, h1, h2, h3⟩ := leastT_some hl
     have hT := sub_tok h ht
     exact ⟨t, o, rows, ht, hT, h1, fin_of hT h1, h2, h3⟩
 · cases hr
theorem redX_aok {a A : Aut} (h : AOk a) (hr : redX a = .ok A) : AOk A := by
 obtain ⟨t, o, rows, _, hT, _, hF, rfl, hm⟩ := redX_ok h hr
 exact autQ_aok hT hF hm
theorem minX_ok {a A : Aut} (h : minX a = .ok A) : autOk a = true ∧ redX a = .ok A := by
 unfold minX at h
 split at h
 · rename_i h1; exact ⟨h1, h⟩
 · cases h
def compA (A : Aut) : Aut := { A with fin := listedL A.n.toNat fun i => !finB A (i : Nat) }
def compX (a : Aut) : Except Int Aut := match minX a with
 | .ok A => .ok (compA A)
 | .error e => .error e
def insL (l : List Int) : List (Int × Value) := l.foldl (fun m x => aput m x (.bool true)) []
theorem insL_snoc {l : List Int} {k : Nat} {x : Int} (h : l[k]? = some x) : insL (l.take (k + 1)) = aput (insL (l.take k)) x (.bool true) := by
 unfold insL; rw [take_snoc h, List.foldl_append]; rfl
theorem aget_aputI (m : List (Int × Value)) (x : Int) (v : Value) (y : Int) : aget (aput m x v) y = if y = x then some v else aget m y := by
 induction m with
 | nil =>
   rw [aput, aget]; rfl
 | cons p m ih =>
   rw [aput]
   by_cases h : x = p.1
   · rw [if_pos h, aget, aget]
     by_cases h2 : y = x
     · rw [if_pos h2, if_pos h2]
     · rw [if_neg h2, if_neg h2, if_neg (by rw [← h]; exact h2)]
   · rw [if_neg h, aget, aget, ih]
     by_cases h2 : y = p.1
     · rw [if_pos h2, if_pos h2, if_neg (by rw [h2]; exact fun e => h e.symm)]
     · rw [if_neg h2, if_neg h2]
theorem insL_get (l : List Int) (y : Int) : (aget (insL l) y).getD (.bool false) = .bool (hasI l y) := by
 have key : ∀ (l : List Int) (m : List (Int × Value)) (b : Bool), (aget m y).getD (.bool false) = .bool b → (aget (l.foldl (fun m x => aput m x (.bool true)) m) y).getD (.bool false) = .bool (b || hasI l y) := by
  intro l
  induction l with
  | nil => intro m b h; rw [List.foldl_nil, h]; simp [hasI]
  | cons x l ih =>
    intro m b h
    rw [List.foldl_cons, ih (aput m x (.bool true)) (b || decide (x = y)) (by
     rw [aget_aputI]
     by_cases e : y = x
     · rw [if_pos e, decide_eq_true e.symm]; simp
     · rw [if_neg e, decide_eq_false (fun e2 => e e2.symm), h]; simp)]
    unfold hasI
    rw [List.any_cons, Bool.or_assoc]
 have := key l [] false rfl
 rw [Bool.false_or] at this
 exact this
def Rel2 {α β : Type} (R : α → β → Prop) (o : List α) (o' : List β) : Prop := o.length = o'.length ∧ ∀ (i : Nat) (x : α) (y : β), o[i]? = some x → o'[i]? = some y → R x y
theorem Rel2.snoc {α β : Type} {R : α → β → Prop} {o : List α} {o' : List β} {x : α} {y : β} (h : Rel2 R o o') (hr : R x y) : Rel2 R (o ++ [x]) (o' ++ [y]) := by
 refine ⟨by rw [List.length_append, List.length_append, h.1]; rfl, fun i a b ha hb => ?_⟩
 rw [List.getElem?_append] at ha hb
 have hl := h.1
 split at ha
 · rename_i h1
   rw [if_pos (by omega)] at hb
   exact h.2 i a b ha hb
 · rename_i h1
   rw [if_neg (by omega)] at hb
   have h2 := lt_of_get ha
   simp only [List.length_singleton] at h2
   have h3 : i = o.length := by omega
   rw [h3, Nat.sub_self] at ha
   rw [show i - o'.length = 0 by omega] at hb
   simp only [List.getElem?_cons_zero, Option.some.injEq] at ha hb
   rw [← ha, ← hb]; exact hr
section
variable {α β κ κ' : Type} [DecidableEq κ] [DecidableEq κ']
theorem posK_sim {f : α → κ} {g : β → κ'} {k : κ} {k' : κ'} : ∀ {o : List α} {o' : List β}, o.length = o'.length → (∀ (i : Nat) (x : α) (y : β), o[i]? = some x → o'[i]? = some y → (f x = k ↔ g y = k')) → posK f o k = posK g o' k'
 | [], [], _, _ => rfl
 | [], _ :: _, h, _ => by simp at h
 | _ :: _, [], h, _ => by simp at h
 | x :: o, y :: o', h, hk => by
   have h0 := hk 0 x y rfl rfl
   have ih := posK_sim (f := f) (g := g) (k := k) (k' := k') (o := o) (o' := o') (by simpa using h) fun i a b ha hb => hk (i + 1) a b (by simpa using ha) (by simpa using hb)
   rw [posK, posK, ih]
   by_cases e : f x = k
   · rw [if_pos e, if_pos (h0.1 e)]
   · rw [if_neg e, if_neg fun e2 => e (h0.2 e2)]
variable {W : Srch α κ} {W' : Srch β κ'} {R : α → β → Prop}
theorem Srch.sim_row (hc : W.cap ≤ W'.cap) (hk : ∀ x x' y y', R x y → R x' y' → (W.key x = W.key x' ↔ W'.key y = W'.key y')) (hs : ∀ i x y s, R x y → s < W.m → R (W.step i x s) (W'.step i y s)) {i : Nat} {x : α} {y : β} (hxy : R x y) {o : List α} {o' : List β} (ho : Rel2 R o o') :
 ∀ {s : Nat} {p : List α} {r : List Nat}, s ≤ W.m → W.row i x o s = some (p, r) → ∃ p', W'.row i y o' s = some (p', r) ∧ Rel2 R p p'
 | 0, p, r, _, h => by
   rw [Srch.row] at h; cases h
   exact ⟨o', rfl, ho⟩
 | s + 1, p, r, hsm, h => by
   rw [Srch.row, Option.bind_eq_some_iff] at h
   obtain ⟨⟨p1, r1⟩, h1, h2⟩ := h
   obtain ⟨⟨p2, n⟩, h3, h4⟩ := Option.map_eq_some_iff.1 h2
   cases h4
   dsimp only at h3 ⊢
   obtain ⟨p1', h5, h6⟩ := Srch.sim_row hc hk hs hxy ho (by omega) h1
   have hst := hs i x y s hxy (by omega)
   have hpos : posK W.key p1 (W.key (W.step i x s)) = posK W'.key p1' (W'.key (W'.step i y s)) := posK_sim h6.1 fun j a b ha hb => hk a _ b _ (h6.2 j a b ha hb) hst
   by_cases hp : posK W.key p1 (W.key (W.step i x s)) < p1.length
   · rw [visit_old hp] at h3; cases h3
     have hp' : posK W'.key p1' (W'.key (W'.step i y s)) < p1'.length := by rw [← hpos, ← h6.1]; exact hp
     exact ⟨p1', by rw [Srch.row_snoc h5 (visit_old hp'), hpos], h6⟩
   · have hp' : ¬ posK W'.key p1' (W'.key (W'.step i y s)) < p1'.length := by rw [← hpos, ← h6.1]; exact hp
     by_cases hcap : p1.length < W.cap
     · rw [visit_new hp hcap] at h3; cases h3
       exact ⟨p1' ++ [W'.step i y s], by rw [Srch.row_snoc h5 (visit_new hp' (by have := h6.1; omega)), h6.1], h6.snoc hst⟩
     · rw [visit_no hp (by omega)] at h3; cases h3
theorem Srch.sim (hm : W.m = W'.m) (hc : W.cap ≤ W'.cap) (hk : ∀ x x' y y', R x y → R x' y' → (W.key x = W.key x' ↔ W'.key y = W'.key y')) (hs : ∀ i x y s, R x y → s < W.m → R (W.step i x s) (W'.step i y s)) {x0 : α} {y0 : β} (h0 : R x0 y0) :
 ∀ {i : Nat} {o : List α} {rows : List (List Nat)}, W.upto x0 i = some (o, rows) → ∃ o', W'.upto y0 i = some (o', rows) ∧ Rel2 R o o'
 | 0, o, rows, h => by
   rw [Srch.upto] at h; cases h
   refine ⟨[y0], rfl, rfl, fun i x y hx hy => ?_⟩
   match i with
   | 0 => simp at hx hy; subst hx hy; exact h0
   | i + 1 => simp at hx
 | i + 1, o, rows, h => by
   rw [Srch.upto, Option.bind_eq_some_iff] at h
   obtain ⟨⟨o1, rows1⟩, h1, h2⟩ := h
   obtain ⟨o1', h3, h4⟩ := Srch.sim hm hc hk hs h0 h1
   dsimp only at h2
   cases hx : o1[i]? with
   | none =>
     rw [hx] at h2; cases h2
     have h5 := List.getElem?_eq_none_iff.1 hx
     exact ⟨o1', Srch.upto_stop h3 (by dsimp only; have := h4.1; omega) 1, h4⟩
   | some x =>
     rw [hx] at h2
     obtain ⟨⟨o2, r⟩, h5, h6⟩ := Option.map_eq_some_iff.1 h2
     cases h6
     have hil := lt_of_get hx
     obtain ⟨y, hy⟩ := get_some (show i < o1'.length by have := h4.1; omega)
     obtain ⟨p', h7, h8⟩ := Srch.sim_row hc hk hs (h4.2 i x y hx hy) h4 (Nat.le_refl _) h5
     rw [hm] at h7
     exact ⟨p', Srch.upto_snoc h3 hy h7, h8⟩
end
section
variable {κ κ' : Type} [DecidableEq κ] [DecidableEq κ']
theorem fst_sim {k : Nat → κ} {k' : Nat → κ'} {n : Nat} (h : ∀ s t, s < n → t < n → (k s = k t ↔ k' s = k' t)) : ∀ m, m ≤ n → (fstK k m).length = (fstK k' m).length ∧ ∀ s, s < n → posK id (fstK k m) (k s) = posK id (fstK k' m) (k' s)
 | 0, _ => ⟨rfl, fun _ _ => rfl⟩
 | m + 1, hm => by
   obtain ⟨h1, h2⟩ := fst_sim h m (by omega)
   have h3 := h2 m (by omega)
   by_cases hp : posK id (fstK k m) (k m) < (fstK k m).length
   · have hp' : posK id (fstK k' m) (k' m) < (fstK k' m).length := by rw [← h3, ← h1]; exact hp
     rw [fstK_old hp, fstK_old hp']
     exact ⟨h1, h2⟩
   · have hp' : ¬ posK id (fstK k' m) (k' m) < (fstK k' m).length := by rw [← h3, ← h1]; exact hp
     rw [fstK_new hp, fstK_new hp']
     refine ⟨by rw [List.length_append, List.length_append, h1]; rfl, fun s hs => ?_⟩
     by_cases hq : posK id (fstK k m) (k s) < (fstK k m).length
     · rw [posK_app _ hq, posK_app _ (by rw [← h2 s hs, ← h1]; exact hq)]
       exact h2 s hs
     · have hq' : ¬ posK id (fstK k' m) (k' s) < (fstK k' m).length := by rw [← h2 s hs, ← h1]; exact hq
       by_cases e : k m = k s
       · have e' := (h m s (by omega) hs).1 e
         rw [← e, ← e']
         have a1 : posK id (fstK k m ++ [k m]) (k m) = (fstK k m).length := posK_new (f := id) hp
         have a2 : posK id (fstK k' m ++ [k' m]) (k' m) = (fstK k' m).length := posK_new (f := id) hp'
         rw [a1, a2, h1]
       · have e' : ¬ k' m = k' s := fun e2 => e ((h m s (by omega) hs).2 e2)
         have a1 : ¬ posK id (fstK k m ++ [k m]) (k s) < (fstK k m ++ [k m]).length := fun hh => by
          rw [posI_lt] at hh
          rcases List.mem_append.1 hh with h5 | h5
          · exact hq (posI_lt.2 h5)
          · exact e (List.mem_singleton.1 h5).symm
         have a2 : ¬ posK id (fstK k' m ++ [k' m]) (k' s) < (fstK k' m ++ [k' m]).length := fun hh => by
          rw [posI_lt] at hh
          rcases List.mem_append.1 hh with h5 | h5
          · exact hq' (posI_lt.2 h5)
          · exact e' (List.mem_singleton.1 h5).symm
         have b1 := posK_le id (fstK k m ++ [k m]) (k s)
         have b2 := posK_le id (fstK k' m ++ [k' m]) (k' s)
         have c1 : (fstK k m ++ [k m]).length = (fstK k' m ++ [k' m]).length := by rw [List.length_append, List.length_append, h1]; rfl
         omega
end
theorem map_sim {c d : Nat → Nat} {n : Nat} (h : ∀ s t, s < n → t < n → (c s = c t ↔ d s = d t)) : ∀ {l m : List Nat}, (∀ x ∈ l, x < n) → (∀ x ∈ m, x < n) → (l.map c = m.map c ↔ l.map d = m.map d)
 | [], [], _, _ => by simp
 | [], _ :: _, _, _ => by simp
 | _ :: _, [], _, _ => by simp
 | x :: l, y :: m, hl, hm => by
   simp only [List.map_cons, List.cons.injEq]
   rw [h x y (hl x (List.mem_cons_self ..)) (hm y (List.mem_cons_self ..)), map_sim h (fun z hz => hl z (List.mem_cons_of_mem _ hz)) fun z hz => hm z (List.mem_cons_of_mem _ hz)]
theorem key_sim {t : Tab} (ht : TOk t) {c d : Nat → Nat} (h : ∀ s s', s < t.rows.length → s' < t.rows.length → (c s = c s' ↔ d s = d s')) {s s' : Nat} (hs : s < t.rows.length) (hs' : s' < t.rows.length) : keyC t.rows c s = keyC t.rows c s' ↔ keyC t.rows d s = keyC t.rows d s' := by
 obtain ⟨r, hr⟩ := get_some hs
 obtain ⟨r', hr'⟩ := get_some hs'
 unfold keyC
 rw [hr, hr']
 show c s :: r.map c = c s' :: r'.map c ↔ d s :: r.map d = d s' :: r'.map d
 rw [List.cons.injEq, List.cons.injEq, h s s' hs hs', map_sim h (ht.to r (List.mem_of_getElem? hr)) (ht.to r' (List.mem_of_getElem? hr'))]
theorem next_sim {t : Tab} (ht : TOk t) {c d : Nat → Nat} (h : ∀ s s', s < t.rows.length → s' < t.rows.length → (c s = c s' ↔ d s = d s')) : cntC t.rows c = cntC t.rows d ∧ ∀ s, s < t.rows.length → nextC t.rows c s = nextC t.rows d s := by
 have := fst_sim (k := keyC t.rows c) (k' := keyC t.rows d) (n := t.rows.length) (fun s s' hs hs' => key_sim ht h hs hs') t.rows.length (Nat.le_refl _)
 exact ⟨this.1, this.2⟩
theorem clsIt_congr {t : Tab} (ht : TOk t) : ∀ {f : Nat} {c d : Nat → Nat} {k : Nat}, (∀ s, s < t.rows.length → c s = d s) → ∀ s, s < t.rows.length → clsIt t.rows f c k s = clsIt t.rows f d k s
 | 0, c, d, k, h, s, hs => h s hs
 | f + 1, c, d, k, h, s, hs => by
   obtain ⟨h1, h2⟩ := next_sim ht (c := c) (d := d) fun a b ha hb => by rw [h a ha, h b hb]
   rw [clsIt, clsIt, h1]
   split
   · exact h2 s hs
   · exact clsIt_congr ht h2 s hs
theorem clsIt_succ {rows : List (List Nat)} {f : Nat} {c : Nat → Nat} {k : Nat} : clsIt rows (f + 1) c k = if cntC rows c = k then nextC rows c else clsIt rows f (nextC rows c) (cntC rows c) := rfl
def flipT (t : Tab) : Tab := { t with fin := t.fin.map fun b => !b }
theorem flipT_ok {t : Tab} (h : TOk t) : TOk (flipT t) := ⟨by show (t.fin.map _).length = _; rw [List.length_map]; exact h.fl, h.rl, h.to, h.pos, h.n1, h.m1⟩
theorem finC_flip {t : Tab} (h : TOk t) {s : Nat} (hs : s < t.rows.length) : finC (flipT t).fin s = 1 - finC t.fin s := by
 obtain ⟨b, hb⟩ := get_some (show s < t.fin.length by rw [h.fl]; exact hs)
 unfold finC flipT
 dsimp only
 rw [List.getElem?_map, hb]
 cases b <;> rfl
theorem finC_le (l : List Bool) (s : Nat) : finC l s ≤ 1 := by unfold finC; split <;> omega
theorem clsT_flip {t : Tab} (h : TOk t) {s : Nat} (hs : s < t.rows.length) : clsT (flipT t) s = clsT t s := by
 obtain ⟨h1, h2⟩ := next_sim h (c := finC (flipT t).fin) (d := finC t.fin) fun a b ha hb => by
  rw [finC_flip h ha, finC_flip h hb]
  have := finC_le t.fin a
  have := finC_le t.fin b
  omega
 show clsIt t.rows (t.rows.length + 2) (finC (flipT t).fin) 0 s = clsIt t.rows (t.rows.length + 2) (finC t.fin) 0 s
 rw [clsIt_succ (f := t.rows.length + 1) (c := finC (flipT t).fin), clsIt_succ (f := t.rows.length + 1) (c := finC t.fin), h1]
 split
 · exact h2 s hs
 · exact clsIt_congr h h2 s hs
theorem rel_eq {α : Type} {P : α → Prop} : ∀ {o o' : List α}, Rel2 (fun x y => x = y ∧ P x) o o' → o = o' := fun {o o'} h => by
 apply List.ext_getElem?
 intro i
 cases hx : o[i]? with
 | none => rw [List.getElem?_eq_none (by have := List.getElem?_eq_none_iff.1 hx; have := h.1; omega)]
 | some x =>
   obtain ⟨y, hy⟩ := get_some (show i < o'.length by have := lt_of_get hx; have := h.1; omega)
   rw [hy, (h.2 i x y hx hy).1]
theorem finB_Q {t : Tab} {o : List Nat} {rows : List (List Nat)} {i : Nat} (hi : i < o.length) : finB (autQ t (o, rows)) (i : Nat) = finAt t o i := by
 rw [Bool.eq_iff_iff]
 have : finB (autQ t (o, rows)) (i : Nat) = true ↔ ((i : Nat) : Int) ∈ listedL o.length (finAt t o) := by
  show hasI (listedL o.length (finAt t o)) (i : Nat) = true ↔ _
  exact hasI_iff
 rw [this, listedL_mem, Int.toNat_natCast]
 constructor
 · exact fun h => h.2.2
 · exact fun h => ⟨by omega, by omega, h⟩
theorem listedL_congr2 {f g : Nat → Bool} : ∀ n : Nat, (∀ i, i < n → f i = g i) → listedL n f = listedL n g
 | 0, _ => rfl
 | n + 1, h => by rw [listedL_snoc, listedL_snoc, listedL_congr2 n fun i hi => h i (by omega), h n (by omega)]
theorem leastT_flip {t : Tab} (h : TOk t) : leastT (flipT t) = (leastT t).map compA := by
 obtain ⟨⟨o, rows⟩, hq⟩ := min_all h
 obtain ⟨o', h1, h2⟩ := Srch.sim (W := minW t) (W' := minW (flipT t)) (R := fun x y => x = y ∧ x < t.rows.length) rfl (Nat.le_refl _) (fun x x' y y' hx hx' => by
  obtain ⟨rfl, hx⟩ := hx
  obtain ⟨rfl, hx'⟩ := hx'
  show clsT t x = clsT t x' ↔ clsT (flipT t) x = clsT (flipT t) x'
  rw [clsT_flip h hx, clsT_flip h hx']) (fun i x y s hx _ => by
  obtain ⟨rfl, hx⟩ := hx
  exact ⟨rfl, toT_lt h⟩) ⟨rfl, h.pos⟩ hq
 have := rel_eq h2
 subst this
 have hF := fin_of h hq
 have hn : ∀ i, i < o.length → finAt (flipT t) o i = !finAt t o i := fun i hi => by
  obtain ⟨x, hx⟩ := get_some hi
  have hxn : x < t.rows.length := hF.ok.p x (List.mem_of_getElem? hx)
  obtain ⟨b, hb⟩ := get_some (show x < t.fin.length by rw [h.fl]; exact hxn)
  unfold finAt flipT
  dsimp only
  rw [hx]
  show ((t.fin.map fun b => !b)[x]?).getD false = !((t.fin[x]?).getD false)
  rw [List.getElem?_map, hb]; rfl
 unfold leastT
 rw [hq, show (minW (flipT t)).all 0 = some (o, rows) from h1, Option.bind_some, Option.bind_some]
 dsimp only
 split
 · rfl
 · rw [Option.map_some]
   congr 1
   unfold compA
   show (⟨(o.length : Nat), (t.m : Nat), [0], listedL o.length (finAt (flipT t) o), movesT rows⟩ : Aut) = ⟨(o.length : Nat), (t.m : Nat), [0], listedL ((o.length : Nat) : Int).toNat fun i => !finB (autQ t (o, rows)) (i : Nat), movesT rows⟩
   rw [Int.toNat_natCast, listedL_congr2 o.length fun i hi => by rw [hn i hi, ← finB_Q (rows := rows) hi]]
structure PreA (a : Aut) : Prop where
 n0 : 0 ≤ a.n
 s0 : 0 ≤ a.syms
 s1 : a.syms ≤ 40
 st : InS a a.start
 fi : InS a a.fin
 sn : a.start.Nodup
 fn : a.fin.Nodup
 mv : ∀ m ∈ a.moves, 0 ≤ m.src ∧ m.src < a.n ∧ 0 ≤ m.dst ∧ m.dst < a.n ∧ -1 ≤ m.sym ∧ m.sym < a.syms
def mkA (a : Aut) : Aut := { a with moves := mkM a.moves }
theorem PreA.aok {a : Aut} (h : PreA a) (hb : ¬ (2000 < (mkA a).n ∨ 20000 < (mkA a).moves.length)) : AOk (mkA a) := by
 have hn : ¬ 2000 < a.n := fun h => hb (.inl h)
 have hl : ∀ {l : List Int}, l.Nodup → InS a l → l.length ≤ 2000 := fun {l} h1 h2 => by
  have := nodup_len a.n.toNat l h1 fun s hs => by have := h2 s hs; have := h.n0; omega
  omega
 exact ⟨h.n0, by show a.n ≤ 2000; omega, h.s0, h.s1, by have := hb; omega, h.st, h.fi, hl h.sn h.st, hl h.fn h.fi, fun m hm => h.mv m (mkM_mem.1 hm)⟩
theorem stOk_srt {n : Int} {l : List Int} (h : stOk n l = true) : Srt l := by
 unfold stOk at h
 rw [Bool.and_eq_true] at h
 have := h.2
 clear h
 induction l with
 | nil => exact .nil
 | cons x l ih =>
   cases l with
   | nil => exact List.pairwise_singleton ..
   | cons y l =>
     rw [chainB, Bool.and_eq_true] at this
     have h1 := ih this.2
     have hxy : x < y := by have := this.1; unfold ltI at this; simpa using this
     refine List.pairwise_cons.2 ⟨fun z hz => ?_, h1⟩
     rcases List.mem_cons.1 hz with rfl | hz
     · exact hxy
     · exact Int.lt_trans hxy ((List.pairwise_cons.1 h1).1 z hz)
theorem chain_asc : ∀ {l : List Mv}, chainB mvLt l = true → AscM l
 | [], _ => .nil
 | [x], _ => List.pairwise_singleton ..
 | x :: y :: l, h => by
   rw [chainB, Bool.and_eq_true] at h
   have h1 := chain_asc h.2
   refine List.pairwise_cons.2 ⟨fun z hz => ?_, h1⟩
   rcases List.mem_cons.1 hz with rfl | hz
   · exact h.1
   · exact mvLt_tr h.1 ((List.pairwise_cons.1 h1).1 z hz)
theorem srt_nodup {l : List Int} (h : Srt l) : l.Nodup := h.imp fun h => by omega
structure VOk (a : Aut) : Prop extends AOk a where
 ss : Srt a.start
 fs : Srt a.fin
 ms : AscM a.moves
theorem vok_of {a : Aut} (h : autOk a = true) : VOk a := by
 have h' := h
 unfold autOk at h'
 simp only [Bool.and_eq_true, decide_eq_true_eq] at h'
 obtain ⟨⟨⟨⟨⟨⟨⟨⟨_, _⟩, _⟩, _⟩, _⟩, h6⟩, h7⟩, _⟩, h9⟩ := h'
 exact ⟨aok_of h, stOk_srt h6, stOk_srt h7, chain_asc h9⟩
theorem asc_nodup2 {l : List Mv} (h : AscM l) : l.Nodup := h.imp fun {a b} h1 e => by rw [e, mvLt_irr] at h1; cases h1
theorem map_nodup {α β : Type} {f : α → β} {l : List α} (h : l.Nodup) (hf : ∀ x ∈ l, ∀ y ∈ l, f x = f y → x = y) : (l.map f).Nodup := by
 induction l with
 | nil => exact List.nodup_nil
 | cons x l ih =>
   rw [List.nodup_cons] at h
   rw [List.map_cons, List.nodup_cons]
   refine ⟨fun hm => ?_, ih h.2 fun y hy z hz => hf y (List.mem_cons_of_mem _ hy) z (List.mem_cons_of_mem _ hz)⟩
   obtain ⟨y, hy, e⟩ := List.mem_map.1 hm
   have := hf y (List.mem_cons_of_mem _ hy) x (List.mem_cons_self ..) e
   rw [this] at hy
   exact h.1 hy
theorem star_pre {a : Aut} (h : VOk a) : PreA (starA a) := by
 have hn := h.n0
 refine ⟨by show 0 ≤ a.n + 1; omega, h.s0, h.s1, fun s hs => ?_, fun s hs => ?_, by show [a.n].Nodup; simp, by show [a.n].Nodup; simp, fun m hm => ?_⟩
 · rw [show s = a.n from List.mem_singleton.1 hs]
   exact ⟨hn, by show a.n < a.n + 1; omega⟩
 · rw [show s = a.n from List.mem_singleton.1 hs]
   exact ⟨hn, by show a.n < a.n + 1; omega⟩
 · have hs := h.s0
   show 0 ≤ m.src ∧ m.src < a.n + 1 ∧ 0 ≤ m.dst ∧ m.dst < a.n + 1 ∧ -1 ≤ m.sym ∧ m.sym < a.syms
   have hm' : m ∈ a.moves ++ (a.start.map fun s => (⟨a.n, s, -1⟩ : Mv)) ++ a.fin.map fun s => (⟨s, a.n, -1⟩ : Mv) := hm
   rcases List.mem_append.1 hm' with hm | hm
   · rcases List.mem_append.1 hm with hm | hm
     · have := h.mv m hm; omega
     · obtain ⟨s, hs, rfl⟩ := List.mem_map.1 hm
       have := h.st s hs
       dsimp only; omega
   · obtain ⟨s, hs, rfl⟩ := List.mem_map.1 hm
     have := h.fi s hs
     dsimp only; omega
theorem star_nodup {a : Aut} (h : VOk a) : (starA a).moves.Nodup := by
 show (a.moves ++ (a.start.map fun s => (⟨a.n, s, -1⟩ : Mv)) ++ a.fin.map fun s => (⟨s, a.n, -1⟩ : Mv)).Nodup
 rw [List.nodup_append, List.nodup_append]
 refine ⟨⟨asc_nodup2 h.ms, map_nodup (srt_nodup h.ss) fun x _ y _ e => (Mv.mk.inj e).2.1, fun x hx y hy e => ?_⟩, map_nodup (srt_nodup h.fs) fun x _ y _ e => (Mv.mk.inj e).1, fun x hx y hy e => ?_⟩
 · obtain ⟨s, hs, rfl⟩ := List.mem_map.1 hy
   have := h.mv x hx
   rw [e] at this
   dsimp only at this; omega
 · obtain ⟨s, hs, rfl⟩ := List.mem_map.1 hy
   have h1 := h.fi s hs
   rcases List.mem_append.1 hx with hx | hx
   · have := h.mv x hx
     rw [e] at this
     dsimp only at this; omega
   · obtain ⟨s', hs', e'⟩ := List.mem_map.1 hx
     rw [e] at e'
     have := (Mv.mk.inj e').1
     omega
theorem rowMv_at {i : Nat} {r : List Nat} {s n : Nat} (h : r[s]? = some n) : (rowMv i r)[s]? = some ⟨(i : Nat), (n : Nat), (s : Nat)⟩ := by
 unfold rowMv
 rw [List.getElem?_map, List.getElem?_zipIdx, h]
 show some (⟨(i : Nat), (n : Nat), ((0 + s : Nat) : Int)⟩ : Mv) = _
 rw [Nat.zero_add]
def mvFrom (k : Nat) (rows : List (List Nat)) : List Mv := (rows.zipIdx k).flatMap fun p => rowMv p.2 p.1
theorem mvFrom_cons (k : Nat) (r : List Nat) (rows : List (List Nat)) : mvFrom k (r :: rows) = rowMv k r ++ mvFrom (k + 1) rows := by
 unfold mvFrom; rw [List.zipIdx_cons, List.flatMap_cons]
theorem mvFrom_at {m : Nat} : ∀ {rows : List (List Nat)} {k i s n : Nat} {r : List Nat}, (∀ r ∈ rows, r.length = m) → rows[i]? = some r → r[s]? = some n → (mvFrom k rows)[i * m + s]? = some ⟨((k + i : Nat) : Int), (n : Nat), (s : Nat)⟩
 | [], _, _, _, _, _, _, h, _ => by simp at h
 | x :: rows, k, 0, s, n, r, hl, hr, hs => by
   simp only [List.getElem?_cons_zero, Option.some.injEq] at hr
   subst hr
   rw [mvFrom_cons, Nat.zero_mul, Nat.zero_add, List.getElem?_append_left (by rw [rowMv_len]; exact lt_of_get hs), rowMv_at hs]; rfl
 | x :: rows, k, i + 1, s, n, r, hl, hr, hs => by
   simp only [List.getElem?_cons_succ] at hr
   have hx := hl x (List.mem_cons_self ..)
   rw [mvFrom_cons, List.getElem?_append_right (by rw [rowMv_len, hx, Nat.succ_mul]; omega), rowMv_len, hx, show (i + 1) * m + s - m = i * m + s by rw [Nat.succ_mul]; omega, mvFrom_at (fun r hr => hl r (List.mem_cons_of_mem _ hr)) hr hs]
   rw [show k + 1 + i = k + (i + 1) by omega]
theorem rowMv_src {i : Nat} {r : List Nat} : ∀ m ∈ rowMv i r, m.src = (i : Nat) := fun m hm => by
 obtain ⟨n, s, _, rfl⟩ := mem_rowMv hm
 rfl
theorem mvFrom_src {k : Nat} {rows : List (List Nat)} : ∀ m ∈ mvFrom k rows, (k : Int) ≤ m.src := fun m hm => by
 unfold mvFrom at hm
 obtain ⟨p, hp, hm⟩ := List.mem_flatMap.1 hm
 rw [rowMv_src m hm]
 have := List.mem_zipIdx hp
 omega
theorem mvFrom_of : ∀ {rows : List (List Nat)} {k i : Nat} {r : List Nat}, rows[i]? = some r → (mvFrom k rows).filter (fun m => decide (m.src = ((k + i : Nat) : Int))) = rowMv (k + i) r
 | [], _, _, _, h => by simp at h
 | x :: rows, k, 0, r, h => by
   simp only [List.getElem?_cons_zero, Option.some.injEq] at h
   subst h
   rw [Nat.add_zero, mvFrom_cons, List.filter_append, List.filter_eq_self.2 fun m hm => decide_eq_true (rowMv_src m hm), List.filter_eq_nil_iff.2 fun m hm => by
    have := mvFrom_src m hm
    simp only [decide_eq_true_eq]; omega, List.append_nil]
 | x :: rows, k, i + 1, r, h => by
   simp only [List.getElem?_cons_succ] at h
   rw [mvFrom_cons, List.filter_append, List.filter_eq_nil_iff.2 fun m hm => by
    have := rowMv_src m hm
    simp only [decide_eq_true_eq]; omega, List.nil_append, show k + (i + 1) = k + 1 + i by omega]
   exact mvFrom_of h
structure DetA (A : Aut) : Prop where
 ok : AOk A
 pos : 0 < A.n.toNat
 mo : ∀ i s, i < A.n.toNat → s < A.syms.toNat → ∃ x : Mv, (movesOf A i)[s]? = some x ∧ A.moves[i * A.syms.toNat + s]? = some x ∧ x.dst = (stepA A i s : Nat)
 ml : ∀ i, i < A.n.toNat → (movesOf A i).length = A.syms.toNat
 sl : ∀ i s, i < A.n.toNat → s < A.syms.toNat → stepA A i s < A.n.toNat
theorem stepA_at {A : Aut} {i s : Nat} {x : Mv} (h : A.moves[i * A.syms.toNat + s]? = some x) : stepA A i s = x.dst.toNat := by
 unfold stepA; rw [h]; rfl
theorem det_Q {t : Tab} (ht : TOk t) {o : List Nat} {rows : List (List Nat)} (h : Fin t o rows) (hm : (movesT rows).length ≤ 20000) : DetA (autQ t (o, rows)) := by
 have hok := autQ_aok ht h hm
 have hn : (autQ t (o, rows)).n.toNat = o.length := Int.toNat_natCast _
 have hs : (autQ t (o, rows)).syms.toNat = t.m := Int.toNat_natCast _
 have key : ∀ i s, i < o.length → s < t.m → ∃ (r : List Nat) (n : Nat), rows[i]? = some r ∧ r[s]? = some n ∧ n < o.length ∧ (autQ t (o, rows)).moves[i * t.m + s]? = some ⟨(i : Nat), (n : Nat), (s : Nat)⟩ ∧ movesOf (autQ t (o, rows)) i = rowMv i r := fun i s hi hs => by
  obtain ⟨r, hr⟩ := get_some (show i < rows.length by rw [h.len]; exact hi)
  have hrl : r.length = t.m := h.ok.len r (List.mem_of_getElem? hr)
  obtain ⟨n, hn⟩ := get_some (show s < r.length by omega)
  obtain ⟨x, hx⟩ := get_some hi
  refine ⟨r, n, hr, hn, (h.ok.to i x r s n hx hr hn).1, ?_, ?_⟩
  · have := mvFrom_at (k := 0) h.ok.len hr hn
    rw [Nat.zero_add] at this
    exact this
  · have := mvFrom_of (k := 0) hr
    rw [Nat.zero_add] at this
    exact this
 refine ⟨hok, by rw [hn]; exact h.pos, fun i s hi hs' => ?_, fun i hi => ?_, fun i s hi hs' => ?_⟩
 · rw [hn] at hi
   rw [hs] at hs' ⊢
   obtain ⟨r, n, h1, h2, h3, h4, h5⟩ := key i s hi hs'
   refine ⟨_, by rw [h5]; exact rowMv_at h2, h4, ?_⟩
   rw [stepA_at (by rw [hs]; exact h4)]
   show ((n : Nat) : Int) = (((n : Nat) : Int).toNat : Nat)
   rw [Int.toNat_natCast]
 · rw [hn] at hi
   obtain ⟨r, hr⟩ := get_some (show i < rows.length by rw [h.len]; exact hi)
   have := mvFrom_of (k := 0) hr
   rw [Nat.zero_add] at this
   show ((movesT rows).filter fun m => decide (m.src = (i : Int))).length = _
   rw [show ((movesT rows).filter fun m => decide (m.src = (i : Int))) = rowMv i r from this, rowMv_len, hs]
   exact h.ok.len r (List.mem_of_getElem? hr)
 · rw [hn] at hi ⊢
   rw [hs] at hs'
   obtain ⟨r, n, h1, h2, h3, h4, h5⟩ := key i s hi hs'
   rw [stepA_at (by rw [hs]; exact h4)]
   show ((n : Nat) : Int).toNat < _
   rw [Int.toNat_natCast]; exact h3
theorem redX_det {a A : Aut} (h : AOk a) (hr : redX a = .ok A) : DetA A ∧ A.syms = a.syms := by
 obtain ⟨t, o, rows, hs, hT, _, hF, rfl, hm⟩ := redX_ok h hr
 refine ⟨det_Q hT hF hm, ?_⟩
 unfold subT at hs
 obtain ⟨q, _, rfl⟩ := Option.map_eq_some_iff.1 hs
 show ((a.syms.toNat : Nat) : Int) = a.syms
 have := h.s0
 omega
def PairOk (A B : Aut) (x : (Nat × Nat) × (Int × Int)) : Prop := x.1.1 < A.n.toNat ∧ x.1.2 < B.n.toNat
theorem prod_ok {A B : Aut} (hA : DetA A) (hB : DetA B) (hs : A.syms = B.syms) {i : Nat} {o : List ((Nat × Nat) × (Int × Int))} {rows : List (List Nat)} (hu : (prodW A B).upto ((0, 0), (-1, -1)) i = some (o, rows)) : (prodW A B).Ok (PairOk A B) ((0, 0), (-1, -1)) o rows ∧ (i ≤ o.length → rows.length = i) ∧ (o.length ≤ i → rows.length = o.length) :=
 Srch.ok (W := prodW A B) (P := PairOk A B) (show 1 ≤ 2000 by decide) ⟨hA.pos, hB.pos⟩ (fun i x s hx hsm => ⟨hA.sl _ _ hx.1 hsm, hB.sl _ _ hx.2 (by have : s < A.syms.toNat := hsm; rw [← hs]; exact this)⟩) hu
theorem prod_tok {A B : Aut} (hA : DetA A) (hB : DetA B) (hs : A.syms = B.syms) (op : Int) {o : List ((Nat × Nat) × (Int × Int))} {rows : List (List Nat)} (hu : prodQ A B = some (o, rows)) : TOk (prodT A B op (o, rows)) := by
 obtain ⟨h1, _, h3⟩ := prod_ok hA hB hs hu
 have hcap : o.length ≤ 2000 := h1.cap
 have h5 := h3 hcap
 have hp := h1.pos
 have hs1 := hA.ok.s1
 refine ⟨by show (o.map _).length = rows.length; rw [List.length_map, h5], h1.len, fun r hr x hx => ?_, by show 0 < rows.length; omega, by show rows.length ≤ 2000; omega, by show A.syms.toNat ≤ 40; omega⟩
 have hr' : r ∈ rows := hr
 obtain ⟨i, hi⟩ := List.getElem?_of_mem hr'
 obtain ⟨t, ht⟩ := List.getElem?_of_mem hx
 obtain ⟨y, hy⟩ := get_some (show i < o.length by have := lt_of_get hi; omega)
 have := (h1.to i y r t x hy hi ht).1
 show x < rows.length
 omega
def runT (t : Tab) (x : Nat) (w : List Nat) : Nat := w.foldl (toT t) x
def accT (t : Tab) (x : Nat) (w : List Nat) : Bool := (t.fin[runT t x w]?).getD false
def WordN (m : Nat) (w : List Nat) : Prop := ∀ c ∈ w, c < m
def SameL (t : Tab) (x : Nat) (t' : Tab) (x' : Nat) : Prop := ∀ w, WordN t.m w → accT t x w = accT t' x' w
theorem runT_lt {t : Tab} (h : TOk t) {x : Nat} (hx : x < t.rows.length) (w : List Nat) : runT t x w < t.rows.length := by
 unfold runT
 induction w generalizing x with
 | nil => exact hx
 | cons c w ih => exact ih (toT_lt h)
theorem accT_cons (t : Tab) (x c : Nat) (w : List Nat) : accT t x (c :: w) = accT t (toT t x c) w := rfl
theorem SameL.step {t t' : Tab} {x x' s : Nat} (h : SameL t x t' x') (hs : s < t.m) : SameL t (toT t x s) t' (toT t' x' s) := fun w hw => by
 have := h (s :: w) fun c hc => by
  rcases List.mem_cons.1 hc with rfl | hc
  · exact hs
  · exact hw c hc
 rw [accT_cons, accT_cons] at this; exact this
theorem SameL.symm {t t' : Tab} {x x' : Nat} (hm : t.m = t'.m) (h : SameL t x t' x') : SameL t' x' t x := fun w hw => (h w (by rw [hm]; exact hw)).symm
theorem SameL.trans {t t' t'' : Tab} {x x' x'' : Nat} (hm : t.m = t'.m) (h : SameL t x t' x') (h' : SameL t' x' t'' x'') : SameL t x t'' x'' := fun w hw => (h w hw).trans (h' w (by rw [← hm]; exact hw))
section
variable {t : Tab}
theorem row_map (h : TOk t) {c : Nat → Nat} {x : Nat} (hx : x < t.rows.length) : ((t.rows[x]?).getD []).map c = (List.range t.m).map fun s => c (toT t x s) := by
 obtain ⟨r, hr⟩ := get_some hx
 have hl := h.rl r (List.mem_of_getElem? hr)
 rw [hr]
 refine List.ext_getElem? fun s => ?_
 show (r.map c)[s]? = _
 rw [List.getElem?_map, List.getElem?_map]
 by_cases hs : s < t.m
 · obtain ⟨n, hn⟩ := get_some (show s < r.length by omega)
   rw [hn, List.getElem?_range hs]
   show some (c n) = some (c (toT t x s))
   rw [toT_at hr hn]
 · rw [List.getElem?_eq_none (by omega), List.getElem?_eq_none (by rw [List.length_range]; omega)]; rfl
theorem map_range_eq {m : Nat} {f g : Nat → Nat} : (List.range m).map f = (List.range m).map g ↔ ∀ s, s < m → f s = g s := by
 constructor
 · intro h s hs
   have h2 : ((List.range m).map f)[s]? = ((List.range m).map g)[s]? := by rw [h]
   rw [List.getElem?_map, List.getElem?_map, List.getElem?_range hs] at h2
   simpa using h2
 · intro h
   exact List.map_congr_left fun s hs => h s (List.mem_range.1 hs)
theorem key_iff (h : TOk t) {c : Nat → Nat} {x y : Nat} (hx : x < t.rows.length) (hy : y < t.rows.length) : keyC t.rows c x = keyC t.rows c y ↔ c x = c y ∧ ∀ s, s < t.m → c (toT t x s) = c (toT t y s) := by
 unfold keyC
 rw [row_map h hx, row_map h hy, List.cons.injEq, map_range_eq]
theorem next_iff {c : Nat → Nat} {x y : Nat} (hx : x < t.rows.length) (hy : y < t.rows.length) : nextC t.rows c x = nextC t.rows c y ↔ keyC t.rows c x = keyC t.rows c y := by
 constructor
 · intro h
   obtain ⟨z, h1, h2⟩ := posK_at (fstK_pos (k := keyC t.rows c) hx).2
   obtain ⟨z', h3, h4⟩ := posK_at (fstK_pos (k := keyC t.rows c) hy).2
   have h5 : posK id (fstK (keyC t.rows c) t.rows.length) (keyC t.rows c x) = posK id (fstK (keyC t.rows c) t.rows.length) (keyC t.rows c y) := h
   rw [h5, h3] at h1
   cases h1
   exact h2.symm.trans h4
 · intro h
   unfold nextC; rw [h]
structure CL (t : Tab) (c : Nat → Nat) : Prop where
 co : ∀ x y, x < t.rows.length → y < t.rows.length → SameL t x t y → c x = c y
 fi : ∀ x y, x < t.rows.length → y < t.rows.length → c x = c y → t.fin[x]? = t.fin[y]?
theorem CL.next (h : TOk t) {c : Nat → Nat} (hc : CL t c) : CL t (nextC t.rows c) :=
 ⟨fun x y hx hy hl => (next_iff hx hy).2 ((key_iff h hx hy).2 ⟨hc.co x y hx hy hl, fun s hs => hc.co _ _ (toT_lt h) (toT_lt h) (hl.step hs)⟩),
  fun x y hx hy he => hc.fi x y hx hy ((key_iff h hx hy).1 ((next_iff hx hy).1 he)).1⟩
structure CS (t : Tab) (c : Nat → Nat) : Prop extends CL t c where
 st : ∀ x y s, x < t.rows.length → y < t.rows.length → s < t.m → c x = c y → c (toT t x s) = c (toT t y s)
theorem CS.lang (h : TOk t) {c : Nat → Nat} (hc : CS t c) {x y : Nat} (hx : x < t.rows.length) (hy : y < t.rows.length) (he : c x = c y) : SameL t x t y := fun w => by
 induction w generalizing x y with
 | nil =>
   intro _
   have := hc.fi x y hx hy he
   show (t.fin[x]?).getD false = (t.fin[y]?).getD false
   rw [this]
 | cons s w ih =>
   intro hw
   rw [accT_cons, accT_cons]
   exact ih (toT_lt h) (toT_lt h) (hc.st x y s hx hy (hw s (List.mem_cons_self ..)) he) fun c hc => hw c (List.mem_cons_of_mem _ hc)
theorem full_nodup : ∀ {k : Nat} {L : List Nat}, (∀ v, v < k → v ∈ L) → L.length = k → L.Nodup := fun {k} => by
 induction k with
 | zero => intro L _ hl; rw [List.eq_nil_of_length_eq_zero hl]; exact List.nodup_nil
 | succ k ih =>
   intro L hL hl
   have hm := hL k (by omega)
   obtain ⟨A, B, rfl⟩ := List.append_of_mem hm
   have h1 : (A ++ B).Nodup := ih (fun v hv => by
    have := hL v (by omega)
    rcases List.mem_append.1 this with h | h
    · exact List.mem_append_left _ h
    · rcases List.mem_cons.1 h with h | h
      · omega
      · exact List.mem_append_right _ h) (by simp only [List.length_append, List.length_cons] at hl ⊢; omega)
   have h2 : k ∉ A ++ B := fun h3 => by
    have h4 : ∀ v, v < k + 1 → v ∈ A ++ B := fun v hv => by
     by_cases e : v = k
     · rw [e]; exact h3
     · have := hL v hv
       rcases List.mem_append.1 this with h | h
       · exact List.mem_append_left _ h
       · rcases List.mem_cons.1 h with h | h
         · exact absurd h e
         · exact List.mem_append_right _ h
    have h5 := nodupN_len (n := k + 1) (L := List.range (k + 1)) List.nodup_range fun s hs => List.mem_range.1 hs
    have key : ∀ (M : List Nat) (n : Nat), M.Nodup → (∀ v, v < n → v ∈ M) → n ≤ M.length := fun M n _ hv => by
     induction n generalizing M with
     | zero => exact Nat.zero_le _
     | succ n ih2 =>
       have h6 := ih2 (M.erase n) ((by assumption : M.Nodup).erase _) fun v hv' => (List.mem_erase_of_ne (by omega)).2 (hv v (by omega))
       rw [List.length_erase_of_mem (hv n (by omega))] at h6
       have := List.length_pos_of_mem (hv n (by omega))
       omega
    have := key _ _ h1 h4
    simp only [List.length_append, List.length_cons] at hl this
    omega
   have hp : (A ++ k :: B).Perm (k :: (A ++ B)) := List.perm_middle
   rw [hp.nodup_iff, List.nodup_cons]
   exact ⟨h2, h1⟩
theorem nodup_inj {α β : Type} {f : α → β} : ∀ {l : List α}, (l.map f).Nodup → ∀ x ∈ l, ∀ y ∈ l, f x = f y → x = y
 | [], _, x, hx, _, _, _ => by cases hx
 | z :: l, h, x, hx, y, hy, e => by
   rw [List.map_cons, List.nodup_cons] at h
   rcases List.mem_cons.1 hx with h1 | h1
   · rcases List.mem_cons.1 hy with h2 | h2
     · rw [h1, h2]
     · exact absurd (List.mem_map.2 ⟨y, h2, by rw [← e, h1]⟩) h.1
   · rcases List.mem_cons.1 hy with h2 | h2
     · exact absurd (List.mem_map.2 ⟨x, h1, by rw [e, h2]⟩) h.1
     · exact nodup_inj h.2 x h1 y h2 e
theorem stop_same {c : Nat → Nat} {k : Nat} (hk : COk t.rows.length c k) (he : cntC t.rows c = k) {x y : Nat} (hx : x < t.rows.length) (hy : y < t.rows.length) (hxy : c x = c y) : keyC t.rows c x = keyC t.rows c y := by
 have h1 : ∀ v, v < k → v ∈ (fstK (keyC t.rows c) t.rows.length).map fun l => l.headD 0 := fun v hv => by
  obtain ⟨s, hs, rfl⟩ := hk.hit v hv
  exact List.mem_map.2 ⟨keyC t.rows c s, fstK_mem.2 ⟨s, hs, rfl⟩, rfl⟩
 have h2 := full_nodup h1 (by rw [List.length_map]; exact he)
 exact nodup_inj h2 _ (fstK_mem.2 ⟨x, hx, rfl⟩) _ (fstK_mem.2 ⟨y, hy, rfl⟩) hxy
theorem clsIt_cs (h : TOk t) : ∀ {f : Nat} {c : Nat → Nat} {k : Nat}, COk t.rows.length c k → CL t c → t.rows.length < f + k → CS t (clsIt t.rows f c k)
 | 0, c, k, hk, _, hf => by have := hk.le; omega
 | f + 1, c, k, hk, hc, hf => by
   rw [clsIt]
   split
   · rename_i he
     refine ⟨hc.next h, fun x y s hx hy hs hxy => ?_⟩
     have h1 := ((key_iff h hx hy).1 ((next_iff hx hy).1 hxy)).2 s hs
     exact (next_iff (toT_lt h) (toT_lt h)).2 (stop_same hk he (toT_lt h) (toT_lt h) h1)
   · rename_i he
     have := hk.grow
     exact clsIt_cs h hk.next (hc.next h) (by omega)
theorem finC_cl (h : TOk t) : CL t (finC t.fin) := by
 refine ⟨fun x y hx hy hl => ?_, fun x y hx hy he => ?_⟩
 · have := hl [] fun c hc => by cases hc
   have h1 : (t.fin[x]?).getD false = (t.fin[y]?).getD false := this
   unfold finC; rw [h1]
 · have hf := h.fl
   obtain ⟨b, hb⟩ := get_some (show x < t.fin.length by omega)
   obtain ⟨b', hb'⟩ := get_some (show y < t.fin.length by omega)
   unfold finC at he
   rw [hb, hb'] at he ⊢
   cases b <;> cases b' <;> simp_all
theorem cls_cs (h : TOk t) : CS t (clsT t) := by
 unfold clsT
 exact clsIt_cs h (COk.start t.fin _) (finC_cl h) (by omega)
theorem cls_iff (h : TOk t) {x y : Nat} (hx : x < t.rows.length) (hy : y < t.rows.length) : clsT t x = clsT t y ↔ SameL t x t y :=
 ⟨fun e => (cls_cs h).lang h hx hy e, fun e => (cls_cs h).co x y hx hy e⟩
end
section
variable {t t' : Tab}
end
def wI (w : List Nat) : List Int := w.map fun c : Nat => (c : Int)
def stepL (a : Aut) (S : List Int) (w : List Int) : List Int := w.foldl (fun S c => nextL a c S) S
def accA (a : Aut) (w : List Int) : Bool := accB a (runL a w)
theorem accA_def (a : Aut) (w : List Int) : accA a w = accB a (stepL a (closL a a.start) w) := rfl
theorem wI_of {m : Int} {w : List Int} (h : ∀ c ∈ w, 0 ≤ c ∧ c < m) : ∃ v : List Nat, wI v = w ∧ WordN m.toNat v := by
 refine ⟨w.map Int.toNat, ?_, fun c hc => ?_⟩
 · unfold wI
   rw [List.map_map]
   refine (List.map_congr_left fun c hc => ?_).trans (List.map_id w)
   exact Int.toNat_of_nonneg (h c hc).1
 · obtain ⟨x, hx, rfl⟩ := List.mem_map.1 hc
   have := h x hx
   omega
theorem sub_lang_at {a : Aut} (h : AOk a) {o : List (List Int)} {rows : List (List Nat)} (hu : (subW a).all (closL a a.start) = some (o, rows)) : ∀ (w : List Nat) (i : Nat) (S : List Int), WordN a.syms.toNat w → o[i]? = some S → accT ⟨a.syms.toNat, rows, o.map (accB a)⟩ i w = accB a (stepL a S (wI w)) := by
 obtain ⟨h2, h3, h4⟩ := sub_ok h hu
 have hcap : o.length ≤ 2000 := h2.cap
 have h5 := h4 hcap
 intro w
 induction w with
 | nil =>
   intro i S _ hi
   show ((o.map (accB a))[i]?).getD false = accB a S
   rw [List.getElem?_map, hi]; rfl
 | cons c w ih =>
   intro i S hw hi
   have hc : c < a.syms.toNat := hw c (List.mem_cons_self ..)
   obtain ⟨r, hr⟩ := get_some (show i < rows.length by have := lt_of_get hi; omega)
   have hl : r.length = a.syms.toNat := h2.len r (List.mem_of_getElem? hr)
   obtain ⟨n, hn⟩ := get_some (show c < r.length by omega)
   obtain ⟨h6, h7⟩ := h2.to i S r c n hi hr hn
   obtain ⟨T, hT, hT2⟩ := posK_at (f := (subW a).key) (l := o) (k := (subW a).key ((subW a).step i S c)) (by rw [h7]; exact h6)
   rw [h7] at hT
   have hT3 : T = nextL a (c : Nat) S := hT2
   rw [accT_cons, toT_at hr hn, ih n T (fun c hc => hw c (List.mem_cons_of_mem _ hc)) hT, hT3]
   rfl
theorem sub_lang {a : Aut} (h : AOk a) {t : Tab} (ht : subT a = some t) {w : List Nat} (hw : WordN a.syms.toNat w) : accT t 0 w = accA a (wI w) := by
 unfold subT at ht
 obtain ⟨⟨o, rows⟩, h1, rfl⟩ := Option.map_eq_some_iff.1 ht
 obtain ⟨h2, _, _⟩ := sub_ok h h1
 exact sub_lang_at h h1 w 0 _ hw h2.zero
theorem sub_m {a : Aut} {t : Tab} (ht : subT a = some t) : t.m = a.syms.toNat := by
 unfold subT at ht
 obtain ⟨q, _, rfl⟩ := Option.map_eq_some_iff.1 ht
 rfl
section
variable {t : Tab} {o : List Nat} {rows : List (List Nat)}
theorem autQ_row (h : Fin t o rows) {i s : Nat} (hi : i < o.length) (hs : s < t.m) : ∃ (r : List Nat) (n x y : Nat), rows[i]? = some r ∧ r[s]? = some n ∧ o[i]? = some x ∧ o[n]? = some y ∧ clsT t y = clsT t (toT t x s) := by
 obtain ⟨r, hr⟩ := get_some (show i < rows.length by rw [h.len]; exact hi)
 have hrl : r.length = t.m := h.ok.len r (List.mem_of_getElem? hr)
 obtain ⟨n, hn⟩ := get_some (show s < r.length by omega)
 obtain ⟨x, hx⟩ := get_some hi
 obtain ⟨h6, h7⟩ := h.ok.to i x r s n hx hr hn
 obtain ⟨y, hy, hy2⟩ := posK_at (f := (minW t).key) (l := o) (k := (minW t).key ((minW t).step i x s)) (by rw [h7]; exact h6)
 rw [h7] at hy
 exact ⟨r, n, x, y, hr, hn, hx, hy, hy2⟩
theorem mem_movesT2 {i s n : Nat} {r : List Nat} (h1 : rows[i]? = some r) (h2 : r[s]? = some n) : (⟨(i : Nat), (n : Nat), (s : Nat)⟩ : Mv) ∈ movesT rows := by
 unfold movesT
 refine List.mem_flatMap.2 ⟨(r, i), List.mem_zipIdx_iff_getElem?.2 h1, ?_⟩
 unfold rowMv
 exact List.mem_map.2 ⟨(n, s), List.mem_zipIdx_iff_getElem?.2 h2, rfl⟩
theorem autQ_clos (hok : AOk (autQ t (o, rows))) {i : Nat} (hi : i < o.length) {l : List Int} (hl : ∀ x, x ∈ l ↔ x = (i : Int)) : closL (autQ t (o, rows)) l = [(i : Int)] := by
 have hin : ∀ s ∈ l, 0 ≤ s ∧ s < (autQ t (o, rows)).n := fun s hs => by
  rw [(hl s).1 hs]
  exact ⟨by omega, by show ((i : Nat) : Int) < (o.length : Nat); omega⟩
 refine srt_ext (closL_srt hok.mi hin) (List.pairwise_singleton ..) fun x => ?_
 rw [closL_mem hok.mi hin, List.mem_singleton]
 constructor
 · intro h
   induction h with
   | base h => exact (hl _).1 h
   | step _ hm hs hd ih =>
     obtain ⟨_, s, _, _, _, _, rfl⟩ := mem_movesT hm
     have h1 : ((s : Nat) : Int) = -1 := hd
     omega
 · intro h
   subst h
   exact .base ((hl _).2 rfl)
theorem autQ_next (h : Fin t o rows) (hok : AOk (autQ t (o, rows))) {i s n : Nat} {r : List Nat} (hr : rows[i]? = some r) (hn : r[s]? = some n) (hno : n < o.length) : nextL (autQ t (o, rows)) (s : Nat) [(i : Int)] = [(n : Int)] := by
 have hi : i < o.length := by rw [← h.len]; exact lt_of_get hr
 refine autQ_clos hok hno fun x => ?_
 have hin : ∀ s ∈ [(i : Int)], 0 ≤ s ∧ s < (autQ t (o, rows)).n := fun s hs => by
  rw [List.mem_singleton.1 hs]
  exact ⟨by omega, by show ((i : Nat) : Int) < (o.length : Nat); omega⟩
 rw [leads_mem hin]
 constructor
 · rintro ⟨m, hm, h1, h2, rfl⟩
   obtain ⟨i', s', n', r', h3, h4, rfl⟩ := mem_movesT hm
   have h1 : ((i' : Nat) : Int) = i := List.mem_singleton.1 h1
   have h2 : ((s' : Nat) : Int) = s := h2
   have e1 : i' = i := by omega
   have e2 : s' = s := by omega
   subst e1 e2
   rw [hr] at h3; cases h3
   rw [hn] at h4; cases h4
   rfl
 · rintro rfl
   exact ⟨_, mem_movesT2 hr hn, List.mem_singleton.2 rfl, rfl, rfl⟩
theorem autQ_acc (h : Fin t o rows) {i x : Nat} (hx : o[i]? = some x) : accB (autQ t (o, rows)) [(i : Int)] = (t.fin[x]?).getD false := by
 show (finB (autQ t (o, rows)) (i : Int) || false) = _
 rw [Bool.or_false, finB_Q (lt_of_get hx)]
 unfold finAt; rw [hx]; rfl
theorem autQ_at (ht : TOk t) (h : Fin t o rows) (hok : AOk (autQ t (o, rows))) : ∀ (w : List Nat) (i x : Nat), WordN t.m w → o[i]? = some x → accB (autQ t (o, rows)) (stepL (autQ t (o, rows)) [(i : Int)] (wI w)) = accT t x w := by
 intro w
 induction w with
 | nil => intro i x _ hx; exact autQ_acc h hx
 | cons c w ih =>
   intro i x hw hx
   obtain ⟨r, n, x', y, hr, hn, hx', hy, hc⟩ := autQ_row h (lt_of_get hx) (hw c (List.mem_cons_self ..))
   rw [hx] at hx'; cases hx'
   show accB _ (stepL _ (nextL _ (c : Nat) [(i : Int)]) (wI w)) = accT t (toT t x c) w
   have hw' : WordN t.m w := fun c hc => hw c (List.mem_cons_of_mem _ hc)
   rw [autQ_next h hok hr hn (lt_of_get hy), ih n y hw' hy]
   exact (cls_iff ht (h.ok.p y (List.mem_of_getElem? hy)) (toT_lt ht)).1 hc w hw'
theorem autQ_start (h : Fin t o rows) (hok : AOk (autQ t (o, rows))) : closL (autQ t (o, rows)) (autQ t (o, rows)).start = [((0 : Nat) : Int)] := autQ_clos hok h.pos fun x => List.mem_singleton
theorem autQ_lang (ht : TOk t) (h : Fin t o rows) (hok : AOk (autQ t (o, rows))) {w : List Nat} (hw : WordN t.m w) : accA (autQ t (o, rows)) (wI w) = accT t 0 w := by
 rw [accA_def, autQ_start h hok]
 exact autQ_at ht h hok w 0 0 hw h.ok.zero
end
theorem redX_lang {a A : Aut} (h : AOk a) (hr : redX a = .ok A) {w : List Nat} (hw : WordN a.syms.toNat w) : accA A (wI w) = accA a (wI w) := by
 obtain ⟨t, o, rows, hs, hT, _, hF, rfl, hm⟩ := redX_ok h hr
 rw [autQ_lang hT hF (autQ_aok hT hF hm) (by rw [sub_m hs]; exact hw), sub_lang h hs hw]
def IsMin (A : Aut) : Prop := ∃ t o rows, TOk t ∧ (minW t).all 0 = some (o, rows) ∧ A = autQ t (o, rows) ∧ (movesT rows).length ≤ 20000
theorem min_of_least {t : Tab} {A : Aut} (h : TOk t) (hl : leastT t = some A) : IsMin A := by
 obtain ⟨o, rows, h1, h2, h3⟩ := leastT_some hl
 exact ⟨t, o, rows, h, h1, h2, h3⟩
theorem redX_min {a A : Aut} (h : AOk a) (hr : redX a = .ok A) : IsMin A := by
 obtain ⟨t, o, rows, hs, hT, hu, hF, e, hm⟩ := redX_ok h hr
 exact ⟨t, o, rows, hT, hu, e, hm⟩
section
variable {A B : Aut}
theorem IsMin.aok (h : IsMin A) : AOk A := by
 obtain ⟨t, o, rows, hT, hu, rfl, hm⟩ := h
 exact autQ_aok hT (fin_of hT hu) hm
theorem IsMin.det (h : IsMin A) : DetA A := by
 obtain ⟨t, o, rows, hT, hu, rfl, hm⟩ := h
 exact det_Q hT (fin_of hT hu) hm
theorem IsMin.start (h : IsMin A) : closL A A.start = [((0 : Nat) : Int)] := by
 have hok := h.aok
 obtain ⟨t, o, rows, hT, hu, rfl, hm⟩ := h
 exact autQ_start (fin_of hT hu) hok
theorem IsMin.next (h : IsMin A) {i s : Nat} (hi : i < A.n.toNat) (hs : s < A.syms.toNat) : nextL A (s : Nat) [(i : Int)] = [((stepA A i s : Nat) : Int)] ∧ stepA A i s < A.n.toNat := by
 have hok := h.aok
 have hd := h.det
 refine ⟨?_, hd.sl i s hi hs⟩
 obtain ⟨t, o, rows, hT, hu, rfl, hm⟩ := h
 have hF := fin_of hT hu
 have e1 : (autQ t (o, rows)).n.toNat = o.length := Int.toNat_natCast _
 have e2 : (autQ t (o, rows)).syms.toNat = t.m := Int.toNat_natCast _
 rw [e1] at hi
 rw [e2] at hs
 obtain ⟨r, n, x, y, hr, hn, hx, hy, _⟩ := autQ_row hF hi hs
 have h1 := mvFrom_at (k := 0) hF.ok.len hr hn
 rw [Nat.zero_add] at h1
 have h2 : stepA (autQ t (o, rows)) i s = n := by
  rw [stepA_at (x := ⟨(i : Nat), (n : Nat), (s : Nat)⟩) (by rw [e2]; exact h1)]
  exact Int.toNat_natCast _
 rw [h2]
 exact autQ_next hF hok hr hn (lt_of_get hy)
theorem prod_at (hA : IsMin A) (hB : IsMin B) (hs : A.syms = B.syms) {op : Int} {o : List ((Nat × Nat) × (Int × Int))} {rows : List (List Nat)} (hu : prodQ A B = some (o, rows)) : ∀ (w : List Nat) (i : Nat) (p : (Nat × Nat) × (Int × Int)), WordN A.syms.toNat w → o[i]? = some p → accT (prodT A B op (o, rows)) i w = decB op (accB A (stepL A [((p.1.1 : Nat) : Int)] (wI w))) (accB B (stepL B [((p.1.2 : Nat) : Int)] (wI w))) := by
 obtain ⟨h1, _, h3⟩ := prod_ok hA.det hB.det hs hu
 have hcap : o.length ≤ 2000 := h1.cap
 have h5 := h3 hcap
 intro w
 induction w with
 | nil =>
   intro i p _ hi
   show ((o.map (prodF A B op))[i]?).getD false = decB op (finB A _ || false) (finB B _ || false)
   rw [List.getElem?_map, hi, Bool.or_false, Bool.or_false]; rfl
 | cons c w ih =>
   intro i p hw hi
   have hc : c < A.syms.toNat := hw c (List.mem_cons_self ..)
   have hp := h1.p p (List.mem_of_getElem? hi)
   obtain ⟨r, hr⟩ := get_some (show i < rows.length by have := lt_of_get hi; omega)
   have hl : r.length = A.syms.toNat := h1.len r (List.mem_of_getElem? hr)
   obtain ⟨n, hn⟩ := get_some (show c < r.length by omega)
   obtain ⟨h6, h7⟩ := h1.to i p r c n hi hr hn
   obtain ⟨q, hq, hq2⟩ := posK_at (f := (prodW A B).key) (l := o) (k := (prodW A B).key ((prodW A B).step i p c)) (by rw [h7]; exact h6)
   rw [h7] at hq
   have hq3 : q.1 = (stepA A p.1.1 c, stepA B p.1.2 c) := hq2
   rw [accT_cons, toT_at (t := prodT A B op (o, rows)) hr hn, ih n q (fun c hc => hw c (List.mem_cons_of_mem _ hc)) hq, hq3]
   dsimp only
   rw [← (hA.next hp.1 hc).1, ← (hB.next hp.2 (by rw [← hs]; exact hc)).1]
   rfl
theorem prod_lang (hA : IsMin A) (hB : IsMin B) (hs : A.syms = B.syms) {op : Int} {q : List ((Nat × Nat) × (Int × Int)) × List (List Nat)} (hu : prodQ A B = some q) {w : List Nat} (hw : WordN A.syms.toNat w) : accT (prodT A B op q) 0 w = decB op (accA A (wI w)) (accA B (wI w)) := by
 obtain ⟨h1, _, _⟩ := prod_ok hA.det hB.det hs hu
 rw [accA_def, accA_def, hA.start, hB.start]
 exact prod_at hA hB hs hu w 0 _ hw h1.zero
end
theorem bothX_ok2 {a b A B : Aut} {q : List ((Nat × Nat) × (Int × Int)) × List (List Nat)} (h : bothX a b = .ok (A, B, q)) : redX a = .ok A ∧ redX b = .ok B ∧ prodQ A B = some q := by
 unfold bothX at h
 split at h
 · rename_i A' B' hA hB
   split at h
   · rename_i q' hq
     cases h
     exact ⟨hA, hB, hq⟩
   · cases h
 · cases h
theorem fit_zero2 {a b : Aut} (h : fitX a b = 0) : VOk a ∧ VOk b ∧ a.syms = b.syms := by
 unfold fitX at h
 split at h
 · cases h
 · rename_i h1
   split at h
   · cases h
   · rename_i h2
     have ha : autOk a = true := by cases e : autOk a with
      | true => rfl
      | false => exact absurd (.inl e) h1
     have hb : autOk b = true := by cases e : autOk b with
      | true => rfl
      | false => exact absurd (.inr e) h1
     exact ⟨vok_of ha, vok_of hb, by simpa using h2⟩
theorem redX_syms {a A : Aut} (h : AOk a) (hr : redX a = .ok A) : A.syms = a.syms := (redX_det h hr).2
theorem prodX_lang {a b C : Aut} {op : Int} (h : prodX a b op = .ok C) : IsMin C ∧ C.syms = a.syms ∧ ∀ w, WordN a.syms.toNat w → accA C (wI w) = decB op (accA a (wI w)) (accA b (wI w)) := by
 unfold prodX at h
 split at h
 · cases h
 · rename_i hf
   split at h
   · cases h
   · split at h
     · rename_i A B q hq
       obtain ⟨ha, hb, hs⟩ := fit_zero2 (by simpa using hf)
       obtain ⟨hA, hB, hQ⟩ := bothX_ok2 hq
       have mA := redX_min ha.toAOk hA
       have mB := redX_min hb.toAOk hB
       have sA := redX_syms ha.toAOk hA
       have sB := redX_syms hb.toAOk hB
       have sAB : A.syms = B.syms := by rw [sA, sB, hs]
       have hT := prod_tok mA.det mB.det sAB op hQ
       cases hl : leastT (prodT A B op q) with
       | none => rw [hl] at h; cases h
       | some D =>
         rw [hl] at h; cases h
         obtain ⟨o, rows, h1, rfl, h3⟩ := leastT_some hl
         have hF := fin_of hT h1
         refine ⟨min_of_least hT hl, ?_, fun w hw => ?_⟩
         · show ((A.syms.toNat : Nat) : Int) = a.syms
           have := ha.s0; rw [sA]; omega
         · have hw' : WordN A.syms.toNat w := by rw [sA]; exact hw
           rw [autQ_lang hT hF (autQ_aok hT hF h3) hw', prod_lang mA mB sAB hQ hw', redX_lang ha.toAOk hA hw, redX_lang hb.toAOk hB (by rw [← hs]; exact hw)]
     · cases h
theorem acc_flip {t : Tab} (h : TOk t) {x : Nat} (hx : x < t.rows.length) (w : List Nat) : accT (flipT t) x w = !accT t x w := by
 have e : runT (flipT t) x w = runT t x w := rfl
 unfold accT
 rw [e]
 show ((t.fin.map fun b => !b)[runT t x w]?).getD false = _
 have := runT_lt h hx w
 rw [← h.fl] at this
 obtain ⟨b, hb⟩ := get_some this
 rw [List.getElem?_map, hb]; rfl
theorem compX_lang {a C : Aut} (h : compX a = .ok C) : IsMin C ∧ C.syms = a.syms ∧ ∀ w, WordN a.syms.toNat w → accA C (wI w) = !accA a (wI w) := by
 unfold compX at h
 split at h
 · rename_i A hA
   cases h
   obtain ⟨h1, h2⟩ := minX_ok hA
   have ha := aok_of h1
   have hsy := redX_syms ha h2
   obtain ⟨t, o, rows, hs, hT, hu, hF, rfl, hm⟩ := redX_ok ha h2
   have hl : leastT t = some (autQ t (o, rows)) := by
    unfold leastT
    rw [hu]
    show (if 20000 < (movesT rows).length then none else _) = _
    rw [if_neg (by omega)]
   have hl2 : leastT (flipT t) = some (compA (autQ t (o, rows))) := by rw [leastT_flip hT, hl]; rfl
   have hT2 := flipT_ok hT
   refine ⟨min_of_least hT2 hl2, hsy, fun w hw => ?_⟩
   obtain ⟨o', rows', h5, h6, h7⟩ := leastT_some hl2
   have hF2 := fin_of hT2 h5
   have hw2 : WordN t.m w := by rw [sub_m hs]; exact hw
   rw [h6, autQ_lang hT2 hF2 (autQ_aok hT2 hF2 h7) hw2, acc_flip hT hT.pos, sub_lang ha hs hw]
 · cases h
theorem minX_lang {a C : Aut} (h : minX a = .ok C) : IsMin C ∧ C.syms = a.syms ∧ ∀ w, WordN a.syms.toNat w → accA C (wI w) = accA a (wI w) := by
 obtain ⟨h1, h2⟩ := minX_ok h
 have ha := aok_of h1
 exact ⟨redX_min ha h2, redX_syms ha h2, fun w hw => redX_lang ha h2 hw⟩
inductive Pth (a : Aut) : Int → List Int → Int → Prop
 | nil (s : Int) : Pth a s [] s
 | eps {m : Mv} {w : List Int} {t : Int} (hm : m ∈ a.moves) (hs : m.sym = -1) (h : Pth a m.dst w t) : Pth a m.src w t
 | sym {m : Mv} {w : List Int} {t : Int} (hm : m ∈ a.moves) (hs : ¬ m.sym = -1) (h : Pth a m.dst w t) : Pth a m.src (m.sym :: w) t
section
variable {a : Aut}
theorem Pth.app {s x t : Int} {u v : List Int} (h : Pth a s u x) (h' : Pth a x v t) : Pth a s (u ++ v) t := by
 induction h with
 | nil s => exact h'
 | eps hm hs _ ih => exact .eps hm hs (ih h')
 | sym hm hs _ ih => exact .sym hm hs (ih h')
theorem Pth.cons {s t c : Int} {w : List Int} (h : Pth a s (c :: w) t) : ∃ m ∈ a.moves, Pth a s [] m.src ∧ m.sym = c ∧ ¬ m.sym = -1 ∧ Pth a m.dst w t := by
 generalize e : c :: w = v at h
 induction h with
 | nil s => cases e
 | eps hm hs _ ih =>
   obtain ⟨m', h1, h2, h3⟩ := ih e
   exact ⟨m', h1, .eps hm hs h2, h3⟩
 | sym hm hs h _ =>
   cases e
   exact ⟨_, hm, .nil _, rfl, hs, h⟩
theorem rch_pth {S : List Int} {t : Int} : Rch a S t ↔ ∃ s ∈ S, Pth a s [] t := by
 constructor
 · intro h
   induction h with
   | base h => exact ⟨_, h, .nil _⟩
   | step _ hm hs hc ih =>
     obtain ⟨s, h1, h2⟩ := ih
     have := h2.app (hs ▸ Pth.eps hm hc (.nil _))
     exact ⟨s, h1, this⟩
 · rintro ⟨s, h1, h2⟩
   have key : ∀ {x y : Int} {v : List Int}, Pth a x v y → v = [] → Rch a S x → Rch a S y := fun h => by
    induction h with
    | nil s => exact fun _ h => h
    | eps hm hs _ ih => exact fun e h => ih e (.step h hm rfl hs)
    | sym hm hs _ ih => exact fun e => by cases e
   exact key h2 rfl (.base h1)
theorem step_pth (h : AOk a) : ∀ {w : List Int} {S : List Int} {t : Int}, (∀ c ∈ w, ¬ c = -1) → InS a S → (t ∈ stepL a (closL a S) w ↔ ∃ s ∈ S, Pth a s w t)
 | [], S, t, _, hS => by
   show t ∈ closL a S ↔ _
   rw [closL_mem h.mi hS, rch_pth]
 | c :: w, S, t, hw, hS => by
   have hc := closL_in h.mi hS
   show t ∈ stepL a (closL a (leads a c (closL a S))) w ↔ _
   rw [step_pth h (fun c hc => hw c (List.mem_cons_of_mem _ hc)) (leads_in h.mi c _)]
   constructor
   · rintro ⟨x, h1, h2⟩
     obtain ⟨m, hm, h3, h4, rfl⟩ := (leads_mem hc).1 h1
     obtain ⟨s, h5, h6⟩ := rch_pth.1 ((closL_mem h.mi hS _).1 h3)
     refine ⟨s, h5, ?_⟩
     have := h6.app (Pth.sym hm (by rw [h4]; exact hw c (List.mem_cons_self ..)) h2)
     rw [h4] at this; exact this
   · rintro ⟨s, h1, h2⟩
     obtain ⟨m, hm, h3, h4, _, h5⟩ := h2.cons
     exact ⟨m.dst, (leads_mem hc).2 ⟨m, hm, (closL_mem h.mi hS _).2 (rch_pth.2 ⟨s, h1, h3⟩), h4, rfl⟩, h5⟩
def Lng (a : Aut) (w : List Int) : Prop := ∃ s ∈ a.start, ∃ f ∈ a.fin, Pth a s w f
theorem acc_lng (h : AOk a) {w : List Int} (hw : ∀ c ∈ w, 0 ≤ c) : accA a w = true ↔ Lng a w := by
 unfold accA accB
 rw [List.any_eq_true]
 have key : ∀ t, t ∈ runL a w ↔ ∃ s ∈ a.start, Pth a s w t := fun t => step_pth h (fun c hc => by have := hw c hc; omega) h.st
 constructor
 · rintro ⟨t, h1, h2⟩
   obtain ⟨s, h3, h4⟩ := (key t).1 h1
   unfold finB at h2
   obtain ⟨f, h5, h6⟩ := List.any_eq_true.1 h2
   rw [decide_eq_true_eq] at h6
   subst h6
   exact ⟨s, h3, f, h5, h4⟩
 · rintro ⟨s, h3, f, h5, h4⟩
   refine ⟨f, (key f).2 ⟨s, h3, h4⟩, ?_⟩
   unfold finB
   exact List.any_eq_true.2 ⟨f, h5, by simp⟩
theorem Pth.mono {b : Aut} (hs : ∀ m ∈ a.moves, m ∈ b.moves) {s t : Int} {w : List Int} (h : Pth a s w t) : Pth b s w t := by
 induction h with
 | nil s => exact .nil s
 | eps hm h1 _ ih => exact .eps (hs _ hm) h1 ih
 | sym hm h1 _ ih => exact .sym (hs _ hm) h1 ih
theorem lng_mk {w : List Int} : Lng (mkA a) w ↔ Lng a w := by
 have h1 : ∀ m, m ∈ (mkA a).moves ↔ m ∈ a.moves := fun m => mkM_mem
 constructor
 · rintro ⟨s, hs, f, hf, h⟩; exact ⟨s, hs, f, hf, h.mono fun m hm => (h1 m).1 hm⟩
 · rintro ⟨s, hs, f, hf, h⟩; exact ⟨s, hs, f, hf, h.mono fun m hm => (h1 m).2 hm⟩
end
theorem madeX_lang {X C : Aut} (hp : PreA X) (h : madeX X = .ok C) : IsMin C ∧ C.syms = X.syms ∧ ∀ w, WordN X.syms.toNat w → (accA C (wI w) = true ↔ Lng X (wI w)) := by
 unfold madeX redL at h
 split at h
 · cases h
 · rename_i hb
   have hok := hp.aok hb
   have h : redX (mkA X) = .ok C := h
   have hsy : C.syms = (mkA X).syms := redX_syms hok h
   refine ⟨redX_min hok h, hsy, fun w hw => ?_⟩
   rw [redX_lang hok h (show WordN (mkA X).syms.toNat w from hw), acc_lng hok, lng_mk]
   intro c hc
   obtain ⟨n, _, rfl⟩ := List.mem_map.1 hc
   omega
def addI (n : Int) (l : List Int) : List Int := l.map (· + n)
def addM (n : Int) (l : List Mv) : List Mv := l.map fun m => ⟨m.src + n, m.dst + n, m.sym⟩
def turnM (l : List Mv) : List Mv := l.map fun m => ⟨m.dst, m.src, m.sym⟩
def epsR (n f : Int) (l : List Int) : List Mv := l.map fun s => ⟨f, s + n, -1⟩
def epsM (n : Int) (F l : List Int) : List Mv := F.flatMap fun f => epsR n f l
def unionA (a b : Aut) : Aut := ⟨a.n + b.n, a.syms, a.start ++ addI a.n b.start, a.fin ++ addI a.n b.fin, a.moves ++ addM a.n b.moves⟩
def catA (a b : Aut) : Aut := ⟨a.n + b.n, a.syms, a.start, addI a.n b.fin, a.moves ++ addM a.n b.moves ++ epsM a.n a.fin b.start⟩
def revA (a : Aut) : Aut := ⟨a.n, a.syms, a.fin, a.start, turnM a.moves⟩
theorem addI_snoc (n : Int) {l : List Int} {k : Nat} {x : Int} (h : l[k]? = some x) : addI n (l.take (k + 1)) = addI n (l.take k) ++ [x + n] := by unfold addI; rw [take_snoc h, List.map_append]; rfl
theorem addM_snoc (n : Int) {l : List Mv} {k : Nat} {x : Mv} (h : l[k]? = some x) : addM n (l.take (k + 1)) = addM n (l.take k) ++ [⟨x.src + n, x.dst + n, x.sym⟩] := by unfold addM; rw [take_snoc h, List.map_append]; rfl
theorem turnM_snoc {l : List Mv} {k : Nat} {x : Mv} (h : l[k]? = some x) : turnM (l.take (k + 1)) = turnM (l.take k) ++ [⟨x.dst, x.src, x.sym⟩] := by unfold turnM; rw [take_snoc h, List.map_append]; rfl
theorem epsR_snoc (n f : Int) {l : List Int} {k : Nat} {x : Int} (h : l[k]? = some x) : epsR n f (l.take (k + 1)) = epsR n f (l.take k) ++ [⟨f, x + n, -1⟩] := by unfold epsR; rw [take_snoc h, List.map_append]; rfl
theorem epsM_snoc (n : Int) {F : List Int} {k : Nat} {f : Int} (l : List Int) (h : F[k]? = some f) : epsM n (F.take (k + 1)) l = epsM n (F.take k) l ++ epsR n f l := by unfold epsM; rw [take_snoc h, List.flatMap_append, List.flatMap_singleton]
theorem addI_len (n : Int) (l : List Int) : (addI n l).length = l.length := List.length_map _
theorem addM_len (n : Int) (l : List Mv) : (addM n l).length = l.length := List.length_map _
theorem turnM_len (l : List Mv) : (turnM l).length = l.length := List.length_map _
theorem epsM_len (n : Int) (l : List Int) : ∀ F : List Int, (epsM n F l).length = F.length * l.length
 | [] => by simp [epsM]
 | f :: F => by
   have := epsM_len n l F
   unfold epsM at this ⊢
   rw [List.flatMap_cons, List.length_append, this, List.length_cons, Nat.succ_mul, Nat.add_comm]
   unfold epsR; rw [List.length_map]
theorem addI_nodup {n : Int} {l : List Int} (h : l.Nodup) : (addI n l).Nodup := map_nodup h fun x _ y _ e => by omega
theorem app_nodup {α : Type} {l m : List α} (h1 : l.Nodup) (h2 : m.Nodup) (h : ∀ x ∈ l, x ∉ m) : (l ++ m).Nodup := List.nodup_append.2 ⟨h1, h2, fun x hx y hy e => h x hx (e ▸ hy)⟩
theorem mem_addI {n x : Int} {l : List Int} : x ∈ addI n l ↔ ∃ y ∈ l, y + n = x := by unfold addI; rw [List.mem_map]
theorem mem_addM {n : Int} {x : Mv} {l : List Mv} : x ∈ addM n l ↔ ∃ m ∈ l, (⟨m.src + n, m.dst + n, m.sym⟩ : Mv) = x := by unfold addM; rw [List.mem_map]
theorem mem_epsM {n : Int} {x : Mv} {F l : List Int} : x ∈ epsM n F l ↔ ∃ f ∈ F, ∃ s ∈ l, (⟨f, s + n, -1⟩ : Mv) = x := by
 unfold epsM epsR
 simp only [List.mem_flatMap, List.mem_map]
section
variable {a b : Aut}
theorem fit_nodup (ha : VOk a) {l m : List Int} (hl : InS a l) (hm : InS b m) (h1 : l.Nodup) (h2 : m.Nodup) : (l ++ addI a.n m).Nodup :=
 app_nodup h1 (addI_nodup h2) fun x hx hx' => by
  obtain ⟨y, hy, rfl⟩ := mem_addI.1 hx'
  have h3 := hl _ hx
  have h4 := hm y hy
  omega
theorem fit_in (ha : VOk a) (hb : VOk b) {l m : List Int} (hl : InS a l) (hm : InS b m) : ∀ x ∈ l ++ addI a.n m, 0 ≤ x ∧ x < a.n + b.n := fun x hx => by
 have h1 := ha.n0
 have h2 := hb.n0
 rcases List.mem_append.1 hx with hx | hx
 · have := hl x hx; omega
 · obtain ⟨y, hy, rfl⟩ := mem_addI.1 hx
   have := hm y hy
   omega
theorem both_mv (ha : VOk a) (hb : VOk b) (hs : a.syms = b.syms) : ∀ m ∈ a.moves ++ addM a.n b.moves, 0 ≤ m.src ∧ m.src < a.n + b.n ∧ 0 ≤ m.dst ∧ m.dst < a.n + b.n ∧ -1 ≤ m.sym ∧ m.sym < a.syms := fun m hm => by
 have h1 := ha.n0
 have h2 := hb.n0
 rcases List.mem_append.1 hm with hm | hm
 · have := ha.mv m hm; omega
 · obtain ⟨y, hy, rfl⟩ := mem_addM.1 hm
   have := hb.mv y hy
   dsimp only; omega
theorem both_nodup (ha : VOk a) (hb : VOk b) : (a.moves ++ addM a.n b.moves).Nodup :=
 app_nodup (asc_nodup2 ha.ms) (map_nodup (asc_nodup2 hb.ms) fun x _ y _ e => by
  have e := Mv.mk.inj e
  cases x; cases y
  simp only [Mv.mk.injEq] at e ⊢
  omega) fun x hx hx' => by
   obtain ⟨y, hy, rfl⟩ := mem_addM.1 hx'
   have h3 := ha.mv _ hx
   have h4 := hb.mv y hy
   dsimp only at h3
   omega
theorem union_pre (ha : VOk a) (hb : VOk b) (hs : a.syms = b.syms) : PreA (unionA a b) := by
 have h1 := ha.n0
 have h2 := hb.n0
 exact ⟨by show 0 ≤ a.n + b.n; omega, ha.s0, ha.s1, fit_in ha hb ha.st hb.st, fit_in ha hb ha.fi hb.fi, fit_nodup ha ha.st hb.st (srt_nodup ha.ss) (srt_nodup hb.ss), fit_nodup ha ha.fi hb.fi (srt_nodup ha.fs) (srt_nodup hb.fs), both_mv ha hb hs⟩
theorem cat_nodup (ha : VOk a) (hb : VOk b) : (catA a b).moves.Nodup := by
 show (a.moves ++ addM a.n b.moves ++ epsM a.n a.fin b.start).Nodup
 refine app_nodup (both_nodup ha hb) ?_ fun x hx hx' => ?_
 · have key : ∀ F : List Int, F.Nodup → (epsM a.n F b.start).Nodup := fun F => by
    induction F with
    | nil => exact fun _ => List.nodup_nil
    | cons f F ih =>
      intro h
      rw [List.nodup_cons] at h
      show (epsR a.n f b.start ++ epsM a.n F b.start).Nodup
      refine app_nodup (map_nodup (srt_nodup hb.ss) fun x _ y _ e => by have := (Mv.mk.inj e).2.1; omega) (ih h.2) fun x hx hx' => ?_
      obtain ⟨f', hf', s', _, rfl⟩ := mem_epsM.1 hx'
      unfold epsR at hx
      obtain ⟨s, _, e⟩ := List.mem_map.1 hx
      have := (Mv.mk.inj e).1
      subst this
      exact h.1 hf'
   exact key _ (srt_nodup ha.fs)
 · obtain ⟨f, hf, s, hs, rfl⟩ := mem_epsM.1 hx'
   have h3 := ha.fi f hf
   have h4 := hb.st s hs
   rcases List.mem_append.1 hx with hx | hx
   · have h5 := ha.mv _ hx
     dsimp only at h5
     omega
   · obtain ⟨y, hy, e⟩ := mem_addM.1 hx
     have h5 := hb.mv y hy
     have h6 := (Mv.mk.inj e).1
     omega
theorem cat_pre (ha : VOk a) (hb : VOk b) (hs : a.syms = b.syms) : PreA (catA a b) := by
 have h1 := ha.n0
 have h2 := hb.n0
 refine ⟨by show 0 ≤ a.n + b.n; omega, ha.s0, ha.s1, fun x hx => ?_, fun x hx => ?_, srt_nodup ha.ss, addI_nodup (srt_nodup hb.fs), fun m hm => ?_⟩
 · have := ha.st x hx
   show 0 ≤ x ∧ x < a.n + b.n; omega
 · obtain ⟨y, hy, rfl⟩ := mem_addI.1 hx
   have := hb.fi y hy
   show 0 ≤ y + a.n ∧ y + a.n < a.n + b.n; omega
 · have hm' : m ∈ a.moves ++ addM a.n b.moves ++ epsM a.n a.fin b.start := hm
   rcases List.mem_append.1 hm' with hm | hm
   · exact both_mv ha hb hs m hm
   · obtain ⟨f, hf, s, hs', rfl⟩ := mem_epsM.1 hm
     have h3 := ha.fi f hf
     have h4 := hb.st s hs'
     have h5 := ha.s0
     show 0 ≤ f ∧ f < a.n + b.n ∧ 0 ≤ s + a.n ∧ s + a.n < a.n + b.n ∧ -1 ≤ (-1 : Int) ∧ (-1 : Int) < a.syms
     omega
theorem rev_pre (ha : VOk a) : PreA (revA a) := by
 refine ⟨ha.n0, ha.s0, ha.s1, ha.fi, ha.st, srt_nodup ha.fs, srt_nodup ha.ss, fun m hm => ?_⟩
 have hm' : m ∈ turnM a.moves := hm
 unfold turnM at hm'
 obtain ⟨y, hy, rfl⟩ := List.mem_map.1 hm'
 have := ha.mv y hy
 show 0 ≤ y.dst ∧ y.dst < a.n ∧ 0 ≤ y.src ∧ y.src < a.n ∧ -1 ≤ y.sym ∧ y.sym < a.syms
 omega
theorem rev_nodup (ha : VOk a) : (revA a).moves.Nodup := map_nodup (asc_nodup2 ha.ms) fun x _ y _ e => by
 have e := Mv.mk.inj e
 cases x; cases y
 simp only [Mv.mk.injEq] at e ⊢
 omega
end
def unionX (a b : Aut) : Except Int Aut := if ¬ fitX a b = 0 then .error (fitX a b) else madeX (unionA a b)
def catX (a b : Aut) : Except Int Aut := if ¬ fitX a b = 0 then .error (fitX a b) else madeX (catA a b)
def revX (a : Aut) : Except Int Aut := if autOk a = true then madeX (revA a) else .error 1
end Go.Proofs.YtgigclnaicbiaaaGreatDoor
namespace Go.En
open Go.RowKit Go.Cb
set_option linter.all false
section
variable {P : Program} {st : St} {o : Oper}
end
theorem tab_below {P : Program} {g : Nat} (hg : P.globalNamed "internal/strconv.uint64pow10" = some g) (ht : tabG = some g) {w : World} {M N : BS} (h : TabW w M N) {B : Nat} (hB : g < B) : Lib.TabBelow P B w "internal/strconv.uint64pow10" .u64 Lib.pow10Tab := fun w' hb => by
 obtain ⟨⟨ty, at', h1⟩, _, _⟩ := h g ht
 have h2 := (hb.block g hB).trans h1
 unfold Lib.TabIs World.var?
 rw [hg, Option.bind_some, h2]
theorem tabW_of {P : Program} {g : Nat} (hg : P.globalNamed "internal/strconv.uint64pow10" = some g) (ht : tabG = some g) {w : World} (h : Lib.TabIs P w "internal/strconv.uint64pow10" .u64 Lib.pow10Tab) : TabW w (fun _ => False) (fun _ => False) := fun g' hg' => by
 obtain rfl : g = g' := Option.some.inj (ht.symm.trans hg')
 unfold Lib.TabIs World.var? at h
 rw [hg, Option.bind_some] at h
 split at h
 · rename_i cs ty at' hc
   cases h
   exact ⟨⟨ty, at', hc⟩, fun h => h, fun h => h⟩
 · cases h
def keepS (K : List Nat) (s : List (Nat × Ent)) : List (Nat × Ent) := K.filterMap fun t => (lk s t).map fun x => (t, x)
theorem keepS_lk {s : List (Nat × Ent)} {t : Nat} {x : Ent} : ∀ {K : List Nat}, lk (keepS K s) t = some x → lk s t = some x ∧ (t, x) ∈ keepS K s
 | [], h => by simp [keepS, lk] at h
 | k :: K, h => by
   unfold keepS at h ⊢
   rw [List.filterMap_cons] at h ⊢
   cases hk : lk s k with
   | none =>
     rw [hk] at h
     simp only [Option.map_none] at h ⊢
     exact keepS_lk (K := K) h
   | some y =>
     rw [hk] at h
     simp only [Option.map_some] at h ⊢
     rw [lk] at h
     cases hb : Nat.beq k t
     · rw [hb, cond_false] at h
       obtain ⟨h1, h2⟩ := keepS_lk (K := K) h
       exact ⟨h1, List.mem_cons_of_mem _ h2⟩
     · rw [hb, cond_true] at h
       have := Nat.eq_of_beq_eq_true hb
       subst this
       cases h
       exact ⟨hk, List.mem_cons_self ..⟩
def ShrL (M : BS) (w : World) : List (Nat × Ent) → Prop
 | [] => True
 | x :: l => Shr M w x.2.1 x.2.2 ∧ ShrL M w l
theorem ShrL.at {M : BS} {w : World} : ∀ {l : List (Nat × Ent)} {x : Nat × Ent}, ShrL M w l → x ∈ l → Shr M w x.2.1 x.2.2
 | y :: l, x, h, hx => by
   rcases List.mem_cons.1 hx with rfl | hx
   · exact h.1
   · exact ShrL.at h.2 hx
def pByte (b : UInt8) : PV := .val (.int .u8 (b.toNat : Nat))
theorem bytes_of {M : BS} {w : World} {bs : List UInt8} {xs : List Value} {Fs : Nat → BS} (hlen : (bs.map pByte).length = xs.length) (hT : ∀ (i : Nat) (x : Value) (p : PV), xs[i]? = some x → (bs.map pByte)[i]? = some p → Tr M w x p (Fs i)) : xs = Lib.byteCells bs := by
 apply List.ext_getElem?
 intro j
 unfold Lib.byteCells
 rw [List.getElem?_map]
 cases hj : bs[j]? with
 | none =>
   have := List.getElem?_eq_none_iff.1 hj
   rw [List.length_map] at hlen
   exact List.getElem?_eq_none (by omega)
 | some b =>
   have hp : (bs.map pByte)[j]? = some (pByte b) := by rw [List.getElem?_map, hj]; rfl
   obtain ⟨v, hv⟩ := get_of_len hp hlen
   rw [hv]
   have := ((hT j v _ hv hp).sh rfl).vOf
   exact congrArg some this
theorem strOf_bytes (bs : List UInt8) : strOfNums (bs.map fun b : UInt8 => (b.toNat : Int)) = ⟨bs.toArray⟩ := by
 unfold strOfNums
 rw [List.map_map]
 congr 2
 conv => rhs; rw [← List.map_id bs]
 refine List.map_congr_left fun b _ => ?_
 simp
theorem q_bstr {P : Program} {sL hP : List (Nat × Ent)} {o : Oper} {s d e e' n : Nat} {x : Operand} {h : Value} {q : PV} {bs : List UInt8} (l : Nat) (hs : P.underlying s = some (.slice e')) (he : P.underlying e' = some (.int .u8)) (hd : P.underlying d = some .string) (ho : o.op = .convert s d x := by exact rfl) (hx : ev sL x = some (h, q) := by exact rfl) (hl : lk hP l = some (h, .own e 1 n (bs.map pByte)) := by exact rfl) : YE P (⟨sL, hP⟩ : St) o (· = .string ⟨bs.toArray⟩) (.val (.string ⟨bs.toArray⟩)) := fun M F a w H => by
 have hv := (H.ev hx).1
 obtain ⟨xs, Fs, hrow, hlen, hTr, hdj, hb, hF'⟩ := (H.tr l _ _ hl).row
 have hxs := bytes_of hlen hTr
 subst hxs
 refine ⟨.string ⟨bs.toArray⟩, rfl, .val _, fun N W hch hN hF => ?_⟩
 rcases row_form hrow with ⟨h1, h2, h3⟩ | ⟨g, cap, h1, h2, h3, h4⟩
 · have hbn : bs = [] := by
    unfold Lib.byteCells at h3
    exact List.map_eq_nil_iff.1 h3
   subst hbn
   rw [h1] at hv
   have := run_convert_bytes_nil W s e' hs he 0 0 d hd
   simp [execOp, ho, hv, this]
   rfl
 · have hrow2 := hrow
   rw [h1] at hrow2
   have hn : n = bs.length := by
    have := hrow.1
    simp [Lib.byteCells] at this
    omega
   have := run_convert_bytes_arg (P := P) W s e' hs he g 0 n cap (bs.map fun b : UInt8 => (b.toNat : Int)) (by rw [List.length_map, hn]) (fun i hi => by
    obtain ⟨b, hb'⟩ := get_some (show i < bs.length by omega)
    have hc : (Lib.byteCells bs)[i]? = some (.int .u8 (b.toNat : Nat)) := by unfold Lib.byteCells; rw [List.getElem?_map, hb']; rfl
    have h5 := cell_mv hch (hF l _ g hl ((hF' g).2 (.inl (by rw [h1]; rfl)))) (row_cell hrow2 hc)
    rw [Nat.zero_add, h5]
    simp [List.getD, hb']) d hd
   rw [strOf_bytes] at this
   rw [h1] at hv
   simp [execOp, ho, hv, this]
def AppIntC (P : Program) (f e : Nat) : Prop := ∀ (B n : Nat) (i : Int) (_ : -9223372036854775808 ≤ i) (_ : i ≤ 9223372036854775807) (sv : Value) (xs : List Value) (w : World) (_ : w.ownsRow B e 1 sv n xs) (_ : B ≤ w.heap.size) (_ : n + 21 ≤ 140737488355328) (_ : Lib.TabBelow P B w "internal/strconv.uint64pow10" .u64 Lib.pow10Tab),
 Calls P f #[sv, .int .i64 i, .int .i64 10] w fun q w' => ∃ v', q = .returned v' ∧ w'.ownsRow B e 1 v' (n + (Lib.itoa i).length) (xs ++ Lib.byteCells (Lib.itoa i)) ∧ Below B w w' ∧ Lib.OthersKept e none w w'
section
variable {P : Program} {c : Ctx} {ops : Array Oper} {Q : Exit → Act → World → Prop} {rest : List Oper} {sL hP : List (Nat × Ent)} {o : Oper}
theorem s_appInt {f e n g : Nat} {h : Value} {q q2 q3 : PV} {x y z : Operand} {ats : Array TypeId} {bs : List UInt8} {i : Int} (l d : Nat) (K : List Nat) (hA : AppIntC P f e) (hc : ∀ args w, (callFunc f args).run P w = .ok (.enter f args) w)
 (hN : ∀ b, ¬ c.N0 b) (hdr : ¬ c.dr) (hg : P.globalNamed "internal/strconv.uint64pow10" = some g) (ht : tabG = some g)
 (hS : ShrL c.M0 c.w0 (keepS K sL)) (hi0 : -9223372036854775808 ≤ i) (hi1 : i ≤ 9223372036854775807) (hlim : n + 21 ≤ 140737488355328)
 (k : ∀ h' : Value, h'.oneCell' = true → aL P c ops Q rest ⟨put d (h', .val h') (keepS K sL), [(d, h', .own e 1 (n + (Lib.itoa i).length) ((bs ++ Lib.itoa i).map pByte))]⟩)
 (hw : wants ops sL o = some true := by exact rfl) (hd : o.dst = some d := by exact rfl) (hdn : d < c.nt := by exact Nat.le_of_ble_eq_true rfl) (ho : o.op = .call { callee := .value (.func f), args := #[x, y, z], argTypes := ats } := by exact rfl)
 (hx : ev sL x = some (h, q) := by exact rfl) (hl : lk hP l = some (h, .own e 1 n (bs.map pByte)) := by exact rfl) (hy : ev sL y = some (.int .i64 i, q2) := by exact rfl) (hz : ev sL z = some (.int .i64 10, q3) := by exact rfl) : aL P c ops Q (o :: rest) (⟨sL, hP⟩ : St) :=
 aL_run hw fun a w F H => by
  have hxv := (H.rd.ev hx).1
  have hyv := (H.rd.ev hy).1
  have hzv := (H.rd.ev hz).1
  have hTr := H.tr l _ _ hl
  obtain ⟨xs, Fs, hrow, hlen, hT, hdj, hb, hF⟩ := hTr.row
  have hxs : xs = Lib.byteCells bs := bytes_of hlen hT
  subst hxs
  have hw0 : c.w0.heap.size ≤ w.heap.size := H.ext.size
  have hrowB : w.ownsRow c.w0.heap.size e 1 h n (Lib.byteCells bs) := by
   refine ⟨hrow.1, ?_⟩
   rcases hrow.2 with h1 | ⟨g', cap, cur, e1, e2, r⟩
   · exact .inl h1
   · refine .inr ⟨g', cap, cur, e1, ?_, r⟩
     exact (H.lo l _ g' hl ((hF g').2 (.inl (by rw [e1]; rfl)))).resolve_right (hN g')
  obtain ⟨⟨ty, at', hgb⟩, _, _⟩ := H.m0.tb hdr g ht
  have hcall := hA c.w0.heap.size n i hi0 hi1 h (Lib.byteCells bs) w hrowB hw0 hlim (tab_below hg ht (H.mok.tb hdr) (blk_lt hgb))
  unfold Oper.wp
  have hrun : (execOp a.eval o).run P w = .ok (.enter f #[h, .int .i64 i, .int .i64 10]) w := by
   have hev : a.eval (.func f) = .func (.func f) #[] #[] := rfl
   simp [execOp, ho, resolve, Deferred.ofValue, hev, invoke, hxv, hyv, hzv, hc]
  rw [hrun, Oper.upon_enter]
  refine hcall.mono fun e' w' ⟨v', he', hown, hbel, _⟩ => ?_
  subst he'
  rw [hd]
  have hch : Chg c.N0 c.w0 w' := ⟨hbel.os.trans H.ext.os, hbel.tape.trans H.ext.tape, hbel.output.trans H.ext.output, Nat.le_trans hw0 hbel.size, fun i hi hne => (hbel.block i hi).trans (H.ext.block i hi hne)⟩
  have hone : v'.oneCell' = true := by
   rcases hown.2 with ⟨h1, _⟩ | ⟨g', cap', cur, e1, _⟩
   · rw [h1]; rfl
   · rw [e1]; rfl
  have hlow : ∀ b, v'.ownBlock = some b → c.w0.heap.size ≤ b := fun b hb' => by
   rcases hown.2 with ⟨h1, _⟩ | ⟨g', cap', cur, e1, e2, _⟩
   · rw [h1] at hb'; simp [Value.ownBlock] at hb'
   · rw [e1] at hb'; simp [Value.ownBlock] at hb'; omega
  have hown0 : w'.ownsRow 0 e 1 v' (n + (Lib.itoa i).length) (Lib.byteCells (bs ++ Lib.itoa i)) := by
   rw [show Lib.byteCells (bs ++ Lib.itoa i) = Lib.byteCells bs ++ Lib.byteCells (Lib.itoa i) from List.map_append]
   refine ⟨hown.1, ?_⟩
   rcases hown.2 with h1 | ⟨g', cap, cur, e1, e2, r⟩
   · exact .inl h1
   · exact .inr ⟨g', cap, cur, e1, Nat.zero_le _, r⟩
  refine k v' hone _ _ ⟨fun l' b => l' = d ∧ v'.ownBlock = some b, ⟨⟨fun l' u p hl' => ?_, fun l' z b _ hb' => .inl (hlow b hb'.2), fun l1 l2 z1 z2 b hne h1 h2 hb1 hb2 => hne (hb1.1.trans hb2.1.symm), H.m0, hch, fun h => absurd h hdr⟩, fun t u p ht' => ?_, ?_, H.df⟩⟩
  · simp only [lk] at hl'
    cases hb : Nat.beq d l'
    · rw [hb] at hl'; cases hl'
    · rw [hb] at hl'
      have := Nat.eq_of_beq_eq_true hb
      subst this
      cases hl'
      refine .own (Lib.byteCells (bs ++ Lib.itoa i)) (fun _ _ => False) hown0 (by simp [Lib.byteCells]) (fun t v p hv hp => ?_) (fun _ _ _ _ _ _ h => h.elim) (fun _ _ _ h => h.elim) (fun b => by simp)
      unfold Lib.byteCells at hv
      rw [List.getElem?_map, Option.map_eq_some_iff] at hv hp
      obtain ⟨b1, hb1, rfl⟩ := hv
      obtain ⟨b2, hb2, rfl⟩ := hp
      rw [hb1] at hb2; cases hb2
      exact .shr (.val _) (fun _ h => h)
  · rcases lk_put ht' with ⟨rfl, e1⟩ | ⟨hne, e1⟩
    · cases e1
      exact ⟨by simp [Act.put, H.size, hdn], .val _⟩
    · obtain ⟨h1, h2⟩ := keepS_lk e1
      have h3 := (H.sl t u p h1).1
      refine ⟨by simpa [Act.put, Array.getElem?_setIfInBounds, hne] using h3, (hS.at h2).to hch (fun b _ h => absurd h (hN b)) fun b hb' hm => ?_⟩
      rcases hm with h4 | ⟨l', z, h4, h5⟩
      · exact h4
      · have := hlow b h5.2; omega
  · simpa [Act.put] using H.size
theorem aL_mins {t ks e : Nat} {kd : TypeDesc} {z : Value} {x y u : Operand} {m k v : Value} {kv : List (Value × Value)} {p q r : PV} (l : Nat) (hw : wants ops sL o = some true) (hd : o.dst = none) (hT : MpT P t ks e kd z) (ho : o.op = .insert t x y u) (hx : ev sL x = some (m, p)) (hl : lk hP l = some (m, .omap kv)) (hy : ev sL y = some (k, q)) (hu : ev sL u = some (v, r)) (hk : kok kd k kv) (hbits : bits k = true)
 (kk : aL P c ops Q rest ⟨sL, put l (m, .omap (mput kv k v)) hP⟩) : aL P c ops Q (o :: rest) (⟨sL, hP⟩ : St) :=
 aL_run hw fun a w F H => by
  have hxv := (H.rd.ev hx).1
  have hyv := (H.rd.ev hy).1
  have huv := (H.rd.ev hu).1
  obtain ⟨b, es, clock, rfl, rfl, hb, hFb, hWf⟩ := (H.tr l _ _ hl).mapW
  have hm := mid_get (kvOf es) k
  have main : ∀ (es' : Array MapEntry) (clock' : Nat), WfM es' clock' → kvOf es' = mput (kvOf es) k v → Holds c ⟨sL, put l (.map (some b), .omap (mput (kvOf es) k v)) hP⟩ a { w with heap := w.heap.setIfInBounds b (.map es' clock') } := fun es' clock' hW' he => by
   have hlt := blk_lt hb
   have hch : Chg (fun x => x = b) w { w with heap := w.heap.setIfInBounds b (.map es' clock') } := ⟨rfl, rfl, rfl, by simp, fun i hi hne => by
    rw [Array.getElem?_setIfInBounds_ne (fun e => hne e.symm)]⟩
   refine ⟨F, H.change0 (fun l' => l' = l) (hch.wid fun x hx => .inl ⟨l, _, rfl, hl, (hFb x).2 hx⟩) (fun l' x hne hx' => ?_) (fun l' x b' hT' hx' hb' => ?_) (fun hmm l' u q hT' hx' => ?_) (fun l1 l2 _ _ _ h1 h2 hne => absurd (h1.trans h2.symm) hne)⟩
   · rcases lk_put hx' with ⟨e1, _⟩ | ⟨_, e1⟩
     · exact absurd e1.symm hne
     · exact ⟨e1, rfl⟩
   · subst hT'; exact .inl ⟨l', _, rfl, hl, hb'⟩
   · subst hT'
     rw [lk_put_self] at hx'
     cases hx'
     rw [← he]
     exact .omap b es' clock' (by simp [hlt]) hFb hW'
  unfold Oper.wp execOp
  cases h1 : midx (kvOf es) k with
  | none =>
    rw [h1] at hm
    cases h2 : mget (kvOf es) k with
    | some v => rw [h2] at hm; simp at hm
    | none =>
      simp [ho, hxv, hyv, huv, Instr.mapUpdate, run_underlying hT.ht, getObj, setObj, Sem.run, hb, run_checkKey hT.hk hT.hkd, run_findKey hT.hk hk, h1, h2, Oper.upon, hd, Act.put]
      exact kk _ _ (main _ _ (wf_push hWf) (kv_push h1))
  | some j =>
    rw [h1] at hm
    cases h2 : mget (kvOf es) k with
    | none => rw [h2] at hm; simp at hm
    | some v0 =>
      have hj : ∃ e0, es[j]? = some e0 ∧ keq k e0.key = true := by
       have key : ∀ (l : List MapEntry) (j : Nat), midx (l.map fun x => (x.key, x.val)) k = some j → ∃ e0, l[j]? = some e0 ∧ keq k e0.key = true := by
        intro l
        induction l with
        | nil => intro j h; simp [midx] at h
        | cons e l ih =>
          intro j h
          simp only [List.map_cons, midx] at h
          split at h
          · rename_i hk; cases h; exact ⟨e, rfl, hk⟩
          · rw [Option.map_eq_some_iff] at h
            obtain ⟨j', h1, rfl⟩ := h
            obtain ⟨e0, h3, h4⟩ := ih j' h1
            exact ⟨e0, by simpa using h3, h4⟩
       obtain ⟨e0, h3, h4⟩ := key es.toList j h1
       exact ⟨e0, by simpa using h3, h4⟩
      obtain ⟨e0, h3, h4⟩ := hj
      have hb0 : bits e0.key = true := by
       cases k <;> simp [bits] at hbits <;> (generalize e0.key = y at h4 ⊢; cases y <;> simp_all [keq, bits])
      have hsb := same_bits hb0 h4
      simp [ho, hxv, hyv, huv, Instr.mapUpdate, run_underlying hT.ht, getObj, setObj, Sem.run, hb, run_checkKey hT.hk hT.hkd, run_findKey hT.hk hk, h1, h2, h3, Instr.keyThatStays, hsb, Oper.upon, hd, Act.put]
      exact kk _ _ (main _ _ (wf_modify _ (fun _ => rfl) hWf) (kv_modify h1))
theorem s_mins {t ks e : Nat} {kd : TypeDesc} {z : Value} {x y u : Operand} {m k v : Value} {kv : List (Value × Value)} {p q r : PV} (l : Nat) (hT : MpT P t ks e kd z) (kk : aL P c ops Q rest ⟨sL, put l (m, .omap (mput kv k v)) hP⟩) (hw : wants ops sL o = some true := by exact rfl) (hd : o.dst = none := by exact rfl) (ho : o.op = .insert t x y u := by exact rfl) (hx : ev sL x = some (m, p) := by exact rfl) (hl : lk hP l = some (m, .omap kv) := by exact rfl) (hy : ev sL y = some (k, q) := by exact rfl) (hu : ev sL u = some (v, r) := by exact rfl) (hk : kok kd k kv := by first | exact kok_skv _ _ | exact kok_ikv _ _ | exact kok_nil _ _ | assumption) (hbits : bits k = true := by exact rfl) : aL P c ops Q (o :: rest) (⟨sL, hP⟩ : St) :=
 aL_mins l hw hd hT ho hx hl hy hu hk hbits kk
end
section
variable {P : Program} {ops : Array Oper} {Q : Exit → Act → World → Prop} {md : Region.Mode} {C : World → Prop} {Z : Nat → Bool}
def reachW (md : Region.Mode) (ops : Array Oper) : Nat → Nat → Nat → Bool
 | 0, _, _ => false
 | n + 1, z, i => match ops[z]? with
   | some oz => oz.after.any fun e => Region.binds md e && (e.on == i || reachW md ops n e.on i)
   | none => false
def zWaitsT (md : Region.Mode) (ops : Array Oper) (Z : Nat → Bool) (i : Nat) : Bool := (List.range ops.size).all fun z => !Z z || reachW md ops ops.size z i
def closedB (md : Region.Mode) (ops : Array Oper) (listed : Array Bool) : Bool := (List.range ops.size).all fun k => !(listed.getD k false) || (match ops[k]? with
 | some o => o.after.all fun e => !Region.binds md e || listed.getD e.on false
 | none => true)
def ClosedL (md : Region.Mode) (ops : Array Oper) (listed : Array Bool) : Prop := ∀ (k : Nat) (o : Oper), ops[k]? = some o → listed.getD k false = true → ∀ e ∈ o.after, Region.binds md e = true → listed.getD e.on false = true
theorem closedB_spec {listed : Array Bool} (h : closedB md ops listed = true) : ClosedL md ops listed := fun k o ho hk e he hb => by
 have hks : k < ops.size := by
  rcases Nat.lt_or_ge k ops.size with h' | h'
  · exact h'
  · rw [Array.getElem?_eq_none h'] at ho; cases ho
 have := List.all_eq_true.1 h k (List.mem_range.2 hks)
 rw [hk, ho] at this
 simp only [Bool.not_true, Bool.false_or] at this
 have := (Array.all_eq_true'.1 this) e he
 rw [hb] at this
 simpa using this
theorem ClosedL.reach {listed : Array Bool} (h : ClosedL md ops listed) {i : Nat} : ∀ (n z : Nat), listed.getD z false = true → reachW md ops n z i = true → listed.getD i false = true
 | 0, _, _, hr => by simp [reachW] at hr
 | n + 1, z, hz, hr => by
   rw [reachW] at hr
   split at hr
   · rename_i oz ho
     obtain ⟨e, he, hb⟩ := Array.any_eq_true'.1 hr
     simp only [Bool.and_eq_true, Bool.or_eq_true, beq_iff_eq] at hb
     have h1 := h z oz ho hz e he hb.1
     rcases hb.2 with h2 | h2
     · rw [← h2]; exact h1
     · exact ClosedL.reach h n e.on h1 h2
   · cases hr
theorem ClosedL.ready {listed : Array Bool} (h : ClosedL md ops listed) {i j n : Nat} (hj : j ∈ Region.ready md ops listed) (hr : reachW md ops n j i = true) : listed.getD i false = true := by
 obtain ⟨_, oj, hoj, hall⟩ := mem_ready.1 hj
 cases n with
 | zero => simp [reachW] at hr
 | succ n =>
   rw [reachW, hoj] at hr
   obtain ⟨e, he, hb⟩ := Array.any_eq_true'.1 hr
   simp only [Bool.and_eq_true, Bool.or_eq_true, beq_iff_eq] at hb
   have h1 := hall e he hb.1
   rcases hb.2 with h2 | h2
   · rw [← h2]; exact h1
   · exact h.reach n e.on h1 h2
theorem ClosedL.set {listed : Array Bool} (h : ClosedL md ops listed) {j : Nat} (hj : j ∈ Region.ready md ops listed) : ClosedL md ops (listed.setIfInBounds j true) := fun k o ho hk e he hb => by
 obtain ⟨_, oj, hoj, hall⟩ := mem_ready.1 hj
 by_cases hkj : k = j
 · subst hkj
   rw [hoj] at ho; cases ho
   exact getD_set_true (hall e he hb)
 · rw [getD_set_ne false (Ne.symm hkj)] at hk
   exact getD_set_true (h k o ho hk e he hb)
theorem wpAnyS_firstT {i : Nat} {oi : Oper} {v : Value} (hi : ops[i]? = some oi) (hz : zWaitsT md ops Z i = true)
 (hsel : ∀ (j : Nat) (o : Oper) cs b, ops[j]? = some o → o.op ≠ .select cs b) :
 ∀ (fuel : Nat) (listed : Array Bool) (a : Act) (w : World), ClosedL md ops listed →
  (∀ j oj, ops[j]? = some oj → j ≠ i → listed.getD j true = false → (∀ e ∈ oj.after, Region.binds md e = true → e.on ≠ i) → oi.apart ops oj = true) →
  i ∈ Region.ready md ops listed → YieldsC P ops C oi v a → C w →
  wpAnyS P md ops Q C Z fuel (listed.setIfInBounds i true) (a.put oi.dst v) w → wpAnyS P md ops Q C Z (fuel + 1) listed a w := by
 intro fuel
 induction fuel with
 | zero =>
   intro listed a w _ _ hr hy hC H
   refine ⟨fun h => (by rw [h] at hr; cases hr), fun j hj => ?_⟩
   by_cases hji : j = i
   · subst hji; exact YieldsIf.wpOp hi hy.ifS hC ⟨.inr hC, H⟩
   · have := ready_mono hj hji
     rw [H.1] at this
     cases this
 | succ fuel ih =>
   intro listed a w hcl hfree hr hy hC H
   refine ⟨fun h => (by rw [h] at hr; cases hr), fun j hj => ?_⟩
   by_cases hji : j = i
   · subst hji; exact YieldsIf.wpOp hi hy.ifS hC ⟨.inr hC, H⟩
   · have h1 := H.2 j (ready_mono hj hji)
     obtain ⟨hjun, oj, hoj, hall⟩ := mem_ready.1 hj
     have hnot : ∀ e ∈ oj.after, Region.binds md e = true → e.on ≠ i := fun e he hb heq => by
      have h1 := hall e he hb
      have h0 := (mem_ready.1 hr).1
      rw [heq] at h1
      rcases Nat.lt_or_ge i listed.size with h' | h'
      · simp [h'] at h0 h1; rw [h0] at h1; cases h1
      · simp [Array.getElem?_eq_none h'] at h1
     have hjz : Z j = false := by
      cases hZ : Z j
      · rfl
      · exfalso
        have hjs : j < ops.size := by
         rcases Nat.lt_or_ge j ops.size with h' | h'
         · exact h'
         · rw [Array.getElem?_eq_none h'] at hoj; cases hoj
        have := List.all_eq_true.1 hz j (List.mem_range.2 hjs)
        rw [hZ] at this
        simp only [Bool.not_true, Bool.false_or] at this
        have h0 := (mem_ready.1 hr).1
        have h1 := hcl.ready hj this
        rcases Nat.lt_or_ge i listed.size with h' | h'
        · simp [h'] at h0 h1; rw [h0] at h1; cases h1
        · simp [Array.getElem?_eq_none h'] at h1
     have h2 := wpOp_putIf hoj (hfree j oj hoj hji hjun hnot) (fun cs b => hsel i oi cs b hi) (fun cs b => hsel j oj cs b hoj) (fun c a w h => h) hy.ifS h1
     have hfree' : ∀ k ok, ops[k]? = some ok → k ≠ i → (listed.setIfInBounds j true).getD k true = false →
      (∀ e ∈ ok.after, Region.binds md e = true → e.on ≠ i) → oi.apart ops ok = true := fun k ok hk hki hun hno => by
      refine hfree k ok hk hki ?_ hno
      by_cases hjk : j = k
      · subst hjk; exact hjun
      · rw [getD_set_ne true hjk] at hun; exact hun
     refine wpOp_mono (fun a' w' h3 => ?_) h2
     obtain ⟨hy', hor, hK⟩ := h3
     have hC' : C w' := by
      rcases hor with h | h
      · rw [hjz] at h; cases h
      · exact h
     refine ⟨.inr hC', ih (listed.setIfInBounds j true) a' w' (hcl.set hj) hfree' (ready_mono hr (Ne.symm hji)) hy' hC' ?_⟩
     rw [Array.setIfInBounds_comm _ _ hji]
     exact hK
end
section
variable {P : Program} {c : Ctx} {ops : Array Oper} {Q : Exit → Act → World → Prop} {Z : Nat → Bool} {K : List Nat} {fuel : Nat} {listed : Array Bool} {sL hP : List (Nat × Ent)} {o : Oper}
theorem aD_yT {V : Value → Prop} {p : PV} (i d : Nat) (ho : ops[i]? = some o) (hck : (Region.noSelect ops && (Region.ready .any ops listed).contains i && Region.free .any ops listed i && zWaitsT .any ops Z i && closedB .any ops listed) = true) (hw : wants ops sL o = some true) (hd : o.dst = some d) (hn : d < c.nt) (hy : YE P ⟨sL, onlyK K hP⟩ o V p)
 (k : ∀ v, V v → aD P c ops Q Z K fuel (listed.setIfInBounds i true) ⟨put d (v, p) sL, hP⟩) : aD P c ops Q Z K (fuel + 1) listed (⟨sL, hP⟩ : St) := fun a w F H C hC => by
 simp only [Bool.and_eq_true] at hck
 obtain ⟨⟨⟨⟨hs, hr⟩, hf⟩, hz⟩, hcl⟩ := hck
 obtain ⟨v, hV, hS, hrun⟩ := hy _ F a w (H.rdK K)
 refine wpAnyS_class hC _ _ _ _ ?_
 refine wpAnyS_firstT ho hz (Region.noSelect_spec hs) _ listed a w (closedB_spec hcl) (Region.free_spec ho hf) (by simpa using hr) (v := v) (.inl ⟨wanted_of H.rd hw, fun W hW => ?_⟩) (Chg.rfl' _ _) ?_
 · exact hrun _ W hW (fun b ⟨l, x, _, h1, h2⟩ => .inr ⟨l, x, h1, h2⟩) (fun l x b hl hFb ⟨l', x', h1, h2, h3⟩ => by
    obtain ⟨h4, h5⟩ := lk_onlyK.1 hl
    exact H.dj l l' _ _ b (fun e => by rw [e, h1] at h4; cases h4) h5 h2 hFb h3)
 · rw [hd]
   exact k v hV _ w F (H.put hn hS) _ (fun W h => h)
theorem aD_xT {v : Value} {p : PV} (i d : Nat) (ho : ops[i]? = some o) (hck : (Region.noSelect ops && (Region.ready .any ops listed).contains i && Region.free .any ops listed i && zWaitsT .any ops Z i && closedB .any ops listed) = true) (hw : wants ops sL o = some true) (hd : o.dst = some d) (hn : d < c.nt) (hy : YE P ⟨sL, onlyK K hP⟩ o (· = v) p)
 (k : aD P c ops Q Z K fuel (listed.setIfInBounds i true) ⟨put d (v, p) sL, hP⟩) : aD P c ops Q Z K (fuel + 1) listed (⟨sL, hP⟩ : St) := aD_yT i d ho hck hw hd hn hy fun u hu => by cases hu; exact k
theorem xDT {v : Value} {p : PV} (i : Nat) (d : Nat) (ho : ops[i]? = some o) (hy : YE P ⟨sL, onlyK K hP⟩ o (· = v) p) (k : aD P c ops Q Z K fuel (listed.setIfInBounds i true) ⟨put d (v, p) sL, hP⟩) (hck : (Region.noSelect ops && (Region.ready .any ops listed).contains i && Region.free .any ops listed i && zWaitsT .any ops Z i && closedB .any ops listed) = true := by kernel_rfl) (hw : wants ops sL o = some true := by exact rfl) (hd : o.dst = some d := by exact rfl) (hn : d < c.nt := by exact Nat.le_of_ble_eq_true rfl) : aD P c ops Q Z K (fuel + 1) listed (⟨sL, hP⟩ : St) :=
 aD_xT i d ho hck hw hd hn hy k
theorem yDT {V : Value → Prop} {p : PV} (i : Nat) (d : Nat) (ho : ops[i]? = some o) (hy : YE P ⟨sL, onlyK K hP⟩ o V p) (k : ∀ v, V v → aD P c ops Q Z K fuel (listed.setIfInBounds i true) ⟨put d (v, p) sL, hP⟩) (hck : (Region.noSelect ops && (Region.ready .any ops listed).contains i && Region.free .any ops listed i && zWaitsT .any ops Z i && closedB .any ops listed) = true := by kernel_rfl) (hw : wants ops sL o = some true := by exact rfl) (hd : o.dst = some d := by exact rfl) (hn : d < c.nt := by exact Nat.le_of_ble_eq_true rfl) : aD P c ops Q Z K (fuel + 1) listed (⟨sL, hP⟩ : St) :=
 aD_yT i d ho hck hw hd hn hy k
end
def aDZ (P : Program) (c : Ctx) (ops : Array Oper) (Q : Exit → Act → World → Prop) (Z : Nat → Bool) (fuel : Nat) (listed : Array Bool) (st : St) : Prop :=
 ∀ a w F, HoldsF c st F a w → ∀ C : World → Prop, wpAnyS P .any ops Q C Z fuel listed a w
section
variable {P : Program} {c : Ctx} {ops : Array Oper} {Q : Exit → Act → World → Prop} {Z : Nat → Bool} {K : List Nat} {fuel : Nat} {listed : Array Bool} {sL hP : List (Nat × Ent)} {o : Oper}
theorem aW_thenZ {i : Nat} (ho : ops[i]? = some o) (hZ : Z i = true) (h : ∀ DQ : Exit → Act → World → Prop, (∀ st' : St, aDZ P c ops Q Z fuel (listed.setIfInBounds i true) st' → aN c DQ st') → aL P c ops DQ [o] (⟨sL, hP⟩ : St)) : aW P c ops Q Z K fuel listed (⟨sL, hP⟩ : St) i := fun a w F H C hC => by
 refine wpOp_of_list (Q' := fun _ a' w' => (Z i = true ∨ C w') ∧ wpAnyS P .any ops Q C Z fuel (listed.setIfInBounds i true) a' w') ho (fun a' w' hq => hq) ?_
 exact h _ (fun st' hN a' w' ⟨F', H'⟩ => ⟨.inl hZ, hN a' w' F' H' C⟩) a w ⟨F, H⟩
theorem aDZ_one (i : Nat) (hr : Region.ready .any ops listed = [i]) (ho : ops[i]? = some o) (hZ : Z i = true) (h : ∀ DQ : Exit → Act → World → Prop, (∀ st' : St, aDZ P c ops Q Z fuel (listed.setIfInBounds i true) st' → aN c DQ st') → aL P c ops DQ [o] (⟨sL, hP⟩ : St)) : aDZ P c ops Q Z (fuel + 1) listed (⟨sL, hP⟩ : St) := fun a w F H C =>
 ⟨(fun hn => by rw [hr] at hn; cases hn), fun j hj => by
   rw [hr] at hj
   obtain rfl : j = i := by simpa using hj
   refine wpOp_of_list (Q' := fun _ a' w' => (Z j = true ∨ C w') ∧ wpAnyS P .any ops Q C Z fuel (listed.setIfInBounds j true) a' w') ho (fun a' w' hq => hq) ?_
   exact h _ (fun st' hN a' w' ⟨F', H'⟩ => ⟨.inl hZ, hN a' w' F' H' C⟩) a w ⟨F, H⟩⟩
theorem aDZ_end (hr : Region.ready .any ops listed = []) (h : aN c Q (⟨sL, hP⟩ : St)) : aDZ P c ops Q Z fuel listed (⟨sL, hP⟩ : St) := fun a w F H C => by
 cases fuel with
 | zero => exact ⟨hr, h a w ⟨F, H⟩⟩
 | succ n => exact ⟨fun _ => h a w ⟨F, H⟩, fun i hi => by rw [hr] at hi; cases hi⟩
end
end Go.En
namespace Go.Proofs.YtgigclnaicbiaaaGreatDoor
open Go.RowKit Go.Cb Go.En
set_option linter.all false
set_option maxRecDepth 100000
theorem tEl154_LfA : ElT Tryz.prog 154 5 1 1 (.int .u8 0) := ⟨Tryz.underlying154, by kernel_rfl, rfl, by decide⟩
theorem keyL_snoc {l : List Int} {k : Nat} {x : Int} (h : l[k]? = some x) : keyL (l.take (k + 1)) = keyL (l.take k) ++ Lib.itoa x ++ [32] := by
 unfold keyL; rw [take_snoc h, List.flatMap_append]; simp
theorem nDig_le : ∀ (k u : Nat), u < 10 ^ (k + 1) → Lib.nDigits u ≤ k + 1
 | 0, u, h => by rw [Lib.nDigits_small (by simpa using h)]; omega
 | k + 1, u, h => by
   by_cases h1 : u < 10
   · rw [Lib.nDigits_small h1]; omega
   · rw [Lib.nDigits_big h1]
     have := nDig_le k (u / 10) (by rw [Nat.pow_succ] at h; omega)
     omega
theorem itoa_len {x : Int} (h0 : 0 ≤ x) (h1 : x ≤ 1000000) : (Lib.itoa x).length ≤ 21 := by
 unfold Lib.itoa
 rw [if_neg (by omega), Lib.decDigits_length]
 have := nDig_le 6 x.toNat (by omega)
 omega
theorem keyL_len : ∀ {l : List Int}, (∀ x ∈ l, 0 ≤ x ∧ x ≤ 1000000) → (keyL l).length ≤ l.length * 22
 | [], _ => Nat.le_refl _
 | x :: l, h => by
   have h1 := keyL_len fun y hy => h y (List.mem_cons_of_mem _ hy)
   have hx := h x (List.mem_cons_self ..)
   have h2 := itoa_len hx.1 hx.2
   have : keyL (x :: l) = Lib.itoa x ++ [32] ++ keyL l := rfl
   rw [this, List.length_append, List.length_append]
   simp only [List.length_cons, List.length_nil]
   omega
theorem key_step (e : Nat) {l : List Int} {k : Nat} {x : Int} (h : l[k]? = some x) : PV.own e 1 ((keyL (l.take k)).length + (Lib.itoa x).length + 1) ((keyL (l.take k) ++ Lib.itoa x).map pByte ++ [PV.val (.int .u8 32)]) = .own e 1 (keyL (l.take (k + 1))).length ((keyL (l.take (k + 1))).map pByte) := by
 rw [keyL_snoc h]
 simp only [List.map_append, List.length_append, List.length_cons, List.length_nil, Nat.zero_add, List.map_cons, List.map_nil]
 rfl
theorem tab_num : Tryz.prog.globalNamed "internal/strconv.uint64pow10" = tabG := by kernel_rfl
theorem appInt_cD : AppIntC Tryz.prog 136 5 := fun B n i h0 h1 sv xs w hown hBw hlim htab => Tryz.strconv_AppendInt_10 B n i h0 h1 sv xs w hown hBw hlim htab
theorem aKey_e (l : List Int) (hl : l.length ≤ 1000000) (h0 : ∀ x ∈ l, 0 ≤ x ∧ x ≤ 1000000) : AF Tryz.prog 121 [pInts l] (· = .val (.string (keyB l))) := by
 refine AFd.of_bodyS 20 Tryz.func121 rfl Tryz.ntmps121 (Nat.le_of_ble_eq_true rfl) ?_
 intro w0 M0 vs hl hv hS
 obtain ⟨v0, rfl⟩ := len1 hl
 clear hl hv
 have hs0 := hS 0 v0 _ rfl rfl
 clear hS
 refine nav ?_
 (refine aC_region ?_ <;> refine xL 2 q_assign ?_ <;> refine aL_end (nav ?_) <;> try dsimp only)
 (refine aC_region ?_ <;> refine xL 3 q_assign ?_ <;> refine aL_end (nav ?_) <;> try dsimp only)
 refine aC_ent (nilOwn 200 5 1 rfl) fun _ => ?_
 (refine aC_region ?_ <;> refine xL 6 q_move ?_ <;> refine xL 7 (q_len tSl22_LbB) ?_ <;> refine xL 8 q_move ?_ <;> refine aL_end (nav ?_) <;> try dsimp only)
 refine aC_loop (ι := { q : Nat × Value // q.1 ≤ l.length ∧ q.2.oneCell' = true }) (fun k => ⟨[(6, _, _), (7, _, _), (3, k.1.2, .val k.1.2), (8, .int .i64 k.1.1, pInt k.1.1)], [(200, k.1.2, .own 5 1 (keyL (l.take k.1.1)).length ((keyL (l.take k.1.1)).map pByte))]⟩) (fun k => l.length - k.1.1) ⟨(0, .slice none 0 0), Nat.zero_le _, rfl⟩ (fun a w H => H.weaken ⟨rfl, rfl, rfl, rfl, trivial⟩ ⟨rfl, trivial⟩) ?_
 rintro ⟨⟨k, r⟩, hk, hr⟩
 dsimp only
 dsimp only at hk hr
 have hkl := keyL_len (l := l.take k) (fun x hx => h0 x (List.mem_of_mem_take hx))
 rw [List.length_take] at hkl
 refine nav ?_
 (refine aC_region ?_ <;> refine xL 9 q_lss ?_ <;> refine aL_end (nav ?_) <;> try dsimp only)
 (first | refine cCd ?_ ?_ | refine cC ?_ ?_) <;> intro hb9
 · first
   | exact Bool.noConfusion hb9
   | (
    obtain ⟨x, hx⟩ := get_some (show k < l.length by omega)
    have e1 := map_at (f := pInt) hx
    have hx0 := h0 x (List.mem_of_getElem? hx)
    have hil := itoa_len hx0.1 hx0.2
    refine nav ?_
    (refine aC_region ?_ <;> refine xL 10 (q_idxN tSl22_LbB) ?_ <;> (refine yL 11 (q_ld tNa3_LbB) fun v11 hv11 => ?_; cases hv11) <;> refine xL 5 q_assign ?_ <;> refine aL_end (nav ?_) <;> try dsimp only)
    (refine aC_region ?_ <;> refine xL 12 q_move ?_ <;> refine xL 13 q_move ?_ <;> refine s_appInt (i := x) (bs := keyL (l.take k)) (n := (keyL (l.take k)).length) 200 14 [6, 7, 8] appInt_cD (Tryz.call136) (fun _ h => h) (fun h => h) tab_num rfl ⟨hs0, .val _, .val _, trivial⟩ (by omega) (by omega) (by omega) fun h14 ho14 => ?_ <;> refine s_lit1 (kk := 1) 15 tEl154_LfA fun h15 ho15 => ?_ <;> (refine s_app 14 15 16 tEl154_LfA fun h16 ho16 => ?_; refine aL_ent (relabel (l := 16) 200 rfl rfl) fun _ => ?_; refine aL_ent (recast (l := 200) rfl (key_step _ hx)) fun _ => ?_) <;> refine xL 3 q_assign ?_ <;> refine aL_end (nav ?_) <;> try dsimp only)
    (refine aC_region ?_ <;> refine xL 17 q_add ?_ <;> refine xL 8 q_move ?_ <;> refine aL_end (nav ?_) <;> try dsimp only)
    refine aN_again (
     ⟨(k + 1, h16), lt_of_get hx, ho16⟩
     ) (by dsimp only; omega) ⟨rfl, rfl, rfl, rfl, trivial⟩ ⟨rfl, trivial⟩)
 · first
   | exact Bool.noConfusion hb9
   | (
    refine nav ?_
    (refine aC_region ?_ <;> refine xL 18 q_move ?_ <;> refine xL 19 (q_bstr 200 Tryz.underlying154 Tryz.underlying5 Tryz.underlying9) ?_ <;> refine xL 2 q_assign ?_ <;> refine aL_end (nav ?_) <;> try dsimp only)
    refine ret_shr (Tryz.results121) rfl ?_
    rw [List.take_of_length_le (by omega)]; rfl)
theorem tAgg93_LfB : AggT Tryz.prog 93 3 = true := by kernel_rfl
theorem tFl93_1_LfB : FldT Tryz.prog 93 1 1 = true := by kernel_rfl
theorem tFl93_2_LfB : FldT Tryz.prog 93 2 2 = true := by kernel_rfl
theorem tMp135_LfB : MpT Tryz.prog 135 9 3 .string (.int .i64 0) := ⟨Tryz.underlying135, Tryz.underlying9, .inl rfl, by show ZeroT _ _ _; unfold ZeroT; kernel_rfl⟩
theorem tNa28_LfB : NoAgg Tryz.prog 28 = true := by kernel_rfl
theorem tSt93_LfB : stInfo Tryz.prog 93 = some ((.agg #[(.int .i64 0), (.slice none 0 0), (.slice none 0 0)]), ([0, 1, 2] : List Nat).map fun o => (o, 1)) := by kernel_rfl
theorem tSz28_LfB : (Tryz.prog.info? 28).map (·.size) = some 1 := by kernel_rfl
theorem tSz66_LfB : (Tryz.prog.info? 66).map (·.size) = some 1 := by kernel_rfl
theorem tZr93_LfB : ZeroT Tryz.prog 93 (.agg #[(.int .i64 0), (.slice none 0 0), (.slice none 0 0)]) := by unfold ZeroT; kernel_rfl
def pNats (r : List Nat) : PV := pInts (toI r)
def rowAt (r : List Nat) (j : Nat) : Int := ((r[j]?).getD 0 : Nat)
theorem rowAt_nil (m : Nat) : vec m (fun j => pInt (rowAt [] j)) = List.replicate m (PV.val (.int .i64 0)) := by rw [vec_const]; rfl
theorem rowAt_set {m : Nat} {r : List Nat} (n : Nat) (h : r.length < m) : (vec m fun j => pInt (rowAt r j)).set (r.length * 1) (pInt (n : Nat)) = vec m fun j => pInt (rowAt (r ++ [n]) j) := by
 rw [Nat.mul_one, vec_set]
 refine vec_congr fun i hi => ?_
 unfold rowAt
 by_cases e : i = r.length
 · subst e; rw [if_pos rfl]; simp
 · rw [if_neg e, List.getElem?_append]
   split
   · rfl
   · rw [List.getElem?_eq_none (by omega), List.getElem?_eq_none (by simp; omega)]
theorem rowAt_full (r : List Nat) : (vec r.length fun j => pInt (rowAt r j)) = (toI r).map pInt := by
 symm
 refine vec_ext (by simp [toI]) fun i x hx => ?_
 unfold toI at hx
 rw [List.map_map, List.getElem?_map, Option.map_eq_some_iff] at hx
 obtain ⟨y, hy, rfl⟩ := hx
 unfold rowAt; rw [hy]; rfl
theorem share_row (e m : Nat) (r : List Nat) (h : r.length = m) : share (.own e 1 m (vec m fun j => pInt (rowAt r j))) = pNats r := by
 subst h
 rw [rowAt_full, share_ints _ _ _ (by simp [toI])]; rfl
theorem snoc_nats (e : Nat) (L : List (List Nat)) (x : List Nat) : PV.own e 1 (L.length + 1) (L.map pNats ++ [pNats x]) = .own e 1 (L ++ [x]).length ((L ++ [x]).map pNats) := by simp
theorem snoc_bools (e : Nat) (L : List Bool) (x : Bool) : PV.own e 1 (L.length + 1) (L.map pBool ++ [pBool x]) = .own e 1 (L ++ [x]).length ((L ++ [x]).map pBool) := by simp
theorem share_natss (e n : Nat) (l : List (List Nat)) (hn : n = l.length) : share (.own e 1 n (l.map pNats)) = .sl l.length (l.map pNats) := by
 subst hn
 rw [share, shares_eq, List.map_map]
 congr 1
theorem share_boolss (e n : Nat) (l : List Bool) (hn : n = l.length) : share (.own e 1 n (l.map pBool)) = .sl l.length (l.map pBool) := by
 subst hn
 rw [share, shares_eq, List.map_map]; rfl
def pTab (t : Tab) : PV := .agg [pInt (t.m : Nat), .sl t.rows.length (t.rows.map pNats), .sl t.fin.length (t.fin.map pBool)]
def RSub (a : Aut) (p : PV) : Prop := (∃ t, subT a = some t ∧ p = .tup [pTab t, pBool true]) ∨ (subT a = none ∧ ∃ u1 u2 u3 : Value, u1.oneCell' = true ∧ u2.oneCell' = true ∧ u3.oneCell' = true ∧ p = .tup [.agg [.val u1, .val u2, .val u3], pBool false])
section
variable {α : Type}
def numAt (f : α → ByteArray) (o : List α) (x : α) : Nat := if posK f o (f x) < o.length then posK f o (f x) else 0
theorem num_look (f : α → ByteArray) (o : List α) (x : α) : (mget (skv (numE f 0 o)) (.string (f x))).getD (.int .i64 0) = .int .i64 (numAt f o x : Nat) ∧ (mget (skv (numE f 0 o)) (.string (f x))).isSome = decide (posK f o (f x) < o.length) := by
 rw [mget_skv, numE_get]
 unfold numAt
 by_cases h : posK f o (f x) < o.length
 · rw [if_pos h, if_pos h, decide_eq_true h, Nat.zero_add]; exact ⟨rfl, rfl⟩
 · rw [if_neg h, if_neg h, decide_eq_false h]; exact ⟨rfl, rfl⟩
end
section
variable {α : Type} {P : Program} {sL hP : List (Nat × Ent)} {o : Oper}
theorem q_num2 {t ks e : Nat} {kd : TypeDesc} {z : Value} {x y : Operand} {m : Value} {f : α → ByteArray} {L : List α} {a : α} {p q : PV} (l : Nat) (hT : MpT P t ks e kd z) (hz : z = .int .i64 0) (hkd : kd = .string) (ho : o.op = .lookup t x y true := by exact rfl) (hx : ev sL x = some (m, p) := by exact rfl) (hl : lk hP l = some (m, .omap (skv (numE f 0 L))) := by exact rfl) (hy : ev sL y = some (.string (f a), q) := by exact rfl) :
 YE P (⟨sL, hP⟩ : St) o (· = .tuple [.int .i64 (numAt f L a : Nat), .bool (decide (posK f L (f a) < L.length))].toArray) (.tup [.val (.int .i64 (numAt f L a : Nat)), .val (.bool (decide (posK f L (f a) < L.length)))]) := by
 subst hz hkd
 have h := q_looko2 (sL := sL) (hP := hP) (o := o) l hT ho hx hl hy (kok_skv _ _)
 rw [(num_look f L a).1, (num_look f L a).2] at h
 exact h
end
theorem key_id {o : List (List Int)} {x : List Int} (h : ∀ l ∈ o, ∀ s ∈ l, 0 ≤ s) (hx : ∀ s ∈ x, 0 ≤ s) : posK keyB o (keyB x) = posK id o x := posK_inj fun l hl => keyB_inj (h l hl) hx
theorem num_put0 (x : List Int) : mput [] (.string (keyB x)) (.int .i64 0) = skv (numE keyB 0 [x]) := rfl
theorem num_putN {α : Type} {f : α → ByteArray} {o : List α} {x : α} (h : ¬ posK f o (f x) < o.length) : mput (skv (numE f 0 o)) (.string (f x)) (.int .i64 (o.length : Nat)) = skv (numE f 0 (o ++ [x])) := by
 have := numE_put f x o 0 h
 rw [Nat.zero_add] at this
 rw [mput_skv, this]
theorem SetOk.nn {a : Aut} {l : List Int} (h : SetOk a l) : ∀ s ∈ l, 0 ≤ s := fun s hs => (h.1 s hs).1
theorem SetOk.bd {a : Aut} (ha : AOk a) {l : List Int} (h : SetOk a l) : ∀ s ∈ l, 0 ≤ s ∧ s ≤ 1000000 := fun s hs => by have := h.1 s hs; have := ha.n1; omega
set_option maxHeartbeats 4000000 in
theorem aSubsets_e (a : Aut) (h : AOk a) : AF Tryz.prog 114 [pAut a] (RSub a) := by
 have hn1 := h.n1
 have hs0 := h.s0
 have hs1 := h.s1
 have hsN : ((a.syms.toNat : Nat) : Int) = a.syms := by omega
 have hst := set_start h
 refine AF.of_body 96 Tryz.func114 rfl Tryz.ntmps114 (Nat.le_of_ble_eq_true rfl) ?_
 intro w0 M0 vs hl hv
 obtain ⟨v0, rfl⟩ := len1 hl
 clear hl hv
 refine nav ?_
 (refine aC_region ?_ <;> refine s_boxa 1 5 fun h1 => ?_ <;> refine s_alloc [(.int .i64 0), (.slice none 0 0), (.slice none 0 0)] 3 2 tZr93_LfB fun h2 => ?_ <;> refine xL 3 q_assign ?_ <;> refine aL_end (nav ?_) <;> try dsimp only)
 (refine aC_region ?_ <;> (refine yL 14 (q_ldao 1 tAgg25_LdS) fun v14 hv14 => ?_; cases hv14) <;> (refine cS 15 (cA Tryz.call58 (aGraphOf_e a h)) fun v15 hv15 => ?_; cases hv15) <;> refine xL 4 q_assign ?_ <;> refine aL_end (nav ?_) <;> try dsimp only)
 (refine aC_region ?_ <;> refine xL 16 (q_fldo 1 tFl25_1_LdI) ?_ <;> (refine yL 17 (q_ldo 1 tNa3_LbB) fun v17 hv17 => ?_; cases hv17) <;> refine xL 18 (q_build tSt93_LfB) ?_ <;> refine s_alloc [(.int .i64 0), (.slice none 0 0), (.slice none 0 0)] 3 5 tZr93_LfB fun h5 => ?_ <;> refine s_sta 5 tAgg93_LfB ?_ <;> refine aL_end (nav ?_) <;> try dsimp only)
 refine aC_ent (nilCells (l := 5) [pInt a.syms, .own 22 1 0 [], .own 4 1 0 []] rfl rfl (fun i p p' h1 h2 => by
  match i with
  | 0 => cases h1; cases h2; exact .inl rfl
  | 1 => cases h1; cases h2; exact .inr ⟨rfl, _, _, rfl⟩
  | 2 => cases h1; cases h2; exact .inr ⟨rfl, _, _, rfl⟩
  | i + 3 => simp at h2)) fun _ => ?_
 refine aC_ent (focusO (l := 5) (l' := 301) (j := 1) rfl rfl rfl rfl) fun i => ?_
 obtain ⟨v301, ho301⟩ := i
 refine aC_ent (focusO (l := 5) (l' := 302) (j := 2) rfl rfl rfl rfl) fun i => ?_
 obtain ⟨v302, ho302⟩ := i
 dsimp only [List.set]
 (refine aC_region ?_ <;> refine xL 19 q_move ?_ <;> refine xL 20 (q_fldo 1 tFl25_2_LdI) ?_ <;> (refine yL 21 (q_ldo 1 tNa22_LdI) fun v21 hv21 => ?_; cases hv21) <;> (refine cO 22 (cA Tryz.call61 (aClosure_e a a.start hn1 h.mi h.st)) fun v22 ho22 => ?_; refine aL_ent (En.freeze (l := 22) (t := 22) rfl rfl) fun _ => ?_; rw [share_ints _ _ _ rfl]) <;> refine s_lit1 (kk := 1) 23 tEl28_LdS fun h23 ho23 => ?_ <;> refine xL 6 q_assign ?_ <;> refine aL_end (nav ?_) <;> try dsimp only)
 refine aC_ent (relabel (l := 23) 303 rfl rfl) fun _ => ?_
 obtain ⟨x0, hx0⟩ : ∃ x0, x0 = closL a a.start := ⟨_, rfl⟩
 rw [← hx0] at hst ⊢
 have hst2 := hst.len h
 (refine aC_region ?_ <;> refine s_mkmap 24 fun h24 ho24 => ?_ <;> refine xL 25 q_move ?_ <;> refine xL 26 (q_idxoN (i := 0) 303 tSl28_LdS) ?_ <;> (refine yL 27 (q_ldo 303 tNa22_LdI) fun v27 hv27 => ?_; cases hv27) <;> (refine cS 28 (cA Tryz.call121 (aKey_e x0 (by omega) (hst.bd h))) fun v28 hv28 => ?_; cases hv28) <;> (refine s_mins 24 tMp135_LfB ?_; rw [num_put0]) <;> refine xL 29 q_move ?_ <;> refine xL 7 q_assign ?_ <;> refine aL_end (nav ?_) <;> try dsimp only)
 refine aC_ent (relabel (l := 24) 304 rfl rfl) fun _ => ?_
 (refine aC_region ?_ <;> refine xL 8 q_assign ?_ <;> refine aL_end (nav ?_) <;> try dsimp only)
 refine aC_loop (ι := { q : Nat × Value × Value × Value × List (List Int) × List (List Nat) // (subW a).upto x0 q.1 = some (q.2.2.2.2.1, q.2.2.2.2.2) ∧ q.1 ≤ q.2.2.2.2.1.length ∧ q.2.1.oneCell' = true ∧ q.2.2.1.oneCell' = true ∧ q.2.2.2.1.oneCell' = true }) (fun k => ⟨[(1, _, _), (2, _, _), (3, _, _), (4, _, _), (5, _, _), (7, _, _), (6, k.1.2.2.2.1, .val k.1.2.2.2.1), (8, .int .i64 k.1.1, pInt k.1.1)], [(1, _, _), (2, _, _), (304, h24, .omap (skv (numE keyB 0 k.1.2.2.2.2.1))), (5, h5, .own 93 3 1 [pInt a.syms, .val k.1.2.1, .val k.1.2.2.1]), (301, k.1.2.1, .own 22 1 k.1.2.2.2.2.2.length (k.1.2.2.2.2.2.map pNats)), (302, k.1.2.2.1, .own 4 1 ((k.1.2.2.2.2.1.take k.1.1).map (accB a)).length (((k.1.2.2.2.2.1.take k.1.1).map (accB a)).map pBool)), (303, k.1.2.2.2.1, .own 22 1 k.1.2.2.2.2.1.length (k.1.2.2.2.2.1.map pInts))]⟩) (fun k => 2000 - k.1.1) ⟨(0, v301, v302, h23, [x0], []), rfl, Nat.zero_le _, ho301, ho302, ho23⟩ (fun a w H => H.weaken ⟨rfl, rfl, rfl, rfl, rfl, rfl, rfl, rfl, trivial⟩ ⟨rfl, rfl, rfl, rfl, rfl, rfl, rfl, trivial⟩) ?_
 rintro ⟨⟨i, r1, r2, r3, o, rows⟩, hU, hi, hr1, hr2, hr3⟩
 dsimp only
 dsimp only at hU hi hr1 hr2 hr3
 have hU' := hU
 rw [hx0] at hU'
 obtain ⟨hOk, hRl, _⟩ := sub_ok h hU'
 have hRl := hRl hi
 have hcap : o.length ≤ 2000 := hOk.cap
 have hOp := hOk.p
 have hone1 : En.one (PV.val r1) = true := hr1
 have hone2 : En.one (PV.val r2) = true := hr2
 have hfl : ((o.take i).map (accB a)).length ≤ 2000 := by rw [List.length_map, List.length_take]; omega
 refine nav ?_
 (refine aC_region ?_ <;> refine xL 30 q_move ?_ <;> refine xL 31 q_move ?_ <;> refine xL 32 (q_leno 303 tSl28_LdS) ?_ <;> refine xL 33 q_lss ?_ <;> refine aL_end (nav ?_) <;> try dsimp only)
 (first | refine cCd ?_ ?_ | refine cC ?_ ?_) <;> intro hb33
 · first
   | exact Bool.noConfusion hb33
   | (
    obtain ⟨x, hx⟩ := get_some (show i < o.length by omega)
    have hxs := hOp x (List.mem_of_getElem? hx)
    have hxl := hxs.len h
    refine nav ?_
    (refine aC_region ?_ <;> refine xL 36 (q_fldo 1 tFl25_1_LdI) ?_ <;> (refine yL 37 (q_ldo 1 tNa3_LbB) fun v37 hv37 => ?_; cases hv37) <;> (refine s_make (n := a.syms.toNat) 38 tEl22_LdI (fun h38 ho38 => ?_) (hx := by rw [hsN]; exact rfl) (hy := by rw [hsN]; exact rfl) (hb := by omega)) <;> refine xL 9 q_assign ?_ <;> refine aL_end (nav ?_) <;> try dsimp only)
    rw [← rowAt_nil]
    (refine aC_region ?_ <;> refine xL 39 q_move ?_ <;> refine xL 40 (q_leno 38 tSl22_LbB) ?_ <;> refine xL 41 q_move ?_ <;> refine aL_end (nav ?_) <;> try dsimp only)
    refine aC_loop (ι := { q : Nat × Value × List (List Int) × List Nat // (subW a).row i x o q.1 = some (q.2.2.1, q.2.2.2) ∧ q.1 ≤ a.syms.toNat ∧ q.2.1.oneCell' = true }) (fun k => ⟨[(1, _, _), (2, _, _), (3, _, _), (4, _, _), (5, _, _), (7, _, _), (8, _, _), (9, _, _), (40, _, _), (6, k.1.2.1, .val k.1.2.1), (41, .int .i64 k.1.1, pInt k.1.1)], [(1, _, _), (2, _, _), (5, _, _), (301, _, _), (302, _, _), (303, k.1.2.1, .own 22 1 k.1.2.2.1.length (k.1.2.2.1.map pInts)), (304, h24, .omap (skv (numE keyB 0 k.1.2.2.1))), (38, h38, .own 3 1 a.syms.toNat (vec a.syms.toNat fun j => pInt (rowAt k.1.2.2.2 j)))]⟩) (fun k => a.syms.toNat - k.1.1) ⟨(0, r3, o, []), rfl, Nat.zero_le _, hr3⟩ (fun a w H => H.weaken ⟨rfl, rfl, rfl, rfl, rfl, rfl, rfl, rfl, rfl, rfl, rfl, trivial⟩ ⟨rfl, rfl, rfl, rfl, rfl, rfl, rfl, rfl, trivial⟩) ?_
    rintro ⟨⟨s, r3', o', r⟩, hW, hs, hr3'⟩
    dsimp only
    dsimp only at hW hs hr3'
    obtain ⟨hMt, hpr, hrl, _⟩ := hOk.toMet.row (fun s _ => set_next h s x) (show s ≤ (subW a).m from hs) hW
    have hcap' : o'.length ≤ 2000 := hMt.cap
    have hx' := preG_get hpr hx
    have hil := lt_of_get hx'
    refine nav ?_
    (refine aC_region ?_ <;> refine xL 42 q_lss ?_ <;> refine aL_end (nav ?_) <;> try dsimp only)
    (first | refine cCd ?_ ?_ | refine cC ?_ ?_) <;> intro hb42
    · first
      | exact Bool.noConfusion hb42
      | (
       have hset := set_next h (s : Nat) x
       obtain ⟨set, hse⟩ : ∃ set, set = nextL a (s : Nat) x := ⟨_, rfl⟩
       rw [← hse] at hset
       have hsl := hset.len h
       have hkid := key_id (fun l hl => (hMt.p l hl).nn) hset.nn
       have e1 := map_at (f := pInts) hx'
       have e2 := vec_len a.syms.toNat (fun j => pInt (rowAt r j))
       refine nav ?_
       (refine aC_region ?_ <;> refine xL 43 q_move ?_ <;> refine xL 10 q_assign ?_ <;> refine aL_end (nav ?_) <;> try dsimp only)
       (refine aC_region ?_ <;> refine xL 44 q_move ?_ <;> refine xL 45 q_move ?_ <;> refine xL 46 q_move ?_ <;> refine xL 47 (q_idxoN 303 tSl28_LdS) ?_ <;> (refine yL 48 (q_ldo 303 tNa22_LdI) fun v48 hv48 => ?_; cases hv48) <;> refine xL 49 q_move ?_ <;> (refine cO 50 (cA Tryz.call63 (aNext_e a x s hn1 h.ml h.mi hxs.1 hxl)) fun v50 ho50 => ?_; refine aL_ent (En.freeze (l := 50) (t := 50) rfl rfl) fun _ => ?_; rw [share_ints _ _ _ rfl, ← hse]) <;> refine xL 11 q_assign ?_ <;> refine aL_end (nav ?_) <;> try dsimp only)
       (refine aC_region ?_ <;> refine xL 52 q_move ?_ <;> refine xL 53 q_move ?_ <;> (refine cS 54 (cA Tryz.call121 (aKey_e set (by omega) (hset.bd h))) fun v54 hv54 => ?_; cases hv54) <;> refine xL 55 (q_num2 (f := keyB) (L := o') (a := set) 304 tMp135_LfB rfl rfl) ?_ <;> refine xL 51 q_move ?_ <;> refine xL 56 q_extract ?_ <;> refine xL 57 q_extract ?_ <;> refine xL 12 q_assign ?_ <;> refine xL 13 q_assign ?_ <;> refine aL_end (nav ?_) <;> try dsimp only)
       (refine aC_region ?_ <;> refine xL 58 q_move ?_ <;> refine xL 59 q_not ?_ <;> refine aL_end (nav ?_) <;> try dsimp only)
       (first | refine cCd ?_ ?_ | refine cC ?_ ?_) <;> intro hb59
       · first
         | exact Bool.noConfusion hb59
         | (
          have hnew : ¬ posK keyB o' (keyB set) < o'.length := by simpa using hb59
          have hnew2 : ¬ posK (subW a).key o' ((subW a).key ((subW a).step i x s)) < o'.length := by
           show ¬ posK id o' (nextL a (s : Nat) x) < o'.length
           rw [← hse, ← hkid]; exact hnew
          refine nav ?_
          (refine aC_region ?_ <;> refine xL 60 q_move ?_ <;> refine xL 61 (q_leno 303 tSl28_LdS) ?_ <;> refine xL 12 q_assign ?_ <;> refine aL_end (nav ?_) <;> try dsimp only)
          (refine aC_region ?_ <;> refine xL 62 q_move ?_ <;> refine xL 63 q_geq ?_ <;> refine aL_end (nav ?_) <;> try dsimp only)
          (first | refine cCd ?_ ?_ | refine cC ?_ ?_) <;> intro hb63
          · first
            | exact Bool.noConfusion hb63
            | (
             refine nav ?_
             (refine aC_region ?_ <;> (refine yL 64 (q_ldao (k := 3) (ps := [pInt a.syms, PV.val r1, PV.val r2]) 5 (by kernel_rfl)) fun v64 hv64 => ?_; cases hv64) <;> refine s_sta 2 tAgg93_LfB ?_ <;> refine xL 3 q_assign ?_ <;> refine aL_end (nav ?_) <;> try dsimp only)
             refine ret_cs (k := 3) 2 (by kernel_rfl) (Tryz.results114) rfl rfl rfl (Nat.le_of_ble_eq_true rfl) (by decide) rfl (.inr ⟨?_, _, _, _, rfl, hr1, hr2, rfl⟩)
             have hv := visit_no hnew2 (show (subW a).cap ≤ o'.length by show 2000 ≤ o'.length; omega)
             have h1 := Srch.row_fails (Srch.row_out hW hv) (show s + 1 ≤ (subW a).m by show s + 1 ≤ a.syms.toNat; omega)
             have h2 := Srch.all_none (Srch.upto_out hU hx h1) (show i + 1 ≤ (subW a).cap by show i + 1 ≤ 2000; omega)
             unfold subT
             rw [← hx0, h2]; rfl)
          · first
            | exact Bool.noConfusion hb63
            | (
             refine nav ?_
             (refine aC_region ?_ <;> refine xL 65 q_move ?_ <;> refine xL 66 q_move ?_ <;> (refine cS 67 (cA Tryz.call121 (aKey_e set (by omega) (hset.bd h))) fun v67 hv67 => ?_; cases hv67) <;> refine xL 68 q_move ?_ <;> (refine s_mput 304 tMp135_LfB ?_; rw [num_putN hnew]) <;> refine aL_end (nav ?_) <;> try dsimp only)
             (refine aC_region ?_ <;> refine xL 69 q_move ?_ <;> refine xL 70 q_move ?_ <;> refine s_lit1 (kk := 1) 71 tEl28_LdS fun h71 ho71 => ?_ <;> (refine s_app 303 71 72 tEl28_LdS fun h72 ho72 => ?_; refine aL_ent (relabel (l := 72) 303 rfl rfl) fun _ => ?_; refine aL_ent (recast (l := 303) rfl (snoc_w _ o' set)) fun _ => ?_) <;> refine xL 6 q_assign ?_ <;> refine aL_end (nav ?_) <;> try dsimp only)
             (refine aC_region ?_ <;> refine xL 73 q_move ?_ <;> refine xL 74 q_move ?_ <;> refine xL 75 q_move ?_ <;> refine xL 76 (q_idxoN 38 tSl22_LbB) ?_ <;> refine s_st 38 tNa3_LbB tSz3_LdJ ?_ <;> refine aL_end (nav ?_) <;> try dsimp only)
             (refine aC_region ?_ <;> refine xL 77 q_add ?_ <;> refine xL 41 q_move ?_ <;> refine aL_end (nav ?_) <;> try dsimp only)
             rw [show s * 1 = r.length * 1 by omega, rowAt_set _ (by omega)]
             first
              | (exact aN_again (
                  ⟨(s + 1, h72, o' ++ [set], r ++ [o'.length]), (by dsimp only; rw [hse]; exact Srch.row_snoc hW (visit_new hnew2 (show o'.length < 2000 by omega))), (by dsimp only; omega), ho72⟩
                  ) (by dsimp only; omega) ⟨rfl, rfl, rfl, rfl, rfl, rfl, rfl, rfl, rfl, rfl, rfl, trivial⟩ ⟨rfl, rfl, rfl, rfl, rfl, rfl, rfl, rfl, trivial⟩)
              | (exact aN_again (
                  ⟨(s + 1, r3', o', r ++ [numAt keyB o' set]), (by dsimp only; rw [hnum]; exact Srch.row_snoc hW (visit_old hold2)), (by dsimp only; omega), hr3'⟩
                  ) (by dsimp only; omega) ⟨rfl, rfl, rfl, rfl, rfl, rfl, rfl, rfl, rfl, rfl, rfl, trivial⟩ ⟨rfl, rfl, rfl, rfl, rfl, rfl, rfl, rfl, trivial⟩)))
       · first
         | exact Bool.noConfusion hb59
         | (
          have hold : posK keyB o' (keyB set) < o'.length := by simpa using hb59
          have hold2 : posK (subW a).key o' ((subW a).key ((subW a).step i x s)) < o'.length := by
           show posK id o' (nextL a (s : Nat) x) < o'.length
           rw [← hse, ← hkid]; exact hold
          have hnum : numAt keyB o' set = posK (subW a).key o' ((subW a).key ((subW a).step i x s)) := by
           show numAt keyB o' set = posK id o' (nextL a (s : Nat) x)
           unfold numAt
           rw [if_pos hold, hkid, hse]
          refine nav ?_
          (refine aC_region ?_ <;> refine xL 73 q_move ?_ <;> refine xL 74 q_move ?_ <;> refine xL 75 q_move ?_ <;> refine xL 76 (q_idxoN 38 tSl22_LbB) ?_ <;> refine s_st 38 tNa3_LbB tSz3_LdJ ?_ <;> refine aL_end (nav ?_) <;> try dsimp only)
          (refine aC_region ?_ <;> refine xL 77 q_add ?_ <;> refine xL 41 q_move ?_ <;> refine aL_end (nav ?_) <;> try dsimp only)
          rw [show s * 1 = r.length * 1 by omega, rowAt_set _ (by omega)]
          first
           | (exact aN_again (
               ⟨(s + 1, h72, o' ++ [set], r ++ [o'.length]), (by dsimp only; rw [hse]; exact Srch.row_snoc hW (visit_new hnew2 (show o'.length < 2000 by omega))), (by dsimp only; omega), ho72⟩
               ) (by dsimp only; omega) ⟨rfl, rfl, rfl, rfl, rfl, rfl, rfl, rfl, rfl, rfl, rfl, trivial⟩ ⟨rfl, rfl, rfl, rfl, rfl, rfl, rfl, rfl, trivial⟩)
           | (exact aN_again (
               ⟨(s + 1, r3', o', r ++ [numAt keyB o' set]), (by dsimp only; rw [hnum]; exact Srch.row_snoc hW (visit_old hold2)), (by dsimp only; omega), hr3'⟩
               ) (by dsimp only; omega) ⟨rfl, rfl, rfl, rfl, rfl, rfl, rfl, rfl, rfl, rfl, rfl, trivial⟩ ⟨rfl, rfl, rfl, rfl, rfl, rfl, rfl, rfl, trivial⟩)))
    · first
      | exact Bool.noConfusion hb42
      | (
       have hsm : s = a.syms.toNat := by omega
       subst hsm
       have hU2 := Srch.upto_snoc hU hx hW
       have e1 := map_at (f := pInts) hx'
       have htk : o'.take (i + 1) = (o.take i) ++ [x] := by
        rw [take_snoc hx']
        obtain ⟨e, rfl⟩ := hpr
        rw [List.take_append_of_le_length hi]
       refine nav ?_
       refine aC_ent (En.freeze (l := 38) (t := 9) rfl rfl) fun _ => ?_
       rw [share_row _ _ _ hrl]
       (refine aC_draw (fun i => ([16, 17, 18] : List Nat).elem i) [5, 303] (by kernel_rfl) ?_ <;> refine xDT 0 78 rfl (q_fldo 5 tFl93_1_LfB) ?_ <;> (refine yDT 1 79 rfl (q_ldo 5 tNa28_LfB) fun v79 hv79 => ?_; cases hv79) <;> refine xDT 2 80 rfl q_move ?_ <;> refine xDT 5 83 rfl (q_fldo 5 tFl93_2_LfB) ?_ <;> (refine yDT 6 84 rfl (q_ldo 5 tNa66_LdJ) fun v84 hv84 => ?_; cases hv84) <;> refine xDT 7 85 rfl q_move ?_ <;> refine xDT 8 86 rfl q_move ?_ <;> refine xDT 9 87 rfl q_move ?_ <;> refine xDT 10 88 rfl (q_idxoN 303 tSl28_LdS) ?_ <;> (refine yDT 11 89 rfl (q_ldo 303 tNa22_LdI) fun v89 hv89 => ?_; cases hv89) <;> (refine aD_one 3 (by kernel_rfl) ?_) <;> (refine aW_run rfl fun w9 M9 N9 DQ back => ?_) <;> refine s_lit1 (kk := 1) 81 tEl28_LdS fun h81 ho81 => ?_ <;> refine aL_end (back _ (nrm ?_)) <;> (refine aD_one 4 (by kernel_rfl) ?_) <;> (refine aW_run rfl fun w9 M9 N9 DQ back => ?_) <;> refine s_app 301 81 82 tEl28_LdS fun h82 ho82 => ?_ <;> refine aL_end (back _ (nrm ?_)) <;> refine xDT 15 93 rfl (q_fldo 5 tFl93_1_LfB) ?_ <;> (refine aD_one 12 (by kernel_rfl) ?_) <;> (refine aW_call (d := 90) rfl (cA Tryz.call62 (aAccepts_e a x hxs.1)) fun v90 hv90 => ?_; cases hv90) <;> (refine aD_one 13 (by kernel_rfl) ?_) <;> (refine aW_run rfl fun w9 M9 N9 DQ back => ?_) <;> refine s_lit1 (kk := 1) 91 tEl66_LdR fun h91 ho91 => ?_ <;> refine aL_end (back _ (nrm ?_)) <;> (refine aD_one 14 (by kernel_rfl) ?_) <;> (refine aW_run rfl fun w9 M9 N9 DQ back => ?_) <;> refine s_app 302 91 92 tEl66_LdR fun h92 ho92 => ?_ <;> refine aL_end (back _ (nrm ?_)) <;> (refine aD_one 16 (by kernel_rfl) ?_) <;> (refine aW_thenZ rfl rfl fun DQ back => ?_) <;> refine s_st 5 tNa28_LfB tSz28_LfB ?_ <;> refine aL_end (back _ ?_) <;> (refine aDZ_one 17 (by kernel_rfl) rfl rfl fun DQ back => ?_) <;> refine xL 94 (q_fldo 5 tFl93_2_LfB) ?_ <;> refine aL_end (back _ ?_) <;> (refine aDZ_one 18 (by kernel_rfl) rfl rfl fun DQ back => ?_) <;> refine s_st 5 tNa66_LdJ tSz66_LfB ?_ <;> refine aL_end (back _ ?_) <;> refine aDZ_end (by kernel_rfl) (nav ?_) <;> try dsimp only)
       refine aC_ent (relabel (l := 82) 301 rfl rfl) fun _ => ?_
       refine aC_ent (relabel (l := 92) 302 rfl rfl) fun _ => ?_
       refine aC_ent (recast (l := 301) rfl (snoc_nats _ rows r)) fun _ => ?_
       refine aC_ent (recast (l := 302) rfl (snoc_bools _ ((o.take i).map (accB a)) (accB a x))) fun _ => ?_
       rw [show ((o.take i).map (accB a)) ++ [accB a x] = (o'.take (i + 1)).map (accB a) by rw [htk, List.map_append]; rfl]
       (refine aC_region ?_ <;> refine xL 34 q_move ?_ <;> refine xL 35 q_add ?_ <;> refine xL 8 q_assign ?_ <;> refine aL_end (nav ?_) <;> try dsimp only)
       refine aN_again (
        ⟨(i + 1, h82, h92, r3', o', rows ++ [r]), hU2, (by dsimp only; omega), ho82, ho92, hr3'⟩
        ) (by dsimp only; omega) ⟨rfl, rfl, rfl, rfl, rfl, rfl, rfl, rfl, trivial⟩ ⟨rfl, rfl, rfl, rfl, rfl, rfl, rfl, trivial⟩))
 · first
   | exact Bool.noConfusion hb33
   | (
    have hio : i = o.length := by omega
    subst hio
    refine nav ?_
    refine aC_ent (freezeCell (l := 5) (l' := 301) (j := 1) rfl rfl rfl rfl) fun _ => ?_
    refine aC_ent (freezeCell (l := 5) (l' := 302) (j := 2) rfl rfl rfl rfl) fun _ => ?_
    rw [share_natss _ _ _ rfl, share_boolss _ _ _ rfl]
    (refine aC_region ?_ <;> (refine yL 95 (q_ldao 5 tAgg93_LfB) fun v95 hv95 => ?_; cases hv95) <;> refine s_sta 2 tAgg93_LfB ?_ <;> refine xL 3 q_assign ?_ <;> refine aL_end (nav ?_) <;> try dsimp only)
    refine ret_cs (k := 3) 2 (by kernel_rfl) (Tryz.results114) rfl rfl rfl (Nat.le_of_ble_eq_true rfl) (by decide) rfl (.inl ⟨⟨a.syms.toNat, rows, o.map (accB a)⟩, ?_, ?_⟩)
    · unfold subT
      rw [← hx0, Srch.all_some hU (Nat.le_refl _) (show o.length ≤ (subW a).cap from hcap)]; rfl
    · unfold pTab
      dsimp only
      rw [List.take_length, hsN]; rfl)
def keyN (l : List Nat) : ByteArray := keyB (toI l)
theorem toI_nn (l : List Nat) : ∀ x ∈ toI l, 0 ≤ x := fun x hx => by
 unfold toI at hx
 obtain ⟨y, _, rfl⟩ := List.mem_map.1 hx
 omega
theorem keyN_id (o : List (List Nat)) (x : List Nat) : posK keyN o (keyN x) = posK id o x := posK_inj fun l _ => by
 unfold keyN
 rw [keyB_inj (toI_nn l) (toI_nn x), toI_inj]; rfl
theorem skv_numE_len {α : Type} (f : α → ByteArray) (o : List α) : (skv (numE f 0 o)).length = o.length := by unfold skv; rw [List.length_map, numE_len]
theorem num_putL {α : Type} {f : α → ByteArray} {o : List α} {x : α} (h : ¬ posK f o (f x) < o.length) : mput (skv (numE f 0 o)) (.string (f x)) (.int .i64 ((skv (numE f 0 o)).length : Nat)) = skv (numE f 0 (o ++ [x])) := by
 rw [skv_numE_len, num_putN h]
def upTo (s : Nat) (f : Nat → Nat) (j : Nat) : Int := if j < s then (f j : Nat) else 0
theorem upTo_zero (n : Nat) (f : Nat → Nat) : List.replicate n (PV.val (.int .i64 0)) = vec n fun j => pInt (upTo 0 f j) := by
 rw [vec_const]
 refine vec_congr fun i _ => ?_
 unfold upTo; rw [if_neg (by omega)]
theorem upTo_set {n s : Nat} {f : Nat → Nat} {x : Int} (hx : x = (f s : Nat)) : (vec n fun j => pInt (upTo s f j)).set (s * 1) (pInt x) = vec n fun j => pInt (upTo (s + 1) f j) := by
 rw [Nat.mul_one, vec_set]
 refine vec_congr fun i hi => ?_
 unfold upTo
 by_cases e : i = s
 · subst e; rw [if_pos rfl, if_pos (by omega), hx]
 · rw [if_neg e]
   by_cases e2 : i < s
   · rw [if_pos e2, if_pos (by omega)]
   · rw [if_neg e2, if_neg (by omega)]
theorem upTo_skip {n s : Nat} {f : Nat → Nat} (hx : f s = 0) : (vec n fun j => pInt (upTo s f j)) = vec n fun j => pInt (upTo (s + 1) f j) := by
 refine vec_congr fun i hi => ?_
 unfold upTo
 by_cases e : i = s
 · subst e; rw [if_neg (by omega), if_pos (by omega), hx]; rfl
 · by_cases e2 : i < s
   · rw [if_pos e2, if_pos (by omega)]
   · rw [if_neg e2, if_neg (by omega)]
theorem upTo_full (n : Nat) (f : Nat → Nat) : (vec n fun j => pInt (upTo n f j)) = vec n fun j => pInt (f j : Nat) := by
 refine vec_congr fun i hi => ?_
 unfold upTo; rw [if_pos hi]
theorem toI_len (l : List Nat) : (toI l).length = l.length := by simp [toI]
theorem toI_snoc (l : List Nat) (x : Nat) : toI (l ++ [x]) = toI l ++ [(x : Int)] := by simp [toI]
theorem own_nats (e : Nat) (L : List Nat) (x : Nat) : PV.own e 1 (L.length + 1) ((toI L).map pInt ++ [pInt (x : Nat)]) = .own e 1 (L ++ [x]).length ((toI (L ++ [x])).map pInt) := by simp [toI_snoc]
def keyP (c : Nat → Nat) (s : Nat) (r : List Nat) (u : Nat) : List Nat := c s :: (r.take u).map c
theorem keyP_snoc {c : Nat → Nat} {s : Nat} {r : List Nat} {u x : Nat} (h : r[u]? = some x) : keyP c s r u ++ [c x] = keyP c s r (u + 1) := by
 unfold keyP; rw [take_snoc h, List.map_append]; rfl
theorem keyP_full {rows : List (List Nat)} {c : Nat → Nat} {s : Nat} {r : List Nat} {u : Nat} (h : rows[s]? = some r) (hu : r.length ≤ u) : keyP c s r u = keyC rows c s := by
 unfold keyP keyC; rw [h, List.take_of_length_le hu]; rfl
theorem keyP_len (c : Nat → Nat) (s : Nat) (r : List Nat) (u : Nat) (h : u ≤ r.length) : (keyP c s r u).length = u + 1 := by unfold keyP; rw [List.length_cons, List.length_map, List.length_take]; omega
theorem keyC_bd {t : Tab} (ht : TOk t) {c : Nat → Nat} (hc : ∀ s, s < t.rows.length → c s ≤ t.rows.length) {s : Nat} (hs : s < t.rows.length) : ∀ x ∈ toI (keyC t.rows c s), 0 ≤ x ∧ x ≤ 2000 := fun x hx => by
 unfold toI at hx
 obtain ⟨y, hy, rfl⟩ := List.mem_map.1 hx
 have hn := ht.n1
 have key : ∀ z, z < t.rows.length → c z ≤ 2000 := fun z hz => by have := hc z hz; omega
 unfold keyC at hy
 rcases List.mem_cons.1 hy with rfl | hy
 · have := key s hs; omega
 · obtain ⟨z, hz, rfl⟩ := List.mem_map.1 hy
   obtain ⟨r, hr⟩ := get_some hs
   rw [hr] at hz
   have := key z (ht.to r (List.mem_of_getElem? hr) z hz)
   omega
theorem nextC_at {rows : List (List Nat)} {c : Nat → Nat} {s : Nat} (hs : s < rows.length) : nextC rows c s = posK id (fstK (keyC rows c) (s + 1)) (keyC rows c s) := (fstK_pos (k := keyC rows c) hs).1
theorem nextC_old {rows : List (List Nat)} {c : Nat → Nat} {s : Nat} (hs : s < rows.length) (h : posK id (fstK (keyC rows c) s) (keyC rows c s) < (fstK (keyC rows c) s).length) : nextC rows c s = posK id (fstK (keyC rows c) s) (keyC rows c s) := by rw [nextC_at hs, fstK_old h]
theorem nextC_new {rows : List (List Nat)} {c : Nat → Nat} {s : Nat} (hs : s < rows.length) (h : ¬ posK id (fstK (keyC rows c) s) (keyC rows c s) < (fstK (keyC rows c) s).length) : nextC rows c s = (fstK (keyC rows c) s).length := by
 rw [nextC_at hs, fstK_new h]; exact posK_new h
theorem clsIt_stop {rows : List (List Nat)} {f : Nat} {c : Nat → Nat} {k : Nat} (h : cntC rows c = k) : clsIt rows (f + 1) c k = nextC rows c := by rw [clsIt, if_pos h]
theorem clsIt_more {rows : List (List Nat)} {f : Nat} {c : Nat → Nat} {k : Nat} (h : ¬ cntC rows c = k) : clsIt rows (f + 1) c k = clsIt rows f (nextC rows c) (cntC rows c) := by rw [clsIt, if_neg h]
set_option maxHeartbeats 4000000 in
theorem aClasses_e (t : Tab) (ht : TOk t) : AF Tryz.prog 105 [pTab t] (· = .own 3 1 t.rows.length (vec t.rows.length fun s => pInt (clsT t s : Nat))) := by
 have hn1 := ht.n1
 have hfl := ht.fl
 have hm1 := ht.m1
 refine AF.of_body 92 Tryz.func105 rfl Tryz.ntmps105 (Nat.le_of_ble_eq_true rfl) ?_
 intro w0 M0 vs hl hv
 obtain ⟨v0, rfl⟩ := len1 hl
 clear hl hv
 refine nav ?_
 (refine aC_region ?_ <;> refine s_boxa 1 3 fun h1 => ?_ <;> refine xL 2 q_assign ?_ <;> refine aL_end (nav ?_) <;> try dsimp only)
 (refine aC_region ?_ <;> refine xL 16 (q_fldo 1 tFl93_1_LfB) ?_ <;> (refine yL 17 (q_ldo 1 tNa28_LfB) fun v17 hv17 => ?_; cases hv17) <;> refine xL 18 (q_len tSl28_LdS) ?_ <;> refine s_make 19 tEl22_LdI fun h19 ho19 => ?_ <;> refine xL 3 q_assign ?_ <;> refine aL_end (nav ?_) <;> try dsimp only)
 refine aC_ent (relabel (l := 19) 303 rfl rfl) fun _ => ?_
 rw [upTo_zero _ (finC t.fin)]
 (refine aC_region ?_ <;> refine xL 20 (q_fldo 1 tFl93_2_LfB) ?_ <;> (refine yL 21 (q_ldo 1 tNa66_LdJ) fun v21 hv21 => ?_; cases hv21) <;> refine xL 22 (q_len tSl66_LdJ) ?_ <;> refine xL 23 q_move ?_ <;> refine aL_end (nav ?_) <;> try dsimp only)
 refine aC_loop (ι := { s : Nat // s ≤ t.fin.length }) (fun k => ⟨[(1, _, _), (3, _, _), (21, _, _), (22, _, _), (23, .int .i64 k.1, pInt k.1)], [(1, _, _), (303, h19, .own 3 1 t.rows.length (vec t.rows.length fun j => pInt (upTo k.1 (finC t.fin) j)))]⟩) (fun k => t.fin.length - k.1) ⟨0, Nat.zero_le _⟩ (fun a w H => H.weaken ⟨rfl, rfl, rfl, rfl, rfl, trivial⟩ ⟨rfl, rfl, trivial⟩) ?_
 rintro ⟨s, hs⟩
 dsimp only
 refine nav ?_
 (refine aC_region ?_ <;> refine xL 24 q_lss ?_ <;> refine aL_end (nav ?_) <;> try dsimp only)
 (first | refine cCd ?_ ?_ | refine cC ?_ ?_) <;> intro hb24
 · first
   | exact Bool.noConfusion hb24
   | (
    obtain ⟨b, hb⟩ := get_some (show s < t.fin.length by omega)
    have e1 := map_at (f := pBool) hb
    have e2 := vec_len t.rows.length (fun j => pInt (upTo s (finC t.fin) j))
    refine nav ?_
    (refine aC_region ?_ <;> refine xL 25 q_move ?_ <;> refine xL 26 (q_idxN tSl66_LdJ) ?_ <;> (refine yL 27 (q_ld tNa4_LdJ) fun v27 hv27 => ?_; cases hv27) <;> refine xL 4 q_assign ?_ <;> refine xL 5 q_assign ?_ <;> refine aL_end (nav ?_) <;> try dsimp only)
    (refine aC_region ?_ <;> refine xL 28 q_move ?_ <;> refine aL_end (nav ?_) <;> try dsimp only)
    (first | refine cCd ?_ ?_ | refine cC ?_ ?_) <;> intro hb28
    · first
      | exact Bool.noConfusion hb28
      | (
       refine nav ?_
       (refine aC_region ?_ <;> refine xL 29 q_move ?_ <;> refine xL 30 q_move ?_ <;> refine xL 31 (q_idxoN 303 tSl22_LbB) ?_ <;> refine s_st 303 tNa3_LbB tSz3_LdJ ?_ <;> refine aL_end (nav ?_) <;> try dsimp only)
       (refine aC_region ?_ <;> refine xL 32 q_add ?_ <;> refine xL 23 q_move ?_ <;> refine aL_end (nav ?_) <;> try dsimp only)
       try rw [upTo_set (x := 1) (by unfold finC; rw [hb]; show (1 : Int) = ((if b = true then 1 else 0 : Nat) : Int); rw [if_pos hb28]; rfl)]
       try rw [upTo_skip (by unfold finC; rw [hb]; show (if b = true then 1 else 0) = 0; rw [if_neg (by simpa using hb28)])]
       refine aN_again (
        ⟨s + 1, by omega⟩
        ) (by dsimp only; omega) ⟨rfl, rfl, rfl, rfl, rfl, trivial⟩ ⟨rfl, rfl, trivial⟩)
    · first
      | exact Bool.noConfusion hb28
      | (
       refine nav ?_
       (refine aC_region ?_ <;> refine xL 32 q_add ?_ <;> refine xL 23 q_move ?_ <;> refine aL_end (nav ?_) <;> try dsimp only)
       try rw [upTo_set (x := 1) (by unfold finC; rw [hb]; show (1 : Int) = ((if b = true then 1 else 0 : Nat) : Int); rw [if_pos hb28]; rfl)]
       try rw [upTo_skip (by unfold finC; rw [hb]; show (if b = true then 1 else 0) = 0; rw [if_neg (by simpa using hb28)])]
       refine aN_again (
        ⟨s + 1, by omega⟩
        ) (by dsimp only; omega) ⟨rfl, rfl, rfl, rfl, rfl, trivial⟩ ⟨rfl, rfl, trivial⟩))
 · first
   | exact Bool.noConfusion hb24
   | (
    have hsn : s = t.rows.length := by omega
    subst hsn
    rw [upTo_full]
    refine nav ?_
    (refine aC_region ?_ <;> refine xL 6 q_assign ?_ <;> refine aL_end (nav ?_) <;> try dsimp only)
    refine aC_loop (ι := { q : Value × (Nat → Nat) × Nat × Nat // COk t.rows.length q.2.1 q.2.2.1 ∧ clsIt t.rows q.2.2.2 q.2.1 q.2.2.1 = clsT t ∧ t.rows.length + 2 ≤ q.2.2.2 + q.2.2.1 ∧ q.1.oneCell' = true }) (fun k => ⟨[(1, _, _), (3, k.1.1, .val k.1.1), (6, .int .i64 k.1.2.2.1, pInt k.1.2.2.1)], [(1, _, _), (303, k.1.1, .own 3 1 t.rows.length (vec t.rows.length fun j => pInt (k.1.2.1 j : Nat)))]⟩) (fun k => t.rows.length + 2 - k.1.2.2.1) ⟨(h19, finC t.fin, 0, t.rows.length + 2), COk.start _ _, rfl, by dsimp only; omega, ho19⟩ (fun a w H => H.weaken ⟨rfl, rfl, rfl, trivial⟩ ⟨rfl, rfl, trivial⟩) ?_
    rintro ⟨⟨hv3, c, cnt, fuel⟩, hC, hit, hfu, hv3o⟩
    dsimp only
    dsimp only at hC hit hfu hv3o
    have hle := hC.le
    have hbd := hC.bd
    obtain ⟨f, rfl⟩ : ∃ f, fuel = f + 1 := ⟨fuel - 1, by omega⟩
    have hgr := hC.grow
    have hnx := hC.next
    refine nav ?_
    (refine aC_region ?_ <;> refine s_mkmap 33 fun h33 ho33 => ?_ <;> refine xL 7 q_assign ?_ <;> refine aL_end (nav ?_) <;> try dsimp only)
    (refine aC_region ?_ <;> refine xL 34 q_move ?_ <;> refine xL 35 (q_leno 303 tSl22_LbB) ?_ <;> refine s_make 36 tEl22_LdI fun h36 ho36 => ?_ <;> refine xL 8 q_assign ?_ <;> refine aL_end (nav ?_) <;> try dsimp only)
    refine aC_ent (relabel (l := 33) 304 rfl rfl) fun _ => ?_
    refine aC_ent (relabel (l := 36) 305 rfl rfl) fun _ => ?_
    rw [upTo_zero _ (nextC t.rows c)]
    refine aC_ent (recast (l := 304) (p' := .omap (skv (numE keyN 0 (fstK (keyC t.rows c) 0)))) rfl rfl) fun _ => ?_
    (refine aC_region ?_ <;> refine xL 37 (q_fldo 1 tFl93_1_LfB) ?_ <;> (refine yL 38 (q_ldo 1 tNa28_LfB) fun v38 hv38 => ?_; cases hv38) <;> refine xL 39 (q_len tSl28_LdS) ?_ <;> refine xL 40 q_move ?_ <;> refine aL_end (nav ?_) <;> try dsimp only)
    refine aC_loop (ι := { s : Nat // s ≤ t.rows.length }) (fun k => ⟨[(1, _, _), (3, _, _), (6, _, _), (7, _, _), (8, _, _), (38, _, _), (39, _, _), (40, .int .i64 k.1, pInt k.1)], [(1, _, _), (303, _, _), (304, h33, .omap (skv (numE keyN 0 (fstK (keyC t.rows c) k.1)))), (305, h36, .own 3 1 t.rows.length (vec t.rows.length fun j => pInt (upTo k.1 (nextC t.rows c) j)))]⟩) (fun k => t.rows.length - k.1) ⟨0, Nat.zero_le _⟩ (fun a w H => H.weaken ⟨rfl, rfl, rfl, rfl, rfl, rfl, rfl, rfl, trivial⟩ ⟨rfl, rfl, rfl, rfl, trivial⟩) ?_
    rintro ⟨s, hs⟩
    dsimp only
    refine nav ?_
    (refine aC_region ?_ <;> refine xL 41 q_lss ?_ <;> refine aL_end (nav ?_) <;> try dsimp only)
    (first | refine cCd ?_ ?_ | refine cC ?_ ?_) <;> intro hb41
    · first
      | exact Bool.noConfusion hb41
      | (
       have hlt : s < t.rows.length := by omega
       obtain ⟨r, hr⟩ := get_some hlt
       have e1 := map_at (f := pNats) hr
       have hrl := ht.rl r (List.mem_of_getElem? hr)
       have hrt := ht.to r (List.mem_of_getElem? hr)
       have htl := toI_len r
       have e2 := vec_at1 (fun j => pInt (c j : Nat)) hlt
       have e3 := vec_len t.rows.length (fun j => pInt (upTo s (nextC t.rows c) j))
       have hkl := fstK_len (keyC t.rows c) s
       refine nav ?_
       (refine aC_region ?_ <;> refine xL 42 q_move ?_ <;> refine xL 43 (q_idxN tSl28_LdS) ?_ <;> (refine yL 44 (q_ld tNa22_LdI) fun v44 hv44 => ?_; cases hv44) <;> refine xL 9 q_assign ?_ <;> refine xL 10 q_assign ?_ <;> refine aL_end (nav ?_) <;> try dsimp only)
       (refine aC_region ?_ <;> refine xL 45 q_move ?_ <;> refine xL 46 q_move ?_ <;> refine xL 47 (q_idxoN 303 tSl22_LbB) ?_ <;> (refine yL 48 (q_ldo 303 tNa3_LbB) fun v48 hv48 => ?_; cases hv48) <;> refine s_lit1 (kk := 1) 49 tEl22_LdI fun h49 ho49 => ?_ <;> refine xL 11 q_assign ?_ <;> refine aL_end (nav ?_) <;> try dsimp only)
       refine aC_ent (relabel (l := 49) 306 rfl rfl) fun _ => ?_
       refine aC_ent (recast (l := 306) (p' := .own 3 1 (keyP c s r 0).length ((toI (keyP c s r 0)).map pInt)) rfl rfl) fun _ => ?_
       refine aC_slen 10 rfl fun hlen10 => ?_
       (refine aC_region ?_ <;> refine xL 50 q_move ?_ <;> refine xL 51 (q_len tSl22_LbB) ?_ <;> refine xL 52 q_move ?_ <;> refine aL_end (nav ?_) <;> try dsimp only)
       refine aC_loop (ι := { q : Nat × Value // q.1 ≤ r.length ∧ q.2.oneCell' = true }) (fun k => ⟨[(1, _, _), (3, _, _), (6, _, _), (7, _, _), (8, _, _), (9, _, _), (38, _, _), (39, _, _), (40, _, _), (50, _, _), (51, _, _), (11, k.1.2, .val k.1.2), (52, .int .i64 k.1.1, pInt k.1.1)], [(1, _, _), (303, _, _), (304, _, _), (305, _, _), (306, k.1.2, .own 3 1 (keyP c s r k.1.1).length ((toI (keyP c s r k.1.1)).map pInt))]⟩) (fun k => r.length - k.1.1) ⟨(0, h49), Nat.zero_le _, ho49⟩ (fun a w H => H.weaken ⟨rfl, rfl, rfl, rfl, rfl, rfl, rfl, rfl, rfl, rfl, rfl, rfl, rfl, trivial⟩ ⟨rfl, rfl, rfl, rfl, rfl, trivial⟩) ?_
       rintro ⟨⟨u, hv⟩, hu, hvo⟩
       dsimp only
       dsimp only at hu hvo
       have hkpl := keyP_len c s r u hu
       refine nav ?_
       (refine aC_region ?_ <;> refine xL 53 q_lss ?_ <;> refine aL_end (nav ?_) <;> try dsimp only)
       (first | refine cCd ?_ ?_ | refine cC ?_ ?_) <;> intro hb53
       · first
         | exact Bool.noConfusion hb53
         | (
          obtain ⟨x, hx⟩ := get_some (show u < r.length by omega)
          have hxn := hrt x (List.mem_of_getElem? hx)
          have e4 : ((toI r).map pInt)[u * 1]? = some (pInt (x : Nat)) := by rw [Nat.mul_one, List.getElem?_map]; unfold toI; rw [List.getElem?_map, hx]; rfl
          have e5 := vec_at1 (fun j => pInt (c j : Nat)) hxn
          refine nav ?_
          (refine aC_region ?_ <;> refine xL 54 (q_idxN tSl22_LbB) ?_ <;> (refine yL 55 (q_ld tNa3_LbB) fun v55 hv55 => ?_; cases hv55) <;> refine xL 13 q_assign ?_ <;> refine aL_end (nav ?_) <;> try dsimp only)
          (refine aC_region ?_ <;> refine xL 56 q_move ?_ <;> refine xL 57 q_move ?_ <;> refine xL 58 q_move ?_ <;> refine xL 59 (q_idxoN 303 tSl22_LbB) ?_ <;> (refine yL 60 (q_ldo 303 tNa3_LbB) fun v60 hv60 => ?_; cases hv60) <;> refine s_lit1 (kk := 1) 61 tEl22_LdI fun h61 ho61 => ?_ <;> (refine s_app 306 61 62 tEl22_LdI fun h62 ho62 => ?_; refine aL_ent (relabel (l := 62) 306 rfl rfl) fun _ => ?_; refine aL_ent (recast (l := 306) rfl ((own_nats _ (keyP c s r u) (c x)).trans (by rw [keyP_snoc hx]))) fun _ => ?_) <;> refine xL 11 q_assign ?_ <;> refine aL_end (nav ?_) <;> try dsimp only)
          (refine aC_region ?_ <;> refine xL 63 q_add ?_ <;> refine xL 52 q_move ?_ <;> refine aL_end (nav ?_) <;> try dsimp only)
          refine aN_again (
           ⟨(u + 1, h62), lt_of_get hx, ho62⟩
           ) (by dsimp only; omega) ⟨rfl, rfl, rfl, rfl, rfl, rfl, rfl, rfl, rfl, rfl, rfl, rfl, rfl, trivial⟩ ⟨rfl, rfl, rfl, rfl, rfl, trivial⟩)
       · first
         | exact Bool.noConfusion hb53
         | (
          have hK := keyP_full (c := c) hr (show r.length ≤ u by omega)
          rw [hK]
          have hkb := keyC_bd ht hbd hlt
          have hkl2 : (keyC t.rows c s).length ≤ 1000 := by rw [← hK, hkpl]; omega
          have hid := keyN_id (fstK (keyC t.rows c) s) (keyC t.rows c s)
          refine nav ?_
          refine aC_ent (En.freeze (l := 306) (t := 11) rfl rfl) fun _ => ?_
          rw [share_ints _ _ _ (by rw [toI_len])]
          (refine aC_region ?_ <;> refine xL 65 q_move ?_ <;> refine xL 66 q_move ?_ <;> (refine cS 67 (cA Tryz.call121 (aKey_e (toI (keyC t.rows c s)) (by rw [toI_len]; omega) (fun x hx => by have := hkb x hx; omega))) fun v67 hv67 => ?_; cases hv67) <;> refine xL 68 (q_num2 (f := keyN) (L := fstK (keyC t.rows c) s) (a := keyC t.rows c s) 304 tMp135_LfB rfl rfl) ?_ <;> refine xL 64 q_move ?_ <;> refine xL 69 q_extract ?_ <;> refine xL 70 q_extract ?_ <;> refine xL 14 q_assign ?_ <;> refine xL 15 q_assign ?_ <;> refine aL_end (nav ?_) <;> try dsimp only)
          (refine aC_region ?_ <;> refine xL 71 q_move ?_ <;> refine xL 72 q_not ?_ <;> refine aL_end (nav ?_) <;> try dsimp only)
          (first | refine cCd ?_ ?_ | refine cC ?_ ?_) <;> intro hb72
          · first
            | exact Bool.noConfusion hb72
            | (
             have hnew : ¬ posK keyN (fstK (keyC t.rows c) s) (keyN (keyC t.rows c s)) < (fstK (keyC t.rows c) s).length := by simpa using hb72
             have hnew2 := hnew
             rw [hid] at hnew2
             have hnn := nextC_new hlt hnew2
             have hff := fstK_new hnew2
             refine nav ?_
             (refine aC_region ?_ <;> refine xL 73 q_move ?_ <;> refine xL 74 (q_mleno 304 Tryz.underlying135) ?_ <;> refine xL 14 q_assign ?_ <;> refine aL_end (nav ?_) <;> try dsimp only)
             (refine aC_region ?_ <;> refine xL 75 q_move ?_ <;> refine xL 76 q_move ?_ <;> (refine cS 77 (cA Tryz.call121 (aKey_e (toI (keyC t.rows c s)) (by rw [toI_len]; omega) (fun x hx => by have := hkb x hx; omega))) fun v77 hv77 => ?_; cases hv77) <;> refine xL 78 q_move ?_ <;> (refine s_mput 304 tMp135_LfB ?_; rw [show mput (skv (numE keyN 0 (fstK (keyC t.rows c) s))) (.string (keyB (toI (keyC t.rows c s)))) (.int .i64 ((skv (numE keyN 0 (fstK (keyC t.rows c) s))).length : Nat)) = skv (numE keyN 0 (fstK (keyC t.rows c) (s + 1))) by rw [hff]; exact num_putL hnew]) <;> refine aL_end (nav ?_) <;> try dsimp only)
             (refine aC_region ?_ <;> refine xL 79 q_move ?_ <;> refine xL 80 q_move ?_ <;> refine xL 81 q_move ?_ <;> refine xL 82 (q_idxoN 305 tSl22_LbB) ?_ <;> refine s_st 305 tNa3_LbB tSz3_LdJ ?_ <;> refine aL_end (nav ?_) <;> try dsimp only)
             (refine aC_region ?_ <;> refine xL 83 q_add ?_ <;> refine xL 40 q_move ?_ <;> refine aL_end (nav ?_) <;> try dsimp only)
             try rw [upTo_set (by rw [skv_numE_len, hnn])]
             try rw [upTo_set hnum, ← hfo]
             refine aN_again (
              ⟨s + 1, by omega⟩
              ) (by dsimp only; omega) ⟨rfl, rfl, rfl, rfl, rfl, rfl, rfl, rfl, trivial⟩ ⟨rfl, rfl, rfl, rfl, trivial⟩)
          · first
            | exact Bool.noConfusion hb72
            | (
             have hold : posK keyN (fstK (keyC t.rows c) s) (keyN (keyC t.rows c s)) < (fstK (keyC t.rows c) s).length := by simpa using hb72
             have hold2 := hold
             rw [hid] at hold2
             have hno := nextC_old hlt hold2
             have hfo := fstK_old hold2
             have hnum : (numAt keyN (fstK (keyC t.rows c) s) (keyC t.rows c s) : Int) = (nextC t.rows c s : Nat) := by unfold numAt; rw [if_pos hold, hid, hno]
             refine nav ?_
             (refine aC_region ?_ <;> refine xL 79 q_move ?_ <;> refine xL 80 q_move ?_ <;> refine xL 81 q_move ?_ <;> refine xL 82 (q_idxoN 305 tSl22_LbB) ?_ <;> refine s_st 305 tNa3_LbB tSz3_LdJ ?_ <;> refine aL_end (nav ?_) <;> try dsimp only)
             (refine aC_region ?_ <;> refine xL 83 q_add ?_ <;> refine xL 40 q_move ?_ <;> refine aL_end (nav ?_) <;> try dsimp only)
             try rw [upTo_set (by rw [skv_numE_len, hnn])]
             try rw [upTo_set hnum, ← hfo]
             refine aN_again (
              ⟨s + 1, by omega⟩
              ) (by dsimp only; omega) ⟨rfl, rfl, rfl, rfl, rfl, rfl, rfl, rfl, trivial⟩ ⟨rfl, rfl, rfl, rfl, trivial⟩)))
    · first
      | exact Bool.noConfusion hb41
      | (
       have hsn : s = t.rows.length := by omega
       subst hsn
       rw [upTo_full]
       refine nav ?_
       refine aC_ent (relabel (l := 303) 302 rfl rfl) fun _ => ?_
       refine aC_ent (relabel (l := 305) 303 rfl rfl) fun _ => ?_
       (refine aC_region ?_ <;> refine xL 84 q_move ?_ <;> refine xL 3 q_assign ?_ <;> refine aL_end (nav ?_) <;> try dsimp only)
       (refine aC_region ?_ <;> refine xL 85 q_move ?_ <;> refine xL 86 (q_mleno 304 Tryz.underlying135) ?_ <;> refine xL 87 q_move ?_ <;> refine xL 88 q_eql ?_ <;> refine aL_end (nav ?_) <;> try dsimp only)
       (first | refine cCd ?_ ?_ | refine cC ?_ ?_) <;> intro hb88
       · first
         | exact Bool.noConfusion hb88
         | (
          have hcc : cntC t.rows c = cnt := by rw [skv_numE_len] at hb88; unfold cntC; omega
          refine nav ?_
          (refine aC_region ?_ <;> refine xL 89 q_move ?_ <;> refine xL 2 q_assign ?_ <;> refine aL_end (nav ?_) <;> try dsimp only)
          refine ret_own 303 (Tryz.results105) rfl rfl ?_
          rw [← hit, clsIt_stop hcc])
       · first
         | exact Bool.noConfusion hb88
         | (
          have hcc : ¬ cntC t.rows c = cnt := by rw [skv_numE_len] at hb88; unfold cntC; omega
          refine nav ?_
          (refine aC_region ?_ <;> refine xL 90 q_move ?_ <;> refine xL 91 (q_mleno 304 Tryz.underlying135) ?_ <;> refine xL 6 q_assign ?_ <;> refine aL_end (nav ?_) <;> try dsimp only)
          rw [skv_numE_len]
          refine aN_again (
           ⟨(h36, nextC t.rows c, cntC t.rows c, f), hnx, by dsimp only; rw [← hit, clsIt_more hcc], by dsimp only; omega, ho36⟩
           ) (by have := hnx.le; dsimp only; omega) ⟨rfl, rfl, rfl, trivial⟩ ⟨rfl, rfl, trivial⟩)))
end Go.Proofs.YtgigclnaicbiaaaGreatDoor
