/-
  Walks: the reference's automata: distances, the words up to a length.
  Walks: the reference's automata: the words up to a length.
  Plain laws: tables, their classes, their minimal automata. No program in sight.
  Plain laws: lists of numbers as texts. No program in sight.
  Plain laws: moves in order; products of automata; the first word of a product. No program in sight.
  The engine: literals of structs. No program in sight.
  The engine: a contract's result, read otherwise. No program in sight.
  The engine: fields of struct values, elements of arrays that are shared. No program in sight.
  The engine: remainders, bits. No program in sight.
  The engine: arrays of two numbers are compared. No program in sight.
  The engine: numerals are appended to a row of bytes; the library's table. No program in sight.
  Walks: automata: sets of states as texts.
  Walks: automata: the subset automaton.
  Walks: automata: the classes of a table's states.
  Walks: automata: the minimal automaton of a table.
  Walks: automata: the minimal automaton of an automaton.
  Plain laws: what minimal automata are like; complements. No program in sight.
  Walks: automata: Minimal and Complement.
  The engine: quotients; a struct and a value are handed back beside what is owned. No program in sight.
  Walks: the reference's automata: lists of numbers as texts.
  Walks: the reference's automata: the subset automaton. Its final states are handed over.
-/
import Derived.DeepKeys3
import Derived.Lib.AppendIntMem
import Derived.Lib.OthersKept
import Derived.Laws.BytesArg
import Derived.Test.YtgigclnaicbiaaaGreatDoorPk03
import Derived.Test.YtgigclnaicbiaaaGreatDoorPk02
import Derived.Test.YtgigclnaicbiaaaGreatDoorMShelfE
namespace Go.Proofs.YtgigclnaicbiaaaGreatDoor
open Go.RowKit Go.Cb Go.En
set_option linter.all false
set_option maxRecDepth 100000
def FinJ (a : Aut) (k : Nat) (L : List Int) : Prop := L.length = a.n.toNat ∧ ∀ s, s < k → L[s]? = some (if finB a (s : Nat) then 0 else -1)
theorem FinJ.step {a : Aut} {k : Nat} {L : List Int} {d : Int} (h : FinJ a k L) (hk : k < a.n.toNat) (hd : d = if finB a (k : Nat) then 0 else -1) : FinJ a (k + 1) (L.set k d) := by
 refine ⟨by rw [List.length_set]; exact h.1, fun s hs => ?_⟩
 by_cases e : k = s
 · subst e
   rw [List.getElem?_set_self (by rw [h.1]; exact hk), hd]
 · rw [List.getElem?_set_ne e]; exact h.2 s (by omega)
theorem FinJ.done {a : Aut} {k : Nat} {L : List Int} (h : FinJ a k L) (hk : a.n.toNat ≤ k) : L = farAt a 0 := by
 apply List.ext_getElem?
 intro s
 rcases Nat.lt_or_ge s a.n.toNat with hs | hs
 · rw [h.2 s (by omega), show (farAt a 0)[s]? = _ from farInit_at hs]
 · rw [List.getElem?_eq_none (by rw [h.1]; exact hs), List.getElem?_eq_none (by rw [(farAt_ok a 0).len]; exact hs)]
theorem nodupN_len {n : Nat} {L : List Nat} (h : L.Nodup) (hl : ∀ s ∈ L, s < n) : L.length ≤ n := by
 have := nodup_len n (L.map fun x : Nat => (x : Int)) (List.pairwise_map.2 (h.imp fun h1 h2 => h1 (by omega))) fun s hs => by
  obtain ⟨x, hx, rfl⟩ := List.mem_map.1 hs
  have := hl x hx
  omega
 simpa using this
structure Tab where
 m : Nat
 rows : List (List Nat)
 fin : List Bool
structure TOk (t : Tab) : Prop where
 fl : t.fin.length = t.rows.length
 rl : ∀ r ∈ t.rows, r.length = t.m
 to : ∀ r ∈ t.rows, ∀ x ∈ r, x < t.rows.length
 pos : 0 < t.rows.length
 n1 : t.rows.length ≤ 2000
 m1 : t.m ≤ 40
def subW (a : Aut) : Srch (List Int) (List Int) := ⟨id, 2000, a.syms.toNat, fun _ l s => nextL a (s : Nat) l⟩
def subT (a : Aut) : Option Tab := ((subW a).all (closL a a.start)).map fun q => ⟨a.syms.toNat, q.2, q.1.map (accB a)⟩
def SetOk (a : Aut) (l : List Int) : Prop := InS a l ∧ Srt l
theorem SetOk.len {a : Aut} (h : AOk a) {l : List Int} (hl : SetOk a l) : l.length ≤ 2000 := by
 have h4 := nodup_len a.n.toNat l (hl.2.imp fun h => by omega) fun s hs => by
  have := hl.1 s hs
  have := h.n0
  omega
 have := h.n1
 omega
theorem set_next {a : Aut} (h : AOk a) (c : Int) (l : List Int) : SetOk a (nextL a c l) := ⟨next_in h.mi c l, closL_srt h.mi (leads_in h.mi c l)⟩
theorem set_start {a : Aut} (h : AOk a) : SetOk a (closL a a.start) := ⟨closL_in h.mi h.st, closL_srt h.mi h.st⟩
theorem sub_ok {a : Aut} (h : AOk a) {i : Nat} {o : List (List Int)} {rows : List (List Nat)} (hu : (subW a).upto (closL a a.start) i = some (o, rows)) : (subW a).Ok (SetOk a) (closL a a.start) o rows ∧ (i ≤ o.length → rows.length = i) ∧ (o.length ≤ i → rows.length = o.length) :=
 Srch.ok (P := SetOk a) (show 1 ≤ 2000 by decide) (set_start h) (fun _ _ s _ _ => set_next h s _) hu
theorem sub_tok {a : Aut} (h : AOk a) {t : Tab} (ht : subT a = some t) : TOk t := by
 unfold subT at ht
 obtain ⟨⟨o, rows⟩, h1, rfl⟩ := Option.map_eq_some_iff.1 ht
 obtain ⟨h2, h3, h4⟩ := sub_ok h h1
 have hcap : o.length ≤ 2000 := h2.cap
 have h5 := h4 hcap
 have hp := h2.pos
 have hs := h.s1
 refine ⟨by simp [h5], h2.len, fun r hr x hx => ?_, by dsimp only; omega, by dsimp only; omega, by dsimp only; omega⟩
 obtain ⟨i, hi⟩ := List.getElem?_of_mem hr
 obtain ⟨t, ht⟩ := List.getElem?_of_mem hx
 dsimp only at hi
 obtain ⟨y, hy⟩ := get_some (show i < o.length by have := lt_of_get hi; omega)
 have := (h2.to i y r t x hy hi ht).1
 dsimp only; omega
section
variable {κ : Type} [DecidableEq κ]
def fstK (k : Nat → κ) : Nat → List κ
 | 0 => []
 | s + 1 => if k s ∈ fstK k s then fstK k s else fstK k s ++ [k s]
theorem fstK_pre (k : Nat → κ) (s : Nat) : fstK k s <+: fstK k (s + 1) := by
 rw [fstK]; split
 · exact List.prefix_refl _
 · exact List.prefix_append _ _
theorem fstK_pre' (k : Nat → κ) (s : Nat) : ∀ t, fstK k s <+: fstK k (s + t)
 | 0 => List.prefix_refl _
 | t + 1 => (fstK_pre' k s t).trans (fstK_pre k (s + t))
theorem fstK_len (k : Nat → κ) : ∀ s, (fstK k s).length ≤ s
 | 0 => Nat.le_refl _
 | s + 1 => by
   have := fstK_len k s
   rw [fstK]; split
   · omega
   · rw [List.length_append, List.length_singleton]; omega
theorem fstK_mem {k : Nat → κ} : ∀ {s : Nat} {x : κ}, x ∈ fstK k s ↔ ∃ i, i < s ∧ k i = x
 | 0, x => by simp [fstK]
 | s + 1, x => by
   have ih := fstK_mem (k := k) (s := s) (x := x)
   rw [fstK]; split
   · rename_i h
     rw [ih]
     constructor
     · rintro ⟨i, h1, h2⟩; exact ⟨i, by omega, h2⟩
     · rintro ⟨i, h1, h2⟩
       by_cases e : i = s
       · subst e; subst h2; exact ih.1 h
       · exact ⟨i, by omega, h2⟩
   · rw [List.mem_append, ih, List.mem_singleton]
     constructor
     · rintro (⟨i, h1, h2⟩ | h)
       · exact ⟨i, by omega, h2⟩
       · exact ⟨s, by omega, h.symm⟩
     · rintro ⟨i, h1, h2⟩
       by_cases e : i = s
       · subst e; exact .inr h2.symm
       · exact .inl ⟨i, by omega, h2⟩
theorem fstK_nd (k : Nat → κ) : ∀ s, (fstK k s).Nodup
 | 0 => List.nodup_nil
 | s + 1 => by
   rw [fstK]; split
   · exact fstK_nd k s
   · rename_i h
     rw [List.nodup_append]
     exact ⟨fstK_nd k s, by simp, fun a ha b hb e => h (by rw [List.mem_singleton.1 hb] at e; rw [← e]; exact ha)⟩
theorem posI_lt {l : List κ} {x : κ} : posK id l x < l.length ↔ x ∈ l := by
 rw [posK_lt]
 constructor
 · rintro ⟨y, h1, rfl⟩; exact h1
 · exact fun h => ⟨x, h, rfl⟩
theorem fstK_old {k : Nat → κ} {s : Nat} (h : posK id (fstK k s) (k s) < (fstK k s).length) : fstK k (s + 1) = fstK k s := by rw [fstK, if_pos (posI_lt.1 h)]
theorem fstK_new {k : Nat → κ} {s : Nat} (h : ¬ posK id (fstK k s) (k s) < (fstK k s).length) : fstK k (s + 1) = fstK k s ++ [k s] := by rw [fstK, if_neg fun h1 => h (posI_lt.2 h1)]
theorem fstK_pos {k : Nat → κ} {s n : Nat} (h : s < n) : posK id (fstK k n) (k s) = posK id (fstK k (s + 1)) (k s) ∧ posK id (fstK k n) (k s) < (fstK k n).length := by
 have h1 : k s ∈ fstK k (s + 1) := fstK_mem.2 ⟨s, by omega, rfl⟩
 have h2 := fstK_pre' k (s + 1) (n - (s + 1))
 rw [show s + 1 + (n - (s + 1)) = n by omega] at h2
 obtain ⟨e, he⟩ := h2
 exact ⟨by rw [← he, posK_app e (posI_lt.2 h1)], posI_lt.2 (fstK_mem.2 ⟨s, h, rfl⟩)⟩
end
def keyC (rows : List (List Nat)) (c : Nat → Nat) (s : Nat) : List Nat := c s :: ((rows[s]?).getD []).map c
def nextC (rows : List (List Nat)) (c : Nat → Nat) (s : Nat) : Nat := posK id (fstK (keyC rows c) rows.length) (keyC rows c s)
def cntC (rows : List (List Nat)) (c : Nat → Nat) : Nat := (fstK (keyC rows c) rows.length).length
def clsIt (rows : List (List Nat)) : Nat → (Nat → Nat) → Nat → (Nat → Nat)
 | 0, c, _ => c
 | f + 1, c, k => if cntC rows c = k then nextC rows c else clsIt rows f (nextC rows c) (cntC rows c)
def finC (fin : List Bool) (s : Nat) : Nat := if (fin[s]?).getD false then 1 else 0
def clsT (t : Tab) : Nat → Nat := clsIt t.rows (t.rows.length + 2) (finC t.fin) 0
structure COk (n : Nat) (c : Nat → Nat) (k : Nat) : Prop where
 hit : ∀ v, v < k → ∃ s, s < n ∧ c s = v
 le : k ≤ n
 bd : ∀ s, s < n → c s ≤ n
theorem COk.start (fin : List Bool) (n : Nat) : COk n (finC fin) 0 := ⟨fun v h => by omega, Nat.zero_le _, fun s h => by unfold finC; split <;> omega⟩
theorem COk.grow {rows : List (List Nat)} {c : Nat → Nat} {k : Nat} (h : COk rows.length c k) : k ≤ cntC rows c := by
 have h1 : ∀ v, v < k → v ∈ (fstK (keyC rows c) rows.length).map fun l => l.headD 0 := fun v hv => by
  obtain ⟨s, hs, rfl⟩ := h.hit v hv
  exact List.mem_map.2 ⟨keyC rows c s, fstK_mem.2 ⟨s, hs, rfl⟩, rfl⟩
 have h2 : ∀ (n : Nat) (L : List Nat), (∀ v, v < n → v ∈ L) → n ≤ L.length := fun n => by
  induction n with
  | zero => exact fun _ _ => Nat.zero_le _
  | succ n ih =>
    intro L hL
    have h3 := ih (L.erase n) fun v hv => (List.mem_erase_of_ne (by omega)).2 (hL v (by omega))
    rw [List.length_erase_of_mem (hL n (by omega))] at h3
    have := List.length_pos_of_mem (hL n (by omega))
    omega
 have := h2 k _ h1
 rwa [List.length_map] at this
theorem COk.next {rows : List (List Nat)} {c : Nat → Nat} {k : Nat} (h : COk rows.length c k) : COk rows.length (nextC rows c) (cntC rows c) := by
 have hl := fstK_len (keyC rows c) rows.length
 refine ⟨fun v hv => ?_, hl, fun s hs => ?_⟩
 · obtain ⟨x, hx⟩ := get_some hv
   obtain ⟨s, hs, rfl⟩ := fstK_mem.1 (List.mem_of_getElem? hx)
   refine ⟨s, hs, ?_⟩
   have hn : ((fstK (keyC rows c) rows.length).map id).Nodup := by rw [List.map_id]; exact fstK_nd _ _
   exact posK_idx hn hx
 · have := (fstK_pos (k := keyC rows c) hs).2
   show posK _ _ _ ≤ _
   omega
theorem nextC_lt {rows : List (List Nat)} {c : Nat → Nat} {s : Nat} (hs : s < rows.length) : nextC rows c s < cntC rows c := (fstK_pos (k := keyC rows c) hs).2
def toT (t : Tab) (x s : Nat) : Nat := ((((t.rows[x]?).getD [])[s]?).getD 0)
def minW (t : Tab) : Srch Nat Nat := ⟨clsT t, t.rows.length, t.m, fun _ x s => toT t x s⟩
theorem toT_at {t : Tab} {x s n : Nat} {r : List Nat} (h : t.rows[x]? = some r) (h2 : r[s]? = some n) : toT t x s = n := by
 unfold toT; rw [h]; show ((r[s]?).getD 0) = n; rw [h2]; rfl
theorem toT_lt {t : Tab} (h : TOk t) {x s : Nat} : toT t x s < t.rows.length := by
 unfold toT
 cases h1 : t.rows[x]? with
 | none => simpa using h.pos
 | some r =>
   show ((r[s]?).getD 0) < _
   cases h2 : r[s]? with
   | none => simpa using h.pos
   | some n => exact h.to r (List.mem_of_getElem? h1) n (List.mem_of_getElem? h2)
theorem nodup_of_map {α β : Type} {f : α → β} : ∀ {l : List α}, (l.map f).Nodup → l.Nodup
 | [], _ => List.nodup_nil
 | x :: l, h => by
   rw [List.map_cons, List.nodup_cons] at h
   exact List.nodup_cons.2 ⟨fun h1 => h.1 (List.mem_map_of_mem h1), nodup_of_map h.2⟩
theorem min_visit {t : Tab} (h : TOk t) {o : List Nat} (hm : (minW t).Met (· < t.rows.length) 0 o) {x : Nat} (hx : x < t.rows.length) (hn : ¬ posK (minW t).key o ((minW t).key x) < o.length) : o.length < t.rows.length := by
 have h1 : (o ++ [x]).Nodup := by
  rw [List.nodup_append]
  refine ⟨nodup_of_map hm.nd, by simp, fun a ha b hb e => hn (posK_lt.2 ⟨x, ?_, rfl⟩)⟩
  rw [List.mem_singleton.1 hb] at e
  rw [← e]; exact ha
 have := nodupN_len h1 fun s hs => by
  rcases List.mem_append.1 hs with hs | hs
  · exact hm.p s hs
  · rw [List.mem_singleton.1 hs]; exact hx
 rw [List.length_append, List.length_singleton] at this
 omega
theorem min_ok {t : Tab} (h : TOk t) {i : Nat} {o : List Nat} {rows : List (List Nat)} (hu : (minW t).upto 0 i = some (o, rows)) : (minW t).Ok (· < t.rows.length) 0 o rows ∧ (i ≤ o.length → rows.length = i) ∧ (o.length ≤ i → rows.length = o.length) :=
 Srch.ok (W := minW t) (P := (· < t.rows.length)) h.pos h.pos (fun _ _ s _ _ => toT_lt h) hu
def rowMv (i : Nat) (r : List Nat) : List Mv := r.zipIdx.map fun p => ⟨(i : Nat), (p.1 : Nat), (p.2 : Nat)⟩
def movesT (rows : List (List Nat)) : List Mv := rows.zipIdx.flatMap fun p => rowMv p.2 p.1
theorem rowMv_snoc (i : Nat) (r : List Nat) (n : Nat) : rowMv i (r ++ [n]) = rowMv i r ++ [⟨(i : Nat), (n : Nat), (r.length : Nat)⟩] := by
 unfold rowMv; rw [List.zipIdx_append, List.map_append]; simp
theorem rowMv_len (i : Nat) (r : List Nat) : (rowMv i r).length = r.length := by unfold rowMv; simp
theorem movesT_snoc (rows : List (List Nat)) (r : List Nat) : movesT (rows ++ [r]) = movesT rows ++ rowMv rows.length r := by
 unfold movesT; rw [List.zipIdx_append, List.flatMap_append]; simp
theorem movesT_len {m : Nat} : ∀ (rows : List (List Nat)), (∀ r ∈ rows, r.length = m) → (movesT rows).length = rows.length * m := by
 intro rows
 have key : ∀ (L : List (List Nat)) (k : Nat), (∀ r ∈ L, r.length = m) → ((L.zipIdx k).flatMap fun p => rowMv p.2 p.1).length = L.length * m := by
  intro L
  induction L with
  | nil => intro k _; simp
  | cons r L ih =>
    intro k h
    rw [List.zipIdx_cons, List.flatMap_cons, List.length_append, ih (k + 1) (fun r hr => h r (List.mem_cons_of_mem _ hr)), rowMv_len, h r (List.mem_cons_self ..), List.length_cons, Nat.succ_mul]
    omega
 exact key rows 0
def finAt (t : Tab) (o : List Nat) (i : Nat) : Bool := (t.fin[(o[i]?).getD 0]?).getD false
def autQ (t : Tab) (q : List Nat × List (List Nat)) : Aut := ⟨(q.1.length : Nat), (t.m : Nat), [0], listedL q.1.length (finAt t q.1), movesT q.2⟩
def leastT (t : Tab) : Option Aut := ((minW t).all 0).bind fun q => if 20000 < (movesT q.2).length then none else some (autQ t q)
def autZ : Aut := ⟨0, 0, [], [], []⟩
def resA : Except Int Aut → PV
 | .ok a => .tup [pAut a, pInt 0]
 | .error e => .tup [pAut autZ, pInt e]
def rawZ : PV := .agg [pInt 0, pInt 0, .val (.slice none 0 0), .val (.slice none 0 0), .val (.slice none 0 0)]
def resW : Except Int Aut → PV
 | .ok a => .tup [pAut a, pInt 0]
 | .error e => .tup [rawZ, pInt e]
def lim (x : Option Aut) : Except Int Aut := match x with
 | some a => .ok a
 | none => .error 13
def redX (a : Aut) : Except Int Aut := match subT a with
 | some t => lim (leastT t)
 | none => .error 13
def minX (a : Aut) : Except Int Aut := if autOk a then redX a else .error 1
def valD (l : List UInt8) : Nat := l.foldl (fun v b => v * 10 + (b.toNat - 48)) 0
theorem valD_snoc (l : List UInt8) (b : UInt8) : valD (l ++ [b]) = valD l * 10 + (b.toNat - 48) := by unfold valD; rw [List.foldl_append]; rfl
theorem dig_nat {u : Nat} (h : u < 10) : (UInt8.ofNat (48 + u)).toNat = 48 + u := by
 rw [UInt8.toNat_ofNat']; omega
theorem valD_dec (u : Nat) : valD (Lib.decDigits u) = u := by
 induction u using Nat.strongRecOn with
 | _ u ih =>
   rw [Lib.decDigits]
   split
   · rename_i h
     show 0 * 10 + ((UInt8.ofNat (48 + u)).toNat - 48) = u
     rw [dig_nat h]; omega
   · rw [valD_snoc, ih (u / 10) (by omega), dig_nat (by omega)]; omega
theorem dec_ne (u : Nat) : ∀ b ∈ Lib.decDigits u, b ≠ 32 := by
 induction u using Nat.strongRecOn with
 | _ u ih =>
   have key : ∀ v : Nat, v < 10 → UInt8.ofNat (48 + v) ≠ 32 := fun v hv e => by
    have := congrArg UInt8.toNat e
    rw [dig_nat hv] at this
    have h32 : (32 : UInt8).toNat = 32 := rfl
    omega
   rw [Lib.decDigits]
   split
   · rename_i h
     intro b hb
     rw [List.mem_singleton.1 hb]; exact key u h
   · intro b hb
     rcases List.mem_append.1 hb with hb | hb
     · exact ih (u / 10) (by omega) b hb
     · rw [List.mem_singleton.1 hb]; exact key _ (by omega)
theorem split_32 : ∀ {a b c d : List UInt8}, (∀ x ∈ a, x ≠ 32) → (∀ x ∈ b, x ≠ 32) → a ++ 32 :: c = b ++ 32 :: d → a = b ∧ c = d
 | [], [], c, d, _, _, h => ⟨rfl, (List.cons.inj h).2⟩
 | [], y :: b, c, d, _, hb, h => absurd (List.cons.inj h).1.symm (hb y (List.mem_cons_self ..))
 | x :: a, [], c, d, ha, _, h => absurd (List.cons.inj h).1 (ha x (List.mem_cons_self ..))
 | x :: a, y :: b, c, d, ha, hb, h => by
   obtain ⟨h1, h2⟩ := List.cons.inj h
   obtain ⟨h3, h4⟩ := split_32 (fun z hz => ha z (List.mem_cons_of_mem _ hz)) (fun z hz => hb z (List.mem_cons_of_mem _ hz)) h2
   exact ⟨by rw [h1, h3], h4⟩
def keyL (l : List Int) : List UInt8 := l.flatMap fun s => Lib.itoa s ++ [32]
def keyB (l : List Int) : ByteArray := ⟨(keyL l).toArray⟩
theorem keyL_inj : ∀ {l m : List Int}, (∀ x ∈ l, 0 ≤ x) → (∀ x ∈ m, 0 ≤ x) → keyL l = keyL m → l = m
 | [], [], _, _, _ => rfl
 | [], y :: m, _, _, h => by
   have := congrArg List.length h
   simp only [keyL, List.flatMap_cons, List.flatMap_nil, List.length_append, List.length_cons, List.length_nil] at this
   omega
 | x :: l, [], _, _, h => by
   have := congrArg List.length h
   simp only [keyL, List.flatMap_cons, List.flatMap_nil, List.length_append, List.length_cons, List.length_nil] at this
   omega
 | x :: l, y :: m, hl, hm, h => by
   have hx := hl x (List.mem_cons_self ..)
   have hy := hm y (List.mem_cons_self ..)
   have e1 : Lib.itoa x = Lib.decDigits x.toNat := by unfold Lib.itoa; rw [if_neg (by omega)]
   have e2 : Lib.itoa y = Lib.decDigits y.toNat := by unfold Lib.itoa; rw [if_neg (by omega)]
   have h' : Lib.decDigits x.toNat ++ 32 :: keyL l = Lib.decDigits y.toNat ++ 32 :: keyL m := by
    have : keyL (x :: l) = Lib.itoa x ++ [32] ++ keyL l := rfl
    rw [this, show keyL (y :: m) = Lib.itoa y ++ [32] ++ keyL m from rfl, e1, e2] at h
    simpa using h
   obtain ⟨h1, h2⟩ := split_32 (dec_ne _) (dec_ne _) h'
   have h3 := congrArg valD h1
   rw [valD_dec, valD_dec] at h3
   rw [keyL_inj (fun z hz => hl z (List.mem_cons_of_mem _ hz)) (fun z hz => hm z (List.mem_cons_of_mem _ hz)) h2, show x = y by omega]
theorem ba_inj {l m : List UInt8} (h : (⟨l.toArray⟩ : ByteArray) = ⟨m.toArray⟩) : l = m := by
 have := ByteArray.mk.inj h
 simpa using this
theorem keyB_inj {l m : List Int} (hl : ∀ x ∈ l, 0 ≤ x) (hm : ∀ x ∈ m, 0 ≤ x) : keyB l = keyB m ↔ l = m :=
 ⟨fun h => keyL_inj hl hm (ba_inj h), fun h => by rw [h]⟩
def digL (l : List Int) : List UInt8 := l.flatMap fun x => [UInt8.ofNat (x.toNat % 250 + 1), UInt8.ofNat (x.toNat / 250 + 1), 0]
def digB (l : List Int) : ByteArray := ⟨(digL l).toArray⟩
theorem digL_inj : ∀ {l m : List Int}, (∀ x ∈ l, 0 ≤ x ∧ x ≤ 2000) → (∀ x ∈ m, 0 ≤ x ∧ x ≤ 2000) → digL l = digL m → l = m
 | [], [], _, _, _ => rfl
 | [], y :: m, _, _, h => by simp [digL] at h
 | x :: l, [], _, _, h => by simp [digL] at h
 | x :: l, y :: m, hl, hm, h => by
   have hx := hl x (List.mem_cons_self ..)
   have hy := hm y (List.mem_cons_self ..)
   have h' : UInt8.ofNat (x.toNat % 250 + 1) :: UInt8.ofNat (x.toNat / 250 + 1) :: 0 :: digL l = UInt8.ofNat (y.toNat % 250 + 1) :: UInt8.ofNat (y.toNat / 250 + 1) :: 0 :: digL m := h
   obtain ⟨h1, h2⟩ := List.cons.inj h'
   obtain ⟨h3, h4⟩ := List.cons.inj h2
   have h5 := (List.cons.inj h4).2
   have h6 := congrArg UInt8.toNat h1
   have h7 := congrArg UInt8.toNat h3
   rw [UInt8.toNat_ofNat', UInt8.toNat_ofNat'] at h6 h7
   rw [digL_inj (fun z hz => hl z (List.mem_cons_of_mem _ hz)) (fun z hz => hm z (List.mem_cons_of_mem _ hz)) h5, show x = y by omega]
theorem digB_inj {l m : List Int} (hl : ∀ x ∈ l, 0 ≤ x ∧ x ≤ 2000) (hm : ∀ x ∈ m, 0 ≤ x ∧ x ≤ 2000) : digB l = digB m ↔ l = m :=
 ⟨fun h => digL_inj hl hm (ba_inj h), fun h => by rw [h]⟩
def toI (l : List Nat) : List Int := l.map fun x : Nat => (x : Int)
theorem toI_inj {l m : List Nat} : toI l = toI m ↔ l = m := by
 unfold toI
 constructor
 · intro h
   have := congrArg (List.map Int.toNat) h
   simpa [List.map_map, Function.comp_def] using this
 · intro h; rw [h]
def eqM (a b : Mv) : Bool := decide (a.src = b.src) && decide (a.dst = b.dst) && decide (a.sym = b.sym)
theorem eqM_iff {a b : Mv} : eqM a b = true ↔ a = b := by
 unfold eqM
 simp only [Bool.and_eq_true, decide_eq_true_eq]
 cases a; cases b
 simp only [Mv.mk.injEq, and_assoc]
theorem mvLt_irr (a : Mv) : mvLt a a = false := by
 cases h : mvLt a a with
 | false => rfl
 | true => have := mvLt_iff.1 h; omega
theorem mvLt_tr {a b c : Mv} (h1 : mvLt a b = true) (h2 : mvLt b c = true) : mvLt a c = true := by
 rw [mvLt_iff] at h1 h2 ⊢; omega
theorem mvLt_tri {a b : Mv} (h1 : mvLt a b = false) (h2 : mvLt b a = false) : a = b := by
 have e1 : ¬ mvLt a b = true := by rw [h1]; simp
 have e2 : ¬ mvLt b a = true := by rw [h2]; simp
 rw [mvLt_iff] at e1 e2
 rw [← eqM_iff]; unfold eqM
 simp only [Bool.and_eq_true, decide_eq_true_eq]; omega
def AscM (l : List Mv) : Prop := l.Pairwise fun a b => mvLt a b = true
theorem ascM_ext : ∀ {l m : List Mv}, AscM l → AscM m → (∀ x, x ∈ l ↔ x ∈ m) → l = m
 | [], [], _, _, _ => rfl
 | [], y :: m, _, _, h => absurd ((h y).2 (List.mem_cons_self ..)) (by simp)
 | x :: l, [], _, _, h => absurd ((h x).1 (List.mem_cons_self ..)) (by simp)
 | x :: l, y :: m, hl, hm, h => by
   have hl' := List.pairwise_cons.1 hl
   have hm' := List.pairwise_cons.1 hm
   have hxy : x = y := by
    rcases List.mem_cons.1 ((h x).1 (List.mem_cons_self ..)) with e | h1
    · exact e
    · rcases List.mem_cons.1 ((h y).2 (List.mem_cons_self ..)) with e | h2
      · exact e.symm
      · have h3 := mvLt_tr (hm'.1 x h1) (hl'.1 y h2)
        rw [mvLt_irr] at h3; cases h3
   subst hxy
   congr 1
   refine ascM_ext hl'.2 hm'.2 fun z => ⟨fun hz => ?_, fun hz => ?_⟩
   · rcases List.mem_cons.1 ((h z).1 (List.mem_cons_of_mem _ hz)) with e | h1
     · have h3 := hl'.1 z hz
       rw [e, mvLt_irr] at h3; cases h3
     · exact h1
   · rcases List.mem_cons.1 ((h z).2 (List.mem_cons_of_mem _ hz)) with e | h1
     · have h3 := hm'.1 z hz
       rw [e, mvLt_irr] at h3; cases h3
     · exact h1
def insM (m : Mv) : List Mv → List Mv
 | [] => [m]
 | x :: l => if mvLt m x then m :: x :: l else if eqM m x then x :: l else x :: insM m l
theorem insM_mem {m y : Mv} : ∀ {l : List Mv}, y ∈ insM m l ↔ y = m ∨ y ∈ l
 | [] => by simp [insM]
 | x :: l => by
   rw [insM]; split
   · simp
   · split
     · rename_i h
       rw [eqM_iff] at h; subst h
       simp
     · rw [List.mem_cons, insM_mem, List.mem_cons]
       constructor
       · rintro (h | h | h)
         · exact .inr (.inl h)
         · exact .inl h
         · exact .inr (.inr h)
       · rintro (h | h | h)
         · exact .inr (.inl h)
         · exact .inl h
         · exact .inr (.inr h)
theorem insM_asc {m : Mv} : ∀ {l : List Mv}, AscM l → AscM (insM m l)
 | [], _ => by simp [insM, AscM]
 | x :: l, h => by
   have h' := List.pairwise_cons.1 h
   rw [insM]; split
   · rename_i hm
     refine List.pairwise_cons.2 ⟨fun z hz => ?_, h⟩
     rcases List.mem_cons.1 hz with rfl | hz
     · exact hm
     · exact mvLt_tr hm (h'.1 z hz)
   · rename_i hm
     split
     · exact h
     · rename_i he
       refine List.pairwise_cons.2 ⟨fun z hz => ?_, insM_asc h'.2⟩
       rcases insM_mem.1 hz with rfl | hz
       · cases hxz : mvLt x z with
         | true => rfl
         | false => exact absurd (eqM_iff.2 (mvLt_tri (by simpa using hm) hxz)) he
       · exact h'.1 z hz
def mkM : List Mv → List Mv
 | [] => []
 | x :: l => insM x (mkM l)
theorem mkM_mem {y : Mv} : ∀ {l : List Mv}, y ∈ mkM l ↔ y ∈ l
 | [] => by simp [mkM]
 | x :: l => by rw [mkM, insM_mem, mkM_mem, List.mem_cons]
theorem mkM_asc : ∀ l, AscM (mkM l)
 | [] => .nil
 | x :: l => insM_asc (mkM_asc l)
theorem mkM_eq {l m : List Mv} (hl : AscM l) (h : ∀ x, x ∈ l ↔ x ∈ m) : l = mkM m := ascM_ext hl (mkM_asc m) fun x => by rw [h, mkM_mem]
theorem asc_len {l m : List Mv} (hl : AscM l) (h : ∀ x ∈ l, x ∈ m) : l.length ≤ m.length := by
 induction l generalizing m with
 | nil => exact Nat.zero_le _
 | cons x l ih =>
   have h' := List.pairwise_cons.1 hl
   obtain ⟨a, b, rfl⟩ := List.append_of_mem (h x (List.mem_cons_self ..))
   have := ih (m := a ++ b) h'.2 fun y hy => by
    rcases List.mem_append.1 (h y (List.mem_cons_of_mem _ hy)) with h1 | h1
    · exact List.mem_append_left _ h1
    · rcases List.mem_cons.1 h1 with rfl | h1
      · have := h'.1 y hy
        rw [mvLt_irr] at this; cases this
      · exact List.mem_append_right _ h1
   simp only [List.length_append, List.length_cons] at this ⊢
   omega
theorem mkM_len (l : List Mv) : (mkM l).length ≤ l.length := asc_len (mkM_asc l) fun x h => mkM_mem.1 h
def redL (a : Aut) : Except Int Aut := if 2000 < a.n ∨ 20000 < a.moves.length then .error 13 else redX a
def madeX (a : Aut) : Except Int Aut := redL { a with moves := mkM a.moves }
def starA (a : Aut) : Aut := ⟨a.n + 1, a.syms, [a.n], [a.n], a.moves ++ (a.start.map fun s => ⟨a.n, s, -1⟩) ++ a.fin.map fun s => ⟨s, a.n, -1⟩⟩
def starX (a : Aut) : Except Int Aut := if autOk a then madeX (starA a) else .error 1
def stepA (A : Aut) (i s : Nat) : Nat := (((A.moves[i * A.syms.toNat + s]?).map Mv.dst).getD 0).toNat
def decB (op : Int) (x y : Bool) : Bool := if op = 1 then x && y else if op = 2 then x || y else if op = 3 then x && !y else x != y
def prodW (A B : Aut) : Srch ((Nat × Nat) × (Int × Int)) (Nat × Nat) := ⟨Prod.fst, 2000, A.syms.toNat, fun i x s => ((stepA A x.1.1 s, stepA B x.1.2 s), ((i : Nat), (s : Nat)))⟩
def prodQ (A B : Aut) : Option (List ((Nat × Nat) × (Int × Int)) × List (List Nat)) := (prodW A B).all ((0, 0), (-1, -1))
def prodF (A B : Aut) (op : Int) (x : (Nat × Nat) × (Int × Int)) : Bool := decB op (finB A (x.1.1 : Nat)) (finB B (x.1.2 : Nat))
def bothX (a b : Aut) : Except Int (Aut × Aut × List ((Nat × Nat) × (Int × Int)) × List (List Nat)) := match redX a, redX b with
 | .ok A, .ok B => match prodQ A B with
   | some q => .ok (A, B, q)
   | none => .error 13
 | _, _ => .error 13
def fitX (a b : Aut) : Int := if autOk a = false ∨ autOk b = false then 1 else if ¬ a.syms = b.syms then 29 else 0
def pathP (par : List (Int × Int)) : Nat → Nat → List Int
 | 0, _ => []
 | f + 1, i => match par[i]? with
   | some x => if x.1 < 0 then [] else pathP par f x.1.toNat ++ [x.2]
   | none => []
def cmpR (A B : Aut) (op : Int) (q : List ((Nat × Nat) × (Int × Int)) × List (List Nat)) : Bool × List Int :=
 match (q.1.map (prodF A B op)).idxOf? true with
 | some i => (false, pathP (q.1.map (·.2)) (i + 1) i)
 | none => (true, [])
def cmpX (a b : Aut) (op : Int) : Bool × List Int × Int := if ¬ fitX a b = 0 then (false, [], fitX a b) else match bothX a b with
 | .ok (A, B, q) => ((cmpR A B op q).1, (cmpR A B op q).2, 0)
 | .error e => (false, [], e)
end Go.Proofs.YtgigclnaicbiaaaGreatDoor
namespace Go.En
open Go.RowKit Go.Cb
set_option linter.all false
section
variable {P : Program} {c : Ctx} {ops : Array Oper} {Q : Exit → Act → World → Prop} {rest : List Oper} {sL hP : List (Nat × Ent)} {o : Oper}
theorem fold_off : ∀ (l : List Value) (j off : Nat) (cells : Array Value), (l.zipIdx j).foldl (fun cs x => cs.setIfInBounds (off + x.2) x.1) cells = (l.zipIdx (off + j)).foldl (fun cs x => cs.setIfInBounds (0 + x.2) x.1) cells
 | [], j, off, cells => rfl
 | x :: l, j, off, cells => by
   simp only [List.zipIdx_cons, List.foldl_cons]
   rw [fold_off l (j + 1) off, Nat.zero_add, Nat.add_assoc]
theorem fold_mid : ∀ (l : List Value) (i : Nat) (cells : Array Value), i + l.length ≤ cells.size → (l.zipIdx i).foldl (fun cs x => cs.setIfInBounds (0 + x.2) x.1) cells = (cells.toList.take i ++ l ++ cells.toList.drop (i + l.length)).toArray
 | [], i, cells, h => by
   simp only [List.zipIdx_nil, List.foldl_nil, List.append_nil, List.length_nil, Nat.add_zero, List.take_append_drop, Array.toArray_toList]
 | x :: l, i, cells, h => by
   simp only [List.zipIdx_cons, List.foldl_cons]
   simp only [List.length_cons] at h
   rw [fold_mid l (i + 1) _ (by simp; omega)]
   congr 1
   rw [Nat.zero_add, Array.toList_setIfInBounds, List.take_succ_eq_append_getElem (by simp; omega)]
   simp only [List.getElem_set_self, List.length_cons]
   rw [List.take_set_of_le (by omega), List.drop_set_of_lt (by omega), show i + 1 + l.length = i + (l.length + 1) by omega]
   simp
theorem fill_k (kk : Nat) : ∀ (vs : List (List Value)) (i : Nat) (cells : Array Value), cells.size = (i + vs.length) * kk → (∀ v ∈ vs, v.length = kk) → Instr.fill (fun i => some (i * kk, kk)) cells (((vs.map fun v => Value.agg v.toArray).zipIdx i).map fun x => (x.2, x.1)) = some (cells.toList.take (i * kk) ++ vs.flatten).toArray
 | [], i, cells, h, _ => by
   simp only [List.map_nil, List.zipIdx_nil, Instr.fill, List.flatten_nil, List.append_nil]
   simp only [List.length_nil, Nat.add_zero] at h
   rw [List.take_of_length_le (by simp; omega)]
 | v :: vs, i, cells, h, h1 => by
   have hv := h1 v (by simp)
   have hcs : (Value.agg v.toArray).cells = v.toArray := rfl
   have hle : (i + 1) * kk ≤ cells.size := by rw [h]; exact Nat.mul_le_mul_right _ (by simp)
   rw [Nat.succ_mul] at hle
   have hc : ¬ ((Value.agg v.toArray).cells.size ≠ kk || decide (i * kk + (Value.agg v.toArray).cells.size > cells.size)) = true := by rw [hcs]; simp; omega
   simp only [List.map_cons, List.zipIdx_cons, Instr.fill, hc, if_false]
   rw [hcs, ← Array.foldl_toList, Array.toList_zipIdx, fold_off, fold_mid _ _ _ (by simp; omega)]
   have := fill_k kk vs (i + 1) (cells.toList.take (i * kk + 0) ++ v ++ cells.toList.drop (i * kk + 0 + v.length)).toArray (by
    simp only [List.size_toArray, List.length_append, List.length_take, List.length_drop, Array.length_toList]
    rw [Nat.min_eq_left (by omega)]
    rw [List.length_cons] at h
    rw [h, show i + 1 + vs.length = i + (vs.length + 1) by omega] at *
    omega) (fun u hu => h1 u (by simp [hu]))
   simp only [Array.toArray_toList] at this ⊢
   rw [this]
   congr 2
   rw [List.flatten_cons, ← List.append_assoc]
   congr 1
   rw [List.take_append_of_le_length (by simp; rw [Nat.succ_mul, Nat.min_eq_left (by omega)]; omega)]
   rw [List.take_of_length_le (by simp; rw [Nat.succ_mul, Nat.min_eq_left (by omega)]; omega)]
   simp
theorem s_lita {t e kk bytes m : Nat} {z : Value} {xs : List Operand} {parts : Array (Nat × Operand)} {es : List Ent} {cs : List (List PV)} (d : Nat) (hT : ElT P t e kk bytes z)
 (k : ∀ h : Value, h.oneCell' = true → aL P c ops Q rest ⟨put d (h, .val h) sL, put d (h, .own e kk m cs.flatten) hP⟩) (hw : wants ops sL o = some true := by exact rfl) (hd : o.dst = some d := by exact rfl) (hn : d < c.nt := by exact Nat.le_of_ble_eq_true rfl) (ho : o.op = .buildSlice t m parts := by exact rfl) (hpt : parts = ((xs.zipIdx).map fun x => (x.2, x.1)).toArray := by exact rfl) (hx : evL sL xs = some es := by exact rfl)
 (hcs : es.map (·.2) = cs.map PV.agg := by exact rfl) (hck : ∀ q ∈ cs, q.length = kk := by simp) (hm : es.length = m := by exact rfl) (hm0 : 0 < m := by decide) (hm1 : m ≤ 1000 := by decide) (hk0 : kk ≤ 1000 := by decide) (hl : lk hP d = none := by exact rfl) : aL P c ops Q (o :: rest) (⟨sL, hP⟩ : St) :=
 aL_run hw fun a w F H => by
  obtain ⟨i, hi1, hi2, hi3, hi4⟩ := hT.info
  obtain ⟨he, hS⟩ := evL_spec H.rd hx
  have hkp := hT.hk
  have key : ∀ (es : List Ent) (cs : List (List PV)), es.map (·.2) = cs.map PV.agg → (∀ q ∈ cs, q.length = kk) → (∀ (i : Nat) (x : Value) (q : PV), (es.map (·.1))[i]? = some x → (es.map (·.2))[i]? = some q → Shr (mof c hP F) w x q) → ∃ us : List (List Value), es.map (·.1) = us.map (fun v => Value.agg v.toArray) ∧ us.length = es.length ∧ (∀ u ∈ us, u.length = kk) ∧ us.flatten.length = cs.flatten.length ∧ ∀ (i : Nat) (x : Value) (q : PV), us.flatten[i]? = some x → cs.flatten[i]? = some q → Shr (mof c hP F) w x q := fun es => by
   induction es with
   | nil =>
     intro cs h1 _ _
     cases cs with
     | nil => exact ⟨[], rfl, rfl, by simp, rfl, by simp⟩
     | cons q cs => simp at h1
   | cons e0 es ih =>
     intro cs h1 h2 h3
     cases cs with
     | nil => simp at h1
     | cons q cs =>
       simp only [List.map_cons, List.cons.injEq] at h1
       obtain ⟨us, g1, g2, g3, g4, g5⟩ := ih cs h1.2 (fun u hu => h2 u (List.mem_cons_of_mem _ hu)) (fun i x q hx hq => h3 (i + 1) x q (by simpa using hx) (by simpa using hq))
       have h4 := h3 0 e0.1 e0.2 rfl rfl
       rw [h1.1] at h4
       generalize hv0 : e0.1 = v0 at h4
       have hqk := h2 q (List.mem_cons_self ..)
       cases h4 with
       | agg vs ps hvl hTT =>
         refine ⟨vs :: us, by rw [List.map_cons, List.map_cons, hv0, g1], by simp [g2], fun u hu => ?_, by rw [List.flatten_cons, List.flatten_cons, List.length_append, List.length_append, g4, hvl], fun i x r hx hr => ?_⟩
         · rcases List.mem_cons.1 hu with rfl | hu
           · omega
           · exact g3 u hu
         · rw [List.flatten_cons] at hx hr
           rcases Nat.lt_or_ge i vs.length with hi | hi
           · rw [List.getElem?_append_left hi] at hx
             rw [List.getElem?_append_left (by omega)] at hr
             exact hTT i x r hx hr
           · rw [List.getElem?_append_right hi] at hx
             rw [List.getElem?_append_right (by omega)] at hr
             refine g5 (i - vs.length) x r hx ?_
             rw [hvl]; exact hr
  obtain ⟨us, u1, u2, u3, u4, u5⟩ := key es cs hcs hck hS
  have hfl : us.flatten.length = m * kk := by
   have : ∀ us : List (List Value), (∀ u ∈ us, u.length = kk) → us.flatten.length = us.length * kk := fun us => by
    induction us with
    | nil => intro _; simp
    | cons u us ih =>
      intro h
      rw [List.flatten_cons, List.length_append, h u (List.mem_cons_self ..), ih fun v hv => h v (List.mem_cons_of_mem _ hv), List.length_cons, Nat.succ_mul]; omega
   rw [this us u3, u2, hm]
  have hmk : m * kk ≤ 1000000 := Nat.le_trans (Nat.mul_le_mul hm1 hk0) (by decide)
  have hmk0 : 0 < m * kk := Nat.mul_pos hm0 hkp
  obtain ⟨F', H'⟩ := alloc_holds (e := e) (k := kk) (n := m) (cap := m) (cur := us.flatten.toArray) (v := .slice (some ⟨w.heap.size, 0, none⟩) m m) H hl hn (vs := us.flatten) (ps := cs.flatten) u4 u5 (by first | omega | exact hfl | (rw [hfl]) | (rw [Nat.mul_comm]; exact hfl)) (Nat.le_refl _) (by unfold maxLen; omega) (by simp; rw [← List.length_flatten, hfl]) (List.take_of_length_le (by simp; rw [← List.length_flatten, hfl]; omega))
  have hf := fill_k kk us 0 ((Array.range (m * i.size)).map (z.cells[· % z.cells.size]!)) (by simp [hi3, u2, hm]) u3
  have hpe : (parts.map fun (i, x) => (i, a.eval x)).toList = ((us.map fun v => Value.agg v.toArray).zipIdx 0).map fun x => (x.2, x.1) := by
   rw [hpt, ← u1, ← he]
   simp [List.zipIdx_map]
  have hr := run_buildSlice (P := P) w t e m (parts.map fun (i, x) => (i, a.eval x)) us.flatten.toArray i z hT.ht hi1 hi2 (by rw [hi3]; omega) (by rw [hi3]; omega) (by rw [hpe, hi3]; rw [hi3] at hf; simpa using hf)
  unfold Oper.wp execOp
  simp only [ho, Sem.run_bind, hr, Result.andThen_ok, Sem.run_pure, Oper.upon, hd]
  exact k (.slice (some ⟨w.heap.size, 0, none⟩) m m) rfl _ _ ⟨F', H'⟩
end
def Rr (p p' : PV) : Prop := ∀ (M : BS) (w : World) (v : Value), Shr M w v p → Shr M w v p'
theorem Rr.rfl' (p : PV) : Rr p p := fun _ _ _ h => h
theorem Rr.nil : Rr (.val (.slice none 0 0)) (.sl 0 []) := fun M w v h => by
 cases h with
 | val => exact .emp none 0 (by unfold maxLen; omega) (fun _ => rfl)
theorem Rr.agg {ps ps' : List PV} (hl : ps.length = ps'.length) (h : ∀ (i : Nat) (p p' : PV), ps[i]? = some p → ps'[i]? = some p' → Rr p p') : Rr (.agg ps) (.agg ps') := fun M w v hv => by
 cases hv with
 | agg vs ps hvl hT =>
   refine .agg vs ps' (by omega) fun i x q hx hq => ?_
   obtain ⟨p, hp⟩ := get_of_len hq hl.symm
   exact h i p q hp hq M w x (hT i x p hx hp)
theorem Rr.tup {ps ps' : List PV} (hl : ps.length = ps'.length) (h : ∀ (i : Nat) (p p' : PV), ps[i]? = some p → ps'[i]? = some p' → Rr p p') : Rr (.tup ps) (.tup ps') := fun M w v hv => by
 cases hv with
 | tup vs ps hvl hT =>
   refine .tup vs ps' (by omega) fun i x q hx hq => ?_
   obtain ⟨p, hp⟩ := get_of_len hq hl.symm
   exact h i p q hp hq M w x (hT i x p hx hp)
theorem Rr.tup2 {p p' q : PV} (h : Rr p p') : Rr (.tup [p, q]) (.tup [p', q]) := Rr.tup rfl fun i a b ha hb => by
 match i with
 | 0 => cases ha; cases hb; exact h
 | 1 => cases ha; cases hb; exact Rr.rfl' _
 | i + 2 => simp at ha
theorem AF.reread {P : Program} {f : Nat} {ps : List PV} {p p' : PV} (h : AF P f ps (· = p)) (hs : shD p = true) (hr : Rr p p') : AF P f ps (· = p') := fun M w vs hM hl hv =>
 (h M w vs hM hl hv).mono fun e w' ⟨v, q, F, h1, h2, h3, h4, h5, h6⟩ => by
   subst h2
   refine ⟨v, p', fun _ => False, h1, rfl, h3, .shr (hr _ _ _ ((h4.shD hs).anti fun b _ hb => ?_)) (fun _ h => h), fun b hb => hb.elim, h6⟩
   rcases hb with hb | hb
   · exact .inl hb
   · exact hb.elim
section
variable {P : Program} {st : St} {o : Oper}
end
section
variable {P : Program} {st : St} {o : Oper} {x y : Operand} {q q' : PV} {t t' : TypeId}
theorem q_rem {kd : IntKind} {a b : Int} (ho : o.op = .binOp .rem t x y t' := by exact rfl) (hx : ev st.slots x = some (.int kd a, q) := by exact rfl) (hy : ev st.slots y = some (.int kd b, q') := by exact rfl) (hb : b ≠ 0 := by first | decide | omega) : YE P st o (· = .int kd (a.tmod b)) (.val (.int kd (a.tmod b))) :=
 y2 hx hy fun ρ w h3 h4 => by
  simp [execOp, ho, h3, h4, eqGuard, binOp, Op.intDiv, hb]
end
section
variable {P : Program} {st : St} {o : Oper}
theorem q_eqlT {x y : Operand} {q q' : PV} {t t' : TypeId} {k : IntKind} {a : Int} (ho : o.op = .binOp .eql t x y t' := by exact rfl) (hx : ev st.slots x = some (.int k a, q) := by exact rfl) (hy : ev st.slots y = some (.int k a, q') := by exact rfl) : YE P st o (· = .bool true) (.val (.bool true)) := by
 have h := q_eql (P := P) ho hx hy
 rwa [decide_eq_true rfl] at h
end
theorem tab_below {P : Program} {g : Nat} (hg : P.globalNamed "internal/strconv.uint64pow10" = some g) (ht : tabG = some g) {w : World} {M N : BS} (h : TabW w M N) {B : Nat} (hB : g < B) : Lib.TabBelow P B w "internal/strconv.uint64pow10" .u64 Lib.pow10Tab := fun w' hb => by
 obtain ⟨⟨ty, at', h1⟩, _, _⟩ := h g ht
 have h2 := (hb.block g hB).trans h1
 unfold Lib.TabIs World.var?
 rw [hg, Option.bind_some, h2]
theorem tabW_of {P : Program} {g : Nat} (hg : P.globalNamed "internal/strconv.uint64pow10" = some g) (ht : tabG = some g) {w : World} (h : Lib.TabIs P w "internal/strconv.uint64pow10" .u64 Lib.pow10Tab) : TabW w (fun _ => False) (fun _ => False) := fun g' hg' => by
 obtain rfl : g = g' := Option.some.inj (ht.symm.trans hg')
 unfold Lib.TabIs World.var? at h
 rw [hg, Option.bind_some] at h
 split at h
 · rename_i cs ty at' hc
   cases h
   exact ⟨⟨ty, at', hc⟩, fun h => h, fun h => h⟩
 · cases h
def keepS (K : List Nat) (s : List (Nat × Ent)) : List (Nat × Ent) := K.filterMap fun t => (lk s t).map fun x => (t, x)
theorem keepS_lk {s : List (Nat × Ent)} {t : Nat} {x : Ent} : ∀ {K : List Nat}, lk (keepS K s) t = some x → lk s t = some x ∧ (t, x) ∈ keepS K s
 | [], h => by simp [keepS, lk] at h
 | k :: K, h => by
   unfold keepS at h ⊢
   rw [List.filterMap_cons] at h ⊢
   cases hk : lk s k with
   | none =>
     rw [hk] at h
     simp only [Option.map_none] at h ⊢
     exact keepS_lk (K := K) h
   | some y =>
     rw [hk] at h
     simp only [Option.map_some] at h ⊢
     rw [lk] at h
     cases hb : Nat.beq k t
     · rw [hb, cond_false] at h
       obtain ⟨h1, h2⟩ := keepS_lk (K := K) h
       exact ⟨h1, List.mem_cons_of_mem _ h2⟩
     · rw [hb, cond_true] at h
       have := Nat.eq_of_beq_eq_true hb
       subst this
       cases h
       exact ⟨hk, List.mem_cons_self ..⟩
def ShrL (M : BS) (w : World) : List (Nat × Ent) → Prop
 | [] => True
 | x :: l => Shr M w x.2.1 x.2.2 ∧ ShrL M w l
theorem ShrL.at {M : BS} {w : World} : ∀ {l : List (Nat × Ent)} {x : Nat × Ent}, ShrL M w l → x ∈ l → Shr M w x.2.1 x.2.2
 | y :: l, x, h, hx => by
   rcases List.mem_cons.1 hx with rfl | hx
   · exact h.1
   · exact ShrL.at h.2 hx
def pByte (b : UInt8) : PV := .val (.int .u8 (b.toNat : Nat))
theorem bytes_of {M : BS} {w : World} {bs : List UInt8} {xs : List Value} {Fs : Nat → BS} (hlen : (bs.map pByte).length = xs.length) (hT : ∀ (i : Nat) (x : Value) (p : PV), xs[i]? = some x → (bs.map pByte)[i]? = some p → Tr M w x p (Fs i)) : xs = Lib.byteCells bs := by
 apply List.ext_getElem?
 intro j
 unfold Lib.byteCells
 rw [List.getElem?_map]
 cases hj : bs[j]? with
 | none =>
   have := List.getElem?_eq_none_iff.1 hj
   rw [List.length_map] at hlen
   exact List.getElem?_eq_none (by omega)
 | some b =>
   have hp : (bs.map pByte)[j]? = some (pByte b) := by rw [List.getElem?_map, hj]; rfl
   obtain ⟨v, hv⟩ := get_of_len hp hlen
   rw [hv]
   have := ((hT j v _ hv hp).sh rfl).vOf
   exact congrArg some this
theorem strOf_bytes (bs : List UInt8) : strOfNums (bs.map fun b : UInt8 => (b.toNat : Int)) = ⟨bs.toArray⟩ := by
 unfold strOfNums
 rw [List.map_map]
 congr 2
 conv => rhs; rw [← List.map_id bs]
 refine List.map_congr_left fun b _ => ?_
 simp
theorem q_bstr {P : Program} {sL hP : List (Nat × Ent)} {o : Oper} {s d e e' n : Nat} {x : Operand} {h : Value} {q : PV} {bs : List UInt8} (l : Nat) (hs : P.underlying s = some (.slice e')) (he : P.underlying e' = some (.int .u8)) (hd : P.underlying d = some .string) (ho : o.op = .convert s d x := by exact rfl) (hx : ev sL x = some (h, q) := by exact rfl) (hl : lk hP l = some (h, .own e 1 n (bs.map pByte)) := by exact rfl) : YE P (⟨sL, hP⟩ : St) o (· = .string ⟨bs.toArray⟩) (.val (.string ⟨bs.toArray⟩)) := fun M F a w H => by
 have hv := (H.ev hx).1
 obtain ⟨xs, Fs, hrow, hlen, hTr, hdj, hb, hF'⟩ := (H.tr l _ _ hl).row
 have hxs := bytes_of hlen hTr
 subst hxs
 refine ⟨.string ⟨bs.toArray⟩, rfl, .val _, fun N W hch hN hF => ?_⟩
 rcases row_form hrow with ⟨h1, h2, h3⟩ | ⟨g, cap, h1, h2, h3, h4⟩
 · have hbn : bs = [] := by
    unfold Lib.byteCells at h3
    exact List.map_eq_nil_iff.1 h3
   subst hbn
   rw [h1] at hv
   have := run_convert_bytes_nil W s e' hs he 0 0 d hd
   simp [execOp, ho, hv, this]
   rfl
 · have hrow2 := hrow
   rw [h1] at hrow2
   have hn : n = bs.length := by
    have := hrow.1
    simp [Lib.byteCells] at this
    omega
   have := run_convert_bytes_arg (P := P) W s e' hs he g 0 n cap (bs.map fun b : UInt8 => (b.toNat : Int)) (by rw [List.length_map, hn]) (fun i hi => by
    obtain ⟨b, hb'⟩ := get_some (show i < bs.length by omega)
    have hc : (Lib.byteCells bs)[i]? = some (.int .u8 (b.toNat : Nat)) := by unfold Lib.byteCells; rw [List.getElem?_map, hb']; rfl
    have h5 := cell_mv hch (hF l _ g hl ((hF' g).2 (.inl (by rw [h1]; rfl)))) (row_cell hrow2 hc)
    rw [Nat.zero_add, h5]
    simp [List.getD, hb']) d hd
   rw [strOf_bytes] at this
   rw [h1] at hv
   simp [execOp, ho, hv, this]
def AppIntC (P : Program) (f e : Nat) : Prop := ∀ (B n : Nat) (i : Int) (_ : -9223372036854775808 ≤ i) (_ : i ≤ 9223372036854775807) (sv : Value) (xs : List Value) (w : World) (_ : w.ownsRow B e 1 sv n xs) (_ : B ≤ w.heap.size) (_ : n + 21 ≤ 140737488355328) (_ : Lib.TabBelow P B w "internal/strconv.uint64pow10" .u64 Lib.pow10Tab),
 Calls P f #[sv, .int .i64 i, .int .i64 10] w fun q w' => ∃ v', q = .returned v' ∧ w'.ownsRow B e 1 v' (n + (Lib.itoa i).length) (xs ++ Lib.byteCells (Lib.itoa i)) ∧ Below B w w' ∧ Lib.OthersKept e none w w'
section
variable {P : Program} {c : Ctx} {ops : Array Oper} {Q : Exit → Act → World → Prop} {rest : List Oper} {sL hP : List (Nat × Ent)} {o : Oper}
theorem s_appInt {f e n g : Nat} {h : Value} {q q2 q3 : PV} {x y z : Operand} {ats : Array TypeId} {bs : List UInt8} {i : Int} (l d : Nat) (K : List Nat) (hA : AppIntC P f e) (hc : ∀ args w, (callFunc f args).run P w = .ok (.enter f args) w)
 (hN : ∀ b, ¬ c.N0 b) (hdr : ¬ c.dr) (hg : P.globalNamed "internal/strconv.uint64pow10" = some g) (ht : tabG = some g)
 (hS : ShrL c.M0 c.w0 (keepS K sL)) (hi0 : -9223372036854775808 ≤ i) (hi1 : i ≤ 9223372036854775807) (hlim : n + 21 ≤ 140737488355328)
 (k : ∀ h' : Value, h'.oneCell' = true → aL P c ops Q rest ⟨put d (h', .val h') (keepS K sL), [(d, h', .own e 1 (n + (Lib.itoa i).length) ((bs ++ Lib.itoa i).map pByte))]⟩)
 (hw : wants ops sL o = some true := by exact rfl) (hd : o.dst = some d := by exact rfl) (hdn : d < c.nt := by exact Nat.le_of_ble_eq_true rfl) (ho : o.op = .call { callee := .value (.func f), args := #[x, y, z], argTypes := ats } := by exact rfl)
 (hx : ev sL x = some (h, q) := by exact rfl) (hl : lk hP l = some (h, .own e 1 n (bs.map pByte)) := by exact rfl) (hy : ev sL y = some (.int .i64 i, q2) := by exact rfl) (hz : ev sL z = some (.int .i64 10, q3) := by exact rfl) : aL P c ops Q (o :: rest) (⟨sL, hP⟩ : St) :=
 aL_run hw fun a w F H => by
  have hxv := (H.rd.ev hx).1
  have hyv := (H.rd.ev hy).1
  have hzv := (H.rd.ev hz).1
  have hTr := H.tr l _ _ hl
  obtain ⟨xs, Fs, hrow, hlen, hT, hdj, hb, hF⟩ := hTr.row
  have hxs : xs = Lib.byteCells bs := bytes_of hlen hT
  subst hxs
  have hw0 : c.w0.heap.size ≤ w.heap.size := H.ext.size
  have hrowB : w.ownsRow c.w0.heap.size e 1 h n (Lib.byteCells bs) := by
   refine ⟨hrow.1, ?_⟩
   rcases hrow.2 with h1 | ⟨g', cap, cur, e1, e2, r⟩
   · exact .inl h1
   · refine .inr ⟨g', cap, cur, e1, ?_, r⟩
     exact (H.lo l _ g' hl ((hF g').2 (.inl (by rw [e1]; rfl)))).resolve_right (hN g')
  obtain ⟨⟨ty, at', hgb⟩, _, _⟩ := H.m0.tb hdr g ht
  have hcall := hA c.w0.heap.size n i hi0 hi1 h (Lib.byteCells bs) w hrowB hw0 hlim (tab_below hg ht (H.mok.tb hdr) (blk_lt hgb))
  unfold Oper.wp
  have hrun : (execOp a.eval o).run P w = .ok (.enter f #[h, .int .i64 i, .int .i64 10]) w := by
   have hev : a.eval (.func f) = .func (.func f) #[] #[] := rfl
   simp [execOp, ho, resolve, Deferred.ofValue, hev, invoke, hxv, hyv, hzv, hc]
  rw [hrun, Oper.upon_enter]
  refine hcall.mono fun e' w' ⟨v', he', hown, hbel, _⟩ => ?_
  subst he'
  rw [hd]
  have hch : Chg c.N0 c.w0 w' := ⟨hbel.os.trans H.ext.os, hbel.tape.trans H.ext.tape, hbel.output.trans H.ext.output, Nat.le_trans hw0 hbel.size, fun i hi hne => (hbel.block i hi).trans (H.ext.block i hi hne)⟩
  have hone : v'.oneCell' = true := by
   rcases hown.2 with ⟨h1, _⟩ | ⟨g', cap', cur, e1, _⟩
   · rw [h1]; rfl
   · rw [e1]; rfl
  have hlow : ∀ b, v'.ownBlock = some b → c.w0.heap.size ≤ b := fun b hb' => by
   rcases hown.2 with ⟨h1, _⟩ | ⟨g', cap', cur, e1, e2, _⟩
   · rw [h1] at hb'; simp [Value.ownBlock] at hb'
   · rw [e1] at hb'; simp [Value.ownBlock] at hb'; omega
  have hown0 : w'.ownsRow 0 e 1 v' (n + (Lib.itoa i).length) (Lib.byteCells (bs ++ Lib.itoa i)) := by
   rw [show Lib.byteCells (bs ++ Lib.itoa i) = Lib.byteCells bs ++ Lib.byteCells (Lib.itoa i) from List.map_append]
   refine ⟨hown.1, ?_⟩
   rcases hown.2 with h1 | ⟨g', cap, cur, e1, e2, r⟩
   · exact .inl h1
   · exact .inr ⟨g', cap, cur, e1, Nat.zero_le _, r⟩
  refine k v' hone _ _ ⟨fun l' b => l' = d ∧ v'.ownBlock = some b, ⟨⟨fun l' u p hl' => ?_, fun l' z b _ hb' => .inl (hlow b hb'.2), fun l1 l2 z1 z2 b hne h1 h2 hb1 hb2 => hne (hb1.1.trans hb2.1.symm), H.m0, hch, fun h => absurd h hdr⟩, fun t u p ht' => ?_, ?_, H.df⟩⟩
  · simp only [lk] at hl'
    cases hb : Nat.beq d l'
    · rw [hb] at hl'; cases hl'
    · rw [hb] at hl'
      have := Nat.eq_of_beq_eq_true hb
      subst this
      cases hl'
      refine .own (Lib.byteCells (bs ++ Lib.itoa i)) (fun _ _ => False) hown0 (by simp [Lib.byteCells]) (fun t v p hv hp => ?_) (fun _ _ _ _ _ _ h => h.elim) (fun _ _ _ h => h.elim) (fun b => by simp)
      unfold Lib.byteCells at hv
      rw [List.getElem?_map, Option.map_eq_some_iff] at hv hp
      obtain ⟨b1, hb1, rfl⟩ := hv
      obtain ⟨b2, hb2, rfl⟩ := hp
      rw [hb1] at hb2; cases hb2
      exact .shr (.val _) (fun _ h => h)
  · rcases lk_put ht' with ⟨rfl, e1⟩ | ⟨hne, e1⟩
    · cases e1
      exact ⟨by simp [Act.put, H.size, hdn], .val _⟩
    · obtain ⟨h1, h2⟩ := keepS_lk e1
      have h3 := (H.sl t u p h1).1
      refine ⟨by simpa [Act.put, Array.getElem?_setIfInBounds, hne] using h3, (hS.at h2).to hch (fun b _ h => absurd h (hN b)) fun b hb' hm => ?_⟩
      rcases hm with h4 | ⟨l', z, h4, h5⟩
      · exact h4
      · have := hlow b h5.2; omega
  · simpa [Act.put] using H.size
theorem aL_mins {t ks e : Nat} {kd : TypeDesc} {z : Value} {x y u : Operand} {m k v : Value} {kv : List (Value × Value)} {p q r : PV} (l : Nat) (hw : wants ops sL o = some true) (hd : o.dst = none) (hT : MpT P t ks e kd z) (ho : o.op = .insert t x y u) (hx : ev sL x = some (m, p)) (hl : lk hP l = some (m, .omap kv)) (hy : ev sL y = some (k, q)) (hu : ev sL u = some (v, r)) (hk : kok kd k kv) (hbits : bits k = true)
 (kk : aL P c ops Q rest ⟨sL, put l (m, .omap (mput kv k v)) hP⟩) : aL P c ops Q (o :: rest) (⟨sL, hP⟩ : St) :=
 aL_run hw fun a w F H => by
  have hxv := (H.rd.ev hx).1
  have hyv := (H.rd.ev hy).1
  have huv := (H.rd.ev hu).1
  obtain ⟨b, es, clock, rfl, rfl, hb, hFb, hWf⟩ := (H.tr l _ _ hl).mapW
  have hm := mid_get (kvOf es) k
  have main : ∀ (es' : Array MapEntry) (clock' : Nat), WfM es' clock' → kvOf es' = mput (kvOf es) k v → Holds c ⟨sL, put l (.map (some b), .omap (mput (kvOf es) k v)) hP⟩ a { w with heap := w.heap.setIfInBounds b (.map es' clock') } := fun es' clock' hW' he => by
   have hlt := blk_lt hb
   have hch : Chg (fun x => x = b) w { w with heap := w.heap.setIfInBounds b (.map es' clock') } := ⟨rfl, rfl, rfl, by simp, fun i hi hne => by
    rw [Array.getElem?_setIfInBounds_ne (fun e => hne e.symm)]⟩
   refine ⟨F, H.change0 (fun l' => l' = l) (hch.wid fun x hx => .inl ⟨l, _, rfl, hl, (hFb x).2 hx⟩) (fun l' x hne hx' => ?_) (fun l' x b' hT' hx' hb' => ?_) (fun hmm l' u q hT' hx' => ?_) (fun l1 l2 _ _ _ h1 h2 hne => absurd (h1.trans h2.symm) hne)⟩
   · rcases lk_put hx' with ⟨e1, _⟩ | ⟨_, e1⟩
     · exact absurd e1.symm hne
     · exact ⟨e1, rfl⟩
   · subst hT'; exact .inl ⟨l', _, rfl, hl, hb'⟩
   · subst hT'
     rw [lk_put_self] at hx'
     cases hx'
     rw [← he]
     exact .omap b es' clock' (by simp [hlt]) hFb hW'
  unfold Oper.wp execOp
  cases h1 : midx (kvOf es) k with
  | none =>
    rw [h1] at hm
    cases h2 : mget (kvOf es) k with
    | some v => rw [h2] at hm; simp at hm
    | none =>
      simp [ho, hxv, hyv, huv, Instr.mapUpdate, run_underlying hT.ht, getObj, setObj, Sem.run, hb, run_checkKey hT.hk hT.hkd, run_findKey hT.hk hk, h1, h2, Oper.upon, hd, Act.put]
      exact kk _ _ (main _ _ (wf_push hWf) (kv_push h1))
  | some j =>
    rw [h1] at hm
    cases h2 : mget (kvOf es) k with
    | none => rw [h2] at hm; simp at hm
    | some v0 =>
      have hj : ∃ e0, es[j]? = some e0 ∧ keq k e0.key = true := by
       have key : ∀ (l : List MapEntry) (j : Nat), midx (l.map fun x => (x.key, x.val)) k = some j → ∃ e0, l[j]? = some e0 ∧ keq k e0.key = true := by
        intro l
        induction l with
        | nil => intro j h; simp [midx] at h
        | cons e l ih =>
          intro j h
          simp only [List.map_cons, midx] at h
          split at h
          · rename_i hk; cases h; exact ⟨e, rfl, hk⟩
          · rw [Option.map_eq_some_iff] at h
            obtain ⟨j', h1, rfl⟩ := h
            obtain ⟨e0, h3, h4⟩ := ih j' h1
            exact ⟨e0, by simpa using h3, h4⟩
       obtain ⟨e0, h3, h4⟩ := key es.toList j h1
       exact ⟨e0, by simpa using h3, h4⟩
      obtain ⟨e0, h3, h4⟩ := hj
      have hb0 : bits e0.key = true := by
       cases k <;> simp [bits] at hbits <;> (generalize e0.key = y at h4 ⊢; cases y <;> simp_all [keq, bits])
      have hsb := same_bits hb0 h4
      simp [ho, hxv, hyv, huv, Instr.mapUpdate, run_underlying hT.ht, getObj, setObj, Sem.run, hb, run_checkKey hT.hk hT.hkd, run_findKey hT.hk hk, h1, h2, h3, Instr.keyThatStays, hsb, Oper.upon, hd, Act.put]
      exact kk _ _ (main _ _ (wf_modify _ (fun _ => rfl) hWf) (kv_modify h1))
theorem s_mins {t ks e : Nat} {kd : TypeDesc} {z : Value} {x y u : Operand} {m k v : Value} {kv : List (Value × Value)} {p q r : PV} (l : Nat) (hT : MpT P t ks e kd z) (kk : aL P c ops Q rest ⟨sL, put l (m, .omap (mput kv k v)) hP⟩) (hw : wants ops sL o = some true := by exact rfl) (hd : o.dst = none := by exact rfl) (ho : o.op = .insert t x y u := by exact rfl) (hx : ev sL x = some (m, p) := by exact rfl) (hl : lk hP l = some (m, .omap kv) := by exact rfl) (hy : ev sL y = some (k, q) := by exact rfl) (hu : ev sL u = some (v, r) := by exact rfl) (hk : kok kd k kv := by first | exact kok_skv _ _ | exact kok_ikv _ _ | exact kok_nil _ _ | assumption) (hbits : bits k = true := by exact rfl) : aL P c ops Q (o :: rest) (⟨sL, hP⟩ : St) :=
 aL_mins l hw hd hT ho hx hl hy hu hk hbits kk
end
section
variable {P : Program} {ops : Array Oper} {Q : Exit → Act → World → Prop} {md : Region.Mode} {C : World → Prop} {Z : Nat → Bool}
def reachW (md : Region.Mode) (ops : Array Oper) : Nat → Nat → Nat → Bool
 | 0, _, _ => false
 | n + 1, z, i => match ops[z]? with
   | some oz => oz.after.any fun e => Region.binds md e && (e.on == i || reachW md ops n e.on i)
   | none => false
def zWaitsT (md : Region.Mode) (ops : Array Oper) (Z : Nat → Bool) (i : Nat) : Bool := (List.range ops.size).all fun z => !Z z || reachW md ops ops.size z i
def closedB (md : Region.Mode) (ops : Array Oper) (listed : Array Bool) : Bool := (List.range ops.size).all fun k => !(listed.getD k false) || (match ops[k]? with
 | some o => o.after.all fun e => !Region.binds md e || listed.getD e.on false
 | none => true)
def ClosedL (md : Region.Mode) (ops : Array Oper) (listed : Array Bool) : Prop := ∀ (k : Nat) (o : Oper), ops[k]? = some o → listed.getD k false = true → ∀ e ∈ o.after, Region.binds md e = true → listed.getD e.on false = true
theorem closedB_spec {listed : Array Bool} (h : closedB md ops listed = true) : ClosedL md ops listed := fun k o ho hk e he hb => by
 have hks : k < ops.size := by
  rcases Nat.lt_or_ge k ops.size with h' | h'
  · exact h'
  · rw [Array.getElem?_eq_none h'] at ho; cases ho
 have := List.all_eq_true.1 h k (List.mem_range.2 hks)
 rw [hk, ho] at this
 simp only [Bool.not_true, Bool.false_or] at this
 have := (Array.all_eq_true'.1 this) e he
 rw [hb] at this
 simpa using this
theorem ClosedL.reach {listed : Array Bool} (h : ClosedL md ops listed) {i : Nat} : ∀ (n z : Nat), listed.getD z false = true → reachW md ops n z i = true → listed.getD i false = true
 | 0, _, _, hr => by simp [reachW] at hr
 | n + 1, z, hz, hr => by
   rw [reachW] at hr
   split at hr
   · rename_i oz ho
     obtain ⟨e, he, hb⟩ := Array.any_eq_true'.1 hr
     simp only [Bool.and_eq_true, Bool.or_eq_true, beq_iff_eq] at hb
     have h1 := h z oz ho hz e he hb.1
     rcases hb.2 with h2 | h2
     · rw [← h2]; exact h1
     · exact ClosedL.reach h n e.on h1 h2
   · cases hr
theorem ClosedL.ready {listed : Array Bool} (h : ClosedL md ops listed) {i j n : Nat} (hj : j ∈ Region.ready md ops listed) (hr : reachW md ops n j i = true) : listed.getD i false = true := by
 obtain ⟨_, oj, hoj, hall⟩ := mem_ready.1 hj
 cases n with
 | zero => simp [reachW] at hr
 | succ n =>
   rw [reachW, hoj] at hr
   obtain ⟨e, he, hb⟩ := Array.any_eq_true'.1 hr
   simp only [Bool.and_eq_true, Bool.or_eq_true, beq_iff_eq] at hb
   have h1 := hall e he hb.1
   rcases hb.2 with h2 | h2
   · rw [← h2]; exact h1
   · exact h.reach n e.on h1 h2
theorem ClosedL.set {listed : Array Bool} (h : ClosedL md ops listed) {j : Nat} (hj : j ∈ Region.ready md ops listed) : ClosedL md ops (listed.setIfInBounds j true) := fun k o ho hk e he hb => by
 obtain ⟨_, oj, hoj, hall⟩ := mem_ready.1 hj
 by_cases hkj : k = j
 · subst hkj
   rw [hoj] at ho; cases ho
   exact getD_set_true (hall e he hb)
 · rw [getD_set_ne false (Ne.symm hkj)] at hk
   exact getD_set_true (h k o ho hk e he hb)
theorem wpAnyS_firstT {i : Nat} {oi : Oper} {v : Value} (hi : ops[i]? = some oi) (hz : zWaitsT md ops Z i = true)
 (hsel : ∀ (j : Nat) (o : Oper) cs b, ops[j]? = some o → o.op ≠ .select cs b) :
 ∀ (fuel : Nat) (listed : Array Bool) (a : Act) (w : World), ClosedL md ops listed →
  (∀ j oj, ops[j]? = some oj → j ≠ i → listed.getD j true = false → (∀ e ∈ oj.after, Region.binds md e = true → e.on ≠ i) → oi.apart ops oj = true) →
  i ∈ Region.ready md ops listed → YieldsC P ops C oi v a → C w →
  wpAnyS P md ops Q C Z fuel (listed.setIfInBounds i true) (a.put oi.dst v) w → wpAnyS P md ops Q C Z (fuel + 1) listed a w := by
 intro fuel
 induction fuel with
 | zero =>
   intro listed a w _ _ hr hy hC H
   refine ⟨fun h => (by rw [h] at hr; cases hr), fun j hj => ?_⟩
   by_cases hji : j = i
   · subst hji; exact YieldsIf.wpOp hi hy.ifS hC ⟨.inr hC, H⟩
   · have := ready_mono hj hji
     rw [H.1] at this
     cases this
 | succ fuel ih =>
   intro listed a w hcl hfree hr hy hC H
   refine ⟨fun h => (by rw [h] at hr; cases hr), fun j hj => ?_⟩
   by_cases hji : j = i
   · subst hji; exact YieldsIf.wpOp hi hy.ifS hC ⟨.inr hC, H⟩
   · have h1 := H.2 j (ready_mono hj hji)
     obtain ⟨hjun, oj, hoj, hall⟩ := mem_ready.1 hj
     have hnot : ∀ e ∈ oj.after, Region.binds md e = true → e.on ≠ i := fun e he hb heq => by
      have h1 := hall e he hb
      have h0 := (mem_ready.1 hr).1
      rw [heq] at h1
      rcases Nat.lt_or_ge i listed.size with h' | h'
      · simp [h'] at h0 h1; rw [h0] at h1; cases h1
      · simp [Array.getElem?_eq_none h'] at h1
     have hjz : Z j = false := by
      cases hZ : Z j
      · rfl
      · exfalso
        have hjs : j < ops.size := by
         rcases Nat.lt_or_ge j ops.size with h' | h'
         · exact h'
         · rw [Array.getElem?_eq_none h'] at hoj; cases hoj
        have := List.all_eq_true.1 hz j (List.mem_range.2 hjs)
        rw [hZ] at this
        simp only [Bool.not_true, Bool.false_or] at this
        have h0 := (mem_ready.1 hr).1
        have h1 := hcl.ready hj this
        rcases Nat.lt_or_ge i listed.size with h' | h'
        · simp [h'] at h0 h1; rw [h0] at h1; cases h1
        · simp [Array.getElem?_eq_none h'] at h1
     have h2 := wpOp_putIf hoj (hfree j oj hoj hji hjun hnot) (fun cs b => hsel i oi cs b hi) (fun cs b => hsel j oj cs b hoj) (fun c a w h => h) hy.ifS h1
     have hfree' : ∀ k ok, ops[k]? = some ok → k ≠ i → (listed.setIfInBounds j true).getD k true = false →
      (∀ e ∈ ok.after, Region.binds md e = true → e.on ≠ i) → oi.apart ops ok = true := fun k ok hk hki hun hno => by
      refine hfree k ok hk hki ?_ hno
      by_cases hjk : j = k
      · subst hjk; exact hjun
      · rw [getD_set_ne true hjk] at hun; exact hun
     refine wpOp_mono (fun a' w' h3 => ?_) h2
     obtain ⟨hy', hor, hK⟩ := h3
     have hC' : C w' := by
      rcases hor with h | h
      · rw [hjz] at h; cases h
      · exact h
     refine ⟨.inr hC', ih (listed.setIfInBounds j true) a' w' (hcl.set hj) hfree' (ready_mono hr (Ne.symm hji)) hy' hC' ?_⟩
     rw [Array.setIfInBounds_comm _ _ hji]
     exact hK
end
section
variable {P : Program} {c : Ctx} {ops : Array Oper} {Q : Exit → Act → World → Prop} {Z : Nat → Bool} {K : List Nat} {fuel : Nat} {listed : Array Bool} {sL hP : List (Nat × Ent)} {o : Oper}
theorem aD_yT {V : Value → Prop} {p : PV} (i d : Nat) (ho : ops[i]? = some o) (hck : (Region.noSelect ops && (Region.ready .any ops listed).contains i && Region.free .any ops listed i && zWaitsT .any ops Z i && closedB .any ops listed) = true) (hw : wants ops sL o = some true) (hd : o.dst = some d) (hn : d < c.nt) (hy : YE P ⟨sL, onlyK K hP⟩ o V p)
 (k : ∀ v, V v → aD P c ops Q Z K fuel (listed.setIfInBounds i true) ⟨put d (v, p) sL, hP⟩) : aD P c ops Q Z K (fuel + 1) listed (⟨sL, hP⟩ : St) := fun a w F H C hC => by
 simp only [Bool.and_eq_true] at hck
 obtain ⟨⟨⟨⟨hs, hr⟩, hf⟩, hz⟩, hcl⟩ := hck
 obtain ⟨v, hV, hS, hrun⟩ := hy _ F a w (H.rdK K)
 refine wpAnyS_class hC _ _ _ _ ?_
 refine wpAnyS_firstT ho hz (Region.noSelect_spec hs) _ listed a w (closedB_spec hcl) (Region.free_spec ho hf) (by simpa using hr) (v := v) (.inl ⟨wanted_of H.rd hw, fun W hW => ?_⟩) (Chg.rfl' _ _) ?_
 · exact hrun _ W hW (fun b ⟨l, x, _, h1, h2⟩ => .inr ⟨l, x, h1, h2⟩) (fun l x b hl hFb ⟨l', x', h1, h2, h3⟩ => by
    obtain ⟨h4, h5⟩ := lk_onlyK.1 hl
    exact H.dj l l' _ _ b (fun e => by rw [e, h1] at h4; cases h4) h5 h2 hFb h3)
 · rw [hd]
   exact k v hV _ w F (H.put hn hS) _ (fun W h => h)
theorem aD_xT {v : Value} {p : PV} (i d : Nat) (ho : ops[i]? = some o) (hck : (Region.noSelect ops && (Region.ready .any ops listed).contains i && Region.free .any ops listed i && zWaitsT .any ops Z i && closedB .any ops listed) = true) (hw : wants ops sL o = some true) (hd : o.dst = some d) (hn : d < c.nt) (hy : YE P ⟨sL, onlyK K hP⟩ o (· = v) p)
 (k : aD P c ops Q Z K fuel (listed.setIfInBounds i true) ⟨put d (v, p) sL, hP⟩) : aD P c ops Q Z K (fuel + 1) listed (⟨sL, hP⟩ : St) := aD_yT i d ho hck hw hd hn hy fun u hu => by cases hu; exact k
theorem xDT {v : Value} {p : PV} (i : Nat) (d : Nat) (ho : ops[i]? = some o) (hy : YE P ⟨sL, onlyK K hP⟩ o (· = v) p) (k : aD P c ops Q Z K fuel (listed.setIfInBounds i true) ⟨put d (v, p) sL, hP⟩) (hck : (Region.noSelect ops && (Region.ready .any ops listed).contains i && Region.free .any ops listed i && zWaitsT .any ops Z i && closedB .any ops listed) = true := by kernel_rfl) (hw : wants ops sL o = some true := by exact rfl) (hd : o.dst = some d := by exact rfl) (hn : d < c.nt := by exact Nat.le_of_ble_eq_true rfl) : aD P c ops Q Z K (fuel + 1) listed (⟨sL, hP⟩ : St) :=
 aD_xT i d ho hck hw hd hn hy k
theorem yDT {V : Value → Prop} {p : PV} (i : Nat) (d : Nat) (ho : ops[i]? = some o) (hy : YE P ⟨sL, onlyK K hP⟩ o V p) (k : ∀ v, V v → aD P c ops Q Z K fuel (listed.setIfInBounds i true) ⟨put d (v, p) sL, hP⟩) (hck : (Region.noSelect ops && (Region.ready .any ops listed).contains i && Region.free .any ops listed i && zWaitsT .any ops Z i && closedB .any ops listed) = true := by kernel_rfl) (hw : wants ops sL o = some true := by exact rfl) (hd : o.dst = some d := by exact rfl) (hn : d < c.nt := by exact Nat.le_of_ble_eq_true rfl) : aD P c ops Q Z K (fuel + 1) listed (⟨sL, hP⟩ : St) :=
 aD_yT i d ho hck hw hd hn hy k
end
def aDZ (P : Program) (c : Ctx) (ops : Array Oper) (Q : Exit → Act → World → Prop) (Z : Nat → Bool) (fuel : Nat) (listed : Array Bool) (st : St) : Prop :=
 ∀ a w F, HoldsF c st F a w → ∀ C : World → Prop, wpAnyS P .any ops Q C Z fuel listed a w
section
variable {P : Program} {c : Ctx} {ops : Array Oper} {Q : Exit → Act → World → Prop} {Z : Nat → Bool} {K : List Nat} {fuel : Nat} {listed : Array Bool} {sL hP : List (Nat × Ent)} {o : Oper}
theorem aW_thenZ {i : Nat} (ho : ops[i]? = some o) (hZ : Z i = true) (h : ∀ DQ : Exit → Act → World → Prop, (∀ st' : St, aDZ P c ops Q Z fuel (listed.setIfInBounds i true) st' → aN c DQ st') → aL P c ops DQ [o] (⟨sL, hP⟩ : St)) : aW P c ops Q Z K fuel listed (⟨sL, hP⟩ : St) i := fun a w F H C hC => by
 refine wpOp_of_list (Q' := fun _ a' w' => (Z i = true ∨ C w') ∧ wpAnyS P .any ops Q C Z fuel (listed.setIfInBounds i true) a' w') ho (fun a' w' hq => hq) ?_
 exact h _ (fun st' hN a' w' ⟨F', H'⟩ => ⟨.inl hZ, hN a' w' F' H' C⟩) a w ⟨F, H⟩
theorem aDZ_one (i : Nat) (hr : Region.ready .any ops listed = [i]) (ho : ops[i]? = some o) (hZ : Z i = true) (h : ∀ DQ : Exit → Act → World → Prop, (∀ st' : St, aDZ P c ops Q Z fuel (listed.setIfInBounds i true) st' → aN c DQ st') → aL P c ops DQ [o] (⟨sL, hP⟩ : St)) : aDZ P c ops Q Z (fuel + 1) listed (⟨sL, hP⟩ : St) := fun a w F H C =>
 ⟨(fun hn => by rw [hr] at hn; cases hn), fun j hj => by
   rw [hr] at hj
   obtain rfl : j = i := by simpa using hj
   refine wpOp_of_list (Q' := fun _ a' w' => (Z j = true ∨ C w') ∧ wpAnyS P .any ops Q C Z fuel (listed.setIfInBounds j true) a' w') ho (fun a' w' hq => hq) ?_
   exact h _ (fun st' hN a' w' ⟨F', H'⟩ => ⟨.inl hZ, hN a' w' F' H' C⟩) a w ⟨F, H⟩⟩
theorem aDZ_end (hr : Region.ready .any ops listed = []) (h : aN c Q (⟨sL, hP⟩ : St)) : aDZ P c ops Q Z fuel listed (⟨sL, hP⟩ : St) := fun a w F H C => by
 cases fuel with
 | zero => exact ⟨hr, h a w ⟨F, H⟩⟩
 | succ n => exact ⟨fun _ => h a w ⟨F, H⟩, fun i hi => by rw [hr] at hi; cases hi⟩
end
end Go.En
namespace Go.Proofs.YtgigclnaicbiaaaGreatDoor
open Go.RowKit Go.Cb Go.En
set_option linter.all false
set_option maxRecDepth 100000
theorem tEl154_LfA : ElT Tryz.prog 154 5 1 1 (.int .u8 0) := ⟨Tryz.underlying154, by kernel_rfl, rfl, by decide⟩
theorem keyL_snoc {l : List Int} {k : Nat} {x : Int} (h : l[k]? = some x) : keyL (l.take (k + 1)) = keyL (l.take k) ++ Lib.itoa x ++ [32] := by
 unfold keyL; rw [take_snoc h, List.flatMap_append]; simp
theorem nDig_le : ∀ (k u : Nat), u < 10 ^ (k + 1) → Lib.nDigits u ≤ k + 1
 | 0, u, h => by rw [Lib.nDigits_small (by simpa using h)]; omega
 | k + 1, u, h => by
   by_cases h1 : u < 10
   · rw [Lib.nDigits_small h1]; omega
   · rw [Lib.nDigits_big h1]
     have := nDig_le k (u / 10) (by rw [Nat.pow_succ] at h; omega)
     omega
theorem itoa_len {x : Int} (h0 : 0 ≤ x) (h1 : x ≤ 1000000) : (Lib.itoa x).length ≤ 21 := by
 unfold Lib.itoa
 rw [if_neg (by omega), Lib.decDigits_length]
 have := nDig_le 6 x.toNat (by omega)
 omega
theorem keyL_len : ∀ {l : List Int}, (∀ x ∈ l, 0 ≤ x ∧ x ≤ 1000000) → (keyL l).length ≤ l.length * 22
 | [], _ => Nat.le_refl _
 | x :: l, h => by
   have h1 := keyL_len fun y hy => h y (List.mem_cons_of_mem _ hy)
   have hx := h x (List.mem_cons_self ..)
   have h2 := itoa_len hx.1 hx.2
   have : keyL (x :: l) = Lib.itoa x ++ [32] ++ keyL l := rfl
   rw [this, List.length_append, List.length_append]
   simp only [List.length_cons, List.length_nil]
   omega
theorem key_step (e : Nat) {l : List Int} {k : Nat} {x : Int} (h : l[k]? = some x) : PV.own e 1 ((keyL (l.take k)).length + (Lib.itoa x).length + 1) ((keyL (l.take k) ++ Lib.itoa x).map pByte ++ [PV.val (.int .u8 32)]) = .own e 1 (keyL (l.take (k + 1))).length ((keyL (l.take (k + 1))).map pByte) := by
 rw [keyL_snoc h]
 simp only [List.map_append, List.length_append, List.length_cons, List.length_nil, Nat.zero_add, List.map_cons, List.map_nil]
 rfl
theorem tab_num : Tryz.prog.globalNamed "internal/strconv.uint64pow10" = tabG := by kernel_rfl
theorem appInt_cD : AppIntC Tryz.prog 136 5 := fun B n i h0 h1 sv xs w hown hBw hlim htab => Tryz.strconv_AppendInt_10 B n i h0 h1 sv xs w hown hBw hlim htab
theorem aKey_e (l : List Int) (hl : l.length ≤ 1000000) (h0 : ∀ x ∈ l, 0 ≤ x ∧ x ≤ 1000000) : AF Tryz.prog 121 [pInts l] (· = .val (.string (keyB l))) := by
 refine AFd.of_bodyS 20 Tryz.func121 rfl Tryz.ntmps121 (Nat.le_of_ble_eq_true rfl) ?_
 intro w0 M0 vs hl hv hS
 obtain ⟨v0, rfl⟩ := len1 hl
 clear hl hv
 have hs0 := hS 0 v0 _ rfl rfl
 clear hS
 refine nav ?_
 (refine aC_region ?_ <;> refine xL 2 q_assign ?_ <;> refine aL_end (nav ?_) <;> try dsimp only)
 (refine aC_region ?_ <;> refine xL 3 q_assign ?_ <;> refine aL_end (nav ?_) <;> try dsimp only)
 refine aC_ent (nilOwn 200 5 1 rfl) fun _ => ?_
 (refine aC_region ?_ <;> refine xL 6 q_move ?_ <;> refine xL 7 (q_len tSl22_LbB) ?_ <;> refine xL 8 q_move ?_ <;> refine aL_end (nav ?_) <;> try dsimp only)
 refine aC_loop (ι := { q : Nat × Value // q.1 ≤ l.length ∧ q.2.oneCell' = true }) (fun k => ⟨[(6, _, _), (7, _, _), (3, k.1.2, .val k.1.2), (8, .int .i64 k.1.1, pInt k.1.1)], [(200, k.1.2, .own 5 1 (keyL (l.take k.1.1)).length ((keyL (l.take k.1.1)).map pByte))]⟩) (fun k => l.length - k.1.1) ⟨(0, .slice none 0 0), Nat.zero_le _, rfl⟩ (fun a w H => H.weaken ⟨rfl, rfl, rfl, rfl, trivial⟩ ⟨rfl, trivial⟩) ?_
 rintro ⟨⟨k, r⟩, hk, hr⟩
 dsimp only
 dsimp only at hk hr
 have hkl := keyL_len (l := l.take k) (fun x hx => h0 x (List.mem_of_mem_take hx))
 rw [List.length_take] at hkl
 refine nav ?_
 (refine aC_region ?_ <;> refine xL 9 q_lss ?_ <;> refine aL_end (nav ?_) <;> try dsimp only)
 (first | refine cCd ?_ ?_ | refine cC ?_ ?_) <;> intro hb9
 · first
   | exact Bool.noConfusion hb9
   | (
    obtain ⟨x, hx⟩ := get_some (show k < l.length by omega)
    have e1 := map_at (f := pInt) hx
    have hx0 := h0 x (List.mem_of_getElem? hx)
    have hil := itoa_len hx0.1 hx0.2
    refine nav ?_
    (refine aC_region ?_ <;> refine xL 10 (q_idxN tSl22_LbB) ?_ <;> (refine yL 11 (q_ld tNa3_LbB) fun v11 hv11 => ?_; cases hv11) <;> refine xL 5 q_assign ?_ <;> refine aL_end (nav ?_) <;> try dsimp only)
    (refine aC_region ?_ <;> refine xL 12 q_move ?_ <;> refine xL 13 q_move ?_ <;> refine s_appInt (i := x) (bs := keyL (l.take k)) (n := (keyL (l.take k)).length) 200 14 [6, 7, 8] appInt_cD (Tryz.call136) (fun _ h => h) (fun h => h) tab_num rfl ⟨hs0, .val _, .val _, trivial⟩ (by omega) (by omega) (by omega) fun h14 ho14 => ?_ <;> refine s_lit1 (kk := 1) 15 tEl154_LfA fun h15 ho15 => ?_ <;> (refine s_app 14 15 16 tEl154_LfA fun h16 ho16 => ?_; refine aL_ent (relabel (l := 16) 200 rfl rfl) fun _ => ?_; refine aL_ent (recast (l := 200) rfl (key_step _ hx)) fun _ => ?_) <;> refine xL 3 q_assign ?_ <;> refine aL_end (nav ?_) <;> try dsimp only)
    (refine aC_region ?_ <;> refine xL 17 q_add ?_ <;> refine xL 8 q_move ?_ <;> refine aL_end (nav ?_) <;> try dsimp only)
    refine aN_again (
     ⟨(k + 1, h16), lt_of_get hx, ho16⟩
     ) (by dsimp only; omega) ⟨rfl, rfl, rfl, rfl, trivial⟩ ⟨rfl, trivial⟩)
 · first
   | exact Bool.noConfusion hb9
   | (
    refine nav ?_
    (refine aC_region ?_ <;> refine xL 18 q_move ?_ <;> refine xL 19 (q_bstr 200 Tryz.underlying154 Tryz.underlying5 Tryz.underlying9) ?_ <;> refine xL 2 q_assign ?_ <;> refine aL_end (nav ?_) <;> try dsimp only)
    refine ret_shr (Tryz.results121) rfl ?_
    rw [List.take_of_length_le (by omega)]; rfl)
theorem tAgg93_LfB : AggT Tryz.prog 93 3 = true := by kernel_rfl
theorem tFl93_1_LfB : FldT Tryz.prog 93 1 1 = true := by kernel_rfl
theorem tFl93_2_LfB : FldT Tryz.prog 93 2 2 = true := by kernel_rfl
theorem tMp135_LfB : MpT Tryz.prog 135 9 3 .string (.int .i64 0) := ⟨Tryz.underlying135, Tryz.underlying9, .inl rfl, by show ZeroT _ _ _; unfold ZeroT; kernel_rfl⟩
theorem tNa28_LfB : NoAgg Tryz.prog 28 = true := by kernel_rfl
theorem tSt93_LfB : stInfo Tryz.prog 93 = some ((.agg #[(.int .i64 0), (.slice none 0 0), (.slice none 0 0)]), ([0, 1, 2] : List Nat).map fun o => (o, 1)) := by kernel_rfl
theorem tSz28_LfB : (Tryz.prog.info? 28).map (·.size) = some 1 := by kernel_rfl
theorem tSz66_LfB : (Tryz.prog.info? 66).map (·.size) = some 1 := by kernel_rfl
theorem tZr93_LfB : ZeroT Tryz.prog 93 (.agg #[(.int .i64 0), (.slice none 0 0), (.slice none 0 0)]) := by unfold ZeroT; kernel_rfl
def pNats (r : List Nat) : PV := pInts (toI r)
def rowAt (r : List Nat) (j : Nat) : Int := ((r[j]?).getD 0 : Nat)
theorem rowAt_nil (m : Nat) : vec m (fun j => pInt (rowAt [] j)) = List.replicate m (PV.val (.int .i64 0)) := by rw [vec_const]; rfl
theorem rowAt_set {m : Nat} {r : List Nat} (n : Nat) (h : r.length < m) : (vec m fun j => pInt (rowAt r j)).set (r.length * 1) (pInt (n : Nat)) = vec m fun j => pInt (rowAt (r ++ [n]) j) := by
 rw [Nat.mul_one, vec_set]
 refine vec_congr fun i hi => ?_
 unfold rowAt
 by_cases e : i = r.length
 · subst e; rw [if_pos rfl]; simp
 · rw [if_neg e, List.getElem?_append]
   split
   · rfl
   · rw [List.getElem?_eq_none (by omega), List.getElem?_eq_none (by simp; omega)]
theorem rowAt_full (r : List Nat) : (vec r.length fun j => pInt (rowAt r j)) = (toI r).map pInt := by
 symm
 refine vec_ext (by simp [toI]) fun i x hx => ?_
 unfold toI at hx
 rw [List.map_map, List.getElem?_map, Option.map_eq_some_iff] at hx
 obtain ⟨y, hy, rfl⟩ := hx
 unfold rowAt; rw [hy]; rfl
theorem share_row (e m : Nat) (r : List Nat) (h : r.length = m) : share (.own e 1 m (vec m fun j => pInt (rowAt r j))) = pNats r := by
 subst h
 rw [rowAt_full, share_ints _ _ _ (by simp [toI])]; rfl
theorem snoc_nats (e : Nat) (L : List (List Nat)) (x : List Nat) : PV.own e 1 (L.length + 1) (L.map pNats ++ [pNats x]) = .own e 1 (L ++ [x]).length ((L ++ [x]).map pNats) := by simp
theorem snoc_bools (e : Nat) (L : List Bool) (x : Bool) : PV.own e 1 (L.length + 1) (L.map pBool ++ [pBool x]) = .own e 1 (L ++ [x]).length ((L ++ [x]).map pBool) := by simp
theorem share_natss (e n : Nat) (l : List (List Nat)) (hn : n = l.length) : share (.own e 1 n (l.map pNats)) = .sl l.length (l.map pNats) := by
 subst hn
 rw [share, shares_eq, List.map_map]
 congr 1
theorem share_boolss (e n : Nat) (l : List Bool) (hn : n = l.length) : share (.own e 1 n (l.map pBool)) = .sl l.length (l.map pBool) := by
 subst hn
 rw [share, shares_eq, List.map_map]; rfl
def pTab (t : Tab) : PV := .agg [pInt (t.m : Nat), .sl t.rows.length (t.rows.map pNats), .sl t.fin.length (t.fin.map pBool)]
def RSub (a : Aut) (p : PV) : Prop := (∃ t, subT a = some t ∧ p = .tup [pTab t, pBool true]) ∨ (subT a = none ∧ ∃ u1 u2 u3 : Value, u1.oneCell' = true ∧ u2.oneCell' = true ∧ u3.oneCell' = true ∧ p = .tup [.agg [.val u1, .val u2, .val u3], pBool false])
section
variable {α : Type}
def numAt (f : α → ByteArray) (o : List α) (x : α) : Nat := if posK f o (f x) < o.length then posK f o (f x) else 0
theorem num_look (f : α → ByteArray) (o : List α) (x : α) : (mget (skv (numE f 0 o)) (.string (f x))).getD (.int .i64 0) = .int .i64 (numAt f o x : Nat) ∧ (mget (skv (numE f 0 o)) (.string (f x))).isSome = decide (posK f o (f x) < o.length) := by
 rw [mget_skv, numE_get]
 unfold numAt
 by_cases h : posK f o (f x) < o.length
 · rw [if_pos h, if_pos h, decide_eq_true h, Nat.zero_add]; exact ⟨rfl, rfl⟩
 · rw [if_neg h, if_neg h, decide_eq_false h]; exact ⟨rfl, rfl⟩
end
section
variable {α : Type} {P : Program} {sL hP : List (Nat × Ent)} {o : Oper}
theorem q_num2 {t ks e : Nat} {kd : TypeDesc} {z : Value} {x y : Operand} {m : Value} {f : α → ByteArray} {L : List α} {a : α} {p q : PV} (l : Nat) (hT : MpT P t ks e kd z) (hz : z = .int .i64 0) (hkd : kd = .string) (ho : o.op = .lookup t x y true := by exact rfl) (hx : ev sL x = some (m, p) := by exact rfl) (hl : lk hP l = some (m, .omap (skv (numE f 0 L))) := by exact rfl) (hy : ev sL y = some (.string (f a), q) := by exact rfl) :
 YE P (⟨sL, hP⟩ : St) o (· = .tuple [.int .i64 (numAt f L a : Nat), .bool (decide (posK f L (f a) < L.length))].toArray) (.tup [.val (.int .i64 (numAt f L a : Nat)), .val (.bool (decide (posK f L (f a) < L.length)))]) := by
 subst hz hkd
 have h := q_looko2 (sL := sL) (hP := hP) (o := o) l hT ho hx hl hy (kok_skv _ _)
 rw [(num_look f L a).1, (num_look f L a).2] at h
 exact h
end
theorem key_id {o : List (List Int)} {x : List Int} (h : ∀ l ∈ o, ∀ s ∈ l, 0 ≤ s) (hx : ∀ s ∈ x, 0 ≤ s) : posK keyB o (keyB x) = posK id o x := posK_inj fun l hl => keyB_inj (h l hl) hx
theorem num_put0 (x : List Int) : mput [] (.string (keyB x)) (.int .i64 0) = skv (numE keyB 0 [x]) := rfl
theorem num_putN {α : Type} {f : α → ByteArray} {o : List α} {x : α} (h : ¬ posK f o (f x) < o.length) : mput (skv (numE f 0 o)) (.string (f x)) (.int .i64 (o.length : Nat)) = skv (numE f 0 (o ++ [x])) := by
 have := numE_put f x o 0 h
 rw [Nat.zero_add] at this
 rw [mput_skv, this]
theorem SetOk.nn {a : Aut} {l : List Int} (h : SetOk a l) : ∀ s ∈ l, 0 ≤ s := fun s hs => (h.1 s hs).1
theorem SetOk.bd {a : Aut} (ha : AOk a) {l : List Int} (h : SetOk a l) : ∀ s ∈ l, 0 ≤ s ∧ s ≤ 1000000 := fun s hs => by have := h.1 s hs; have := ha.n1; omega
set_option maxHeartbeats 4000000 in
theorem aSubsets_e (a : Aut) (h : AOk a) : AF Tryz.prog 114 [pAut a] (RSub a) := by
 have hn1 := h.n1
 have hs0 := h.s0
 have hs1 := h.s1
 have hsN : ((a.syms.toNat : Nat) : Int) = a.syms := by omega
 have hst := set_start h
 refine AF.of_body 96 Tryz.func114 rfl Tryz.ntmps114 (Nat.le_of_ble_eq_true rfl) ?_
 intro w0 M0 vs hl hv
 obtain ⟨v0, rfl⟩ := len1 hl
 clear hl hv
 refine nav ?_
 (refine aC_region ?_ <;> refine s_boxa 1 5 fun h1 => ?_ <;> refine s_alloc [(.int .i64 0), (.slice none 0 0), (.slice none 0 0)] 3 2 tZr93_LfB fun h2 => ?_ <;> refine xL 3 q_assign ?_ <;> refine aL_end (nav ?_) <;> try dsimp only)
 (refine aC_region ?_ <;> (refine yL 14 (q_ldao 1 tAgg25_LdS) fun v14 hv14 => ?_; cases hv14) <;> (refine cS 15 (cA Tryz.call58 (aGraphOf_e a h)) fun v15 hv15 => ?_; cases hv15) <;> refine xL 4 q_assign ?_ <;> refine aL_end (nav ?_) <;> try dsimp only)
 (refine aC_region ?_ <;> refine xL 16 (q_fldo 1 tFl25_1_LdI) ?_ <;> (refine yL 17 (q_ldo 1 tNa3_LbB) fun v17 hv17 => ?_; cases hv17) <;> refine xL 18 (q_build tSt93_LfB) ?_ <;> refine s_alloc [(.int .i64 0), (.slice none 0 0), (.slice none 0 0)] 3 5 tZr93_LfB fun h5 => ?_ <;> refine s_sta 5 tAgg93_LfB ?_ <;> refine aL_end (nav ?_) <;> try dsimp only)
 refine aC_ent (nilCells (l := 5) [pInt a.syms, .own 22 1 0 [], .own 4 1 0 []] rfl rfl (fun i p p' h1 h2 => by
  match i with
  | 0 => cases h1; cases h2; exact .inl rfl
  | 1 => cases h1; cases h2; exact .inr ⟨rfl, _, _, rfl⟩
  | 2 => cases h1; cases h2; exact .inr ⟨rfl, _, _, rfl⟩
  | i + 3 => simp at h2)) fun _ => ?_
 refine aC_ent (focusO (l := 5) (l' := 301) (j := 1) rfl rfl rfl rfl) fun i => ?_
 obtain ⟨v301, ho301⟩ := i
 refine aC_ent (focusO (l := 5) (l' := 302) (j := 2) rfl rfl rfl rfl) fun i => ?_
 obtain ⟨v302, ho302⟩ := i
 dsimp only [List.set]
 (refine aC_region ?_ <;> refine xL 19 q_move ?_ <;> refine xL 20 (q_fldo 1 tFl25_2_LdI) ?_ <;> (refine yL 21 (q_ldo 1 tNa22_LdI) fun v21 hv21 => ?_; cases hv21) <;> (refine cO 22 (cA Tryz.call61 (aClosure_e a a.start hn1 h.mi h.st)) fun v22 ho22 => ?_; refine aL_ent (En.freeze (l := 22) (t := 22) rfl rfl) fun _ => ?_; rw [share_ints _ _ _ rfl]) <;> refine s_lit1 (kk := 1) 23 tEl28_LdS fun h23 ho23 => ?_ <;> refine xL 6 q_assign ?_ <;> refine aL_end (nav ?_) <;> try dsimp only)
 refine aC_ent (relabel (l := 23) 303 rfl rfl) fun _ => ?_
 obtain ⟨x0, hx0⟩ : ∃ x0, x0 = closL a a.start := ⟨_, rfl⟩
 rw [← hx0] at hst ⊢
 have hst2 := hst.len h
 (refine aC_region ?_ <;> refine s_mkmap 24 fun h24 ho24 => ?_ <;> refine xL 25 q_move ?_ <;> refine xL 26 (q_idxoN (i := 0) 303 tSl28_LdS) ?_ <;> (refine yL 27 (q_ldo 303 tNa22_LdI) fun v27 hv27 => ?_; cases hv27) <;> (refine cS 28 (cA Tryz.call121 (aKey_e x0 (by omega) (hst.bd h))) fun v28 hv28 => ?_; cases hv28) <;> (refine s_mins 24 tMp135_LfB ?_; rw [num_put0]) <;> refine xL 29 q_move ?_ <;> refine xL 7 q_assign ?_ <;> refine aL_end (nav ?_) <;> try dsimp only)
 refine aC_ent (relabel (l := 24) 304 rfl rfl) fun _ => ?_
 (refine aC_region ?_ <;> refine xL 8 q_assign ?_ <;> refine aL_end (nav ?_) <;> try dsimp only)
 refine aC_loop (ι := { q : Nat × Value × Value × Value × List (List Int) × List (List Nat) // (subW a).upto x0 q.1 = some (q.2.2.2.2.1, q.2.2.2.2.2) ∧ q.1 ≤ q.2.2.2.2.1.length ∧ q.2.1.oneCell' = true ∧ q.2.2.1.oneCell' = true ∧ q.2.2.2.1.oneCell' = true }) (fun k => ⟨[(1, _, _), (2, _, _), (3, _, _), (4, _, _), (5, _, _), (7, _, _), (6, k.1.2.2.2.1, .val k.1.2.2.2.1), (8, .int .i64 k.1.1, pInt k.1.1)], [(1, _, _), (2, _, _), (304, h24, .omap (skv (numE keyB 0 k.1.2.2.2.2.1))), (5, h5, .own 93 3 1 [pInt a.syms, .val k.1.2.1, .val k.1.2.2.1]), (301, k.1.2.1, .own 22 1 k.1.2.2.2.2.2.length (k.1.2.2.2.2.2.map pNats)), (302, k.1.2.2.1, .own 4 1 ((k.1.2.2.2.2.1.take k.1.1).map (accB a)).length (((k.1.2.2.2.2.1.take k.1.1).map (accB a)).map pBool)), (303, k.1.2.2.2.1, .own 22 1 k.1.2.2.2.2.1.length (k.1.2.2.2.2.1.map pInts))]⟩) (fun k => 2000 - k.1.1) ⟨(0, v301, v302, h23, [x0], []), rfl, Nat.zero_le _, ho301, ho302, ho23⟩ (fun a w H => H.weaken ⟨rfl, rfl, rfl, rfl, rfl, rfl, rfl, rfl, trivial⟩ ⟨rfl, rfl, rfl, rfl, rfl, rfl, rfl, trivial⟩) ?_
 rintro ⟨⟨i, r1, r2, r3, o, rows⟩, hU, hi, hr1, hr2, hr3⟩
 dsimp only
 dsimp only at hU hi hr1 hr2 hr3
 have hU' := hU
 rw [hx0] at hU'
 obtain ⟨hOk, hRl, _⟩ := sub_ok h hU'
 have hRl := hRl hi
 have hcap : o.length ≤ 2000 := hOk.cap
 have hOp := hOk.p
 have hone1 : En.one (PV.val r1) = true := hr1
 have hone2 : En.one (PV.val r2) = true := hr2
 have hfl : ((o.take i).map (accB a)).length ≤ 2000 := by rw [List.length_map, List.length_take]; omega
 refine nav ?_
 (refine aC_region ?_ <;> refine xL 30 q_move ?_ <;> refine xL 31 q_move ?_ <;> refine xL 32 (q_leno 303 tSl28_LdS) ?_ <;> refine xL 33 q_lss ?_ <;> refine aL_end (nav ?_) <;> try dsimp only)
 (first | refine cCd ?_ ?_ | refine cC ?_ ?_) <;> intro hb33
 · first
   | exact Bool.noConfusion hb33
   | (
    obtain ⟨x, hx⟩ := get_some (show i < o.length by omega)
    have hxs := hOp x (List.mem_of_getElem? hx)
    have hxl := hxs.len h
    refine nav ?_
    (refine aC_region ?_ <;> refine xL 36 (q_fldo 1 tFl25_1_LdI) ?_ <;> (refine yL 37 (q_ldo 1 tNa3_LbB) fun v37 hv37 => ?_; cases hv37) <;> (refine s_make (n := a.syms.toNat) 38 tEl22_LdI (fun h38 ho38 => ?_) (hx := by rw [hsN]; exact rfl) (hy := by rw [hsN]; exact rfl) (hb := by omega)) <;> refine xL 9 q_assign ?_ <;> refine aL_end (nav ?_) <;> try dsimp only)
    rw [← rowAt_nil]
    (refine aC_region ?_ <;> refine xL 39 q_move ?_ <;> refine xL 40 (q_leno 38 tSl22_LbB) ?_ <;> refine xL 41 q_move ?_ <;> refine aL_end (nav ?_) <;> try dsimp only)
    refine aC_loop (ι := { q : Nat × Value × List (List Int) × List Nat // (subW a).row i x o q.1 = some (q.2.2.1, q.2.2.2) ∧ q.1 ≤ a.syms.toNat ∧ q.2.1.oneCell' = true }) (fun k => ⟨[(1, _, _), (2, _, _), (3, _, _), (4, _, _), (5, _, _), (7, _, _), (8, _, _), (9, _, _), (40, _, _), (6, k.1.2.1, .val k.1.2.1), (41, .int .i64 k.1.1, pInt k.1.1)], [(1, _, _), (2, _, _), (5, _, _), (301, _, _), (302, _, _), (303, k.1.2.1, .own 22 1 k.1.2.2.1.length (k.1.2.2.1.map pInts)), (304, h24, .omap (skv (numE keyB 0 k.1.2.2.1))), (38, h38, .own 3 1 a.syms.toNat (vec a.syms.toNat fun j => pInt (rowAt k.1.2.2.2 j)))]⟩) (fun k => a.syms.toNat - k.1.1) ⟨(0, r3, o, []), rfl, Nat.zero_le _, hr3⟩ (fun a w H => H.weaken ⟨rfl, rfl, rfl, rfl, rfl, rfl, rfl, rfl, rfl, rfl, rfl, trivial⟩ ⟨rfl, rfl, rfl, rfl, rfl, rfl, rfl, rfl, trivial⟩) ?_
    rintro ⟨⟨s, r3', o', r⟩, hW, hs, hr3'⟩
    dsimp only
    dsimp only at hW hs hr3'
    obtain ⟨hMt, hpr, hrl, _⟩ := hOk.toMet.row (fun s _ => set_next h s x) (show s ≤ (subW a).m from hs) hW
    have hcap' : o'.length ≤ 2000 := hMt.cap
    have hx' := preG_get hpr hx
    have hil := lt_of_get hx'
    refine nav ?_
    (refine aC_region ?_ <;> refine xL 42 q_lss ?_ <;> refine aL_end (nav ?_) <;> try dsimp only)
    (first | refine cCd ?_ ?_ | refine cC ?_ ?_) <;> intro hb42
    · first
      | exact Bool.noConfusion hb42
      | (
       have hset := set_next h (s : Nat) x
       obtain ⟨set, hse⟩ : ∃ set, set = nextL a (s : Nat) x := ⟨_, rfl⟩
       rw [← hse] at hset
       have hsl := hset.len h
       have hkid := key_id (fun l hl => (hMt.p l hl).nn) hset.nn
       have e1 := map_at (f := pInts) hx'
       have e2 := vec_len a.syms.toNat (fun j => pInt (rowAt r j))
       refine nav ?_
       (refine aC_region ?_ <;> refine xL 43 q_move ?_ <;> refine xL 10 q_assign ?_ <;> refine aL_end (nav ?_) <;> try dsimp only)
       (refine aC_region ?_ <;> refine xL 44 q_move ?_ <;> refine xL 45 q_move ?_ <;> refine xL 46 q_move ?_ <;> refine xL 47 (q_idxoN 303 tSl28_LdS) ?_ <;> (refine yL 48 (q_ldo 303 tNa22_LdI) fun v48 hv48 => ?_; cases hv48) <;> refine xL 49 q_move ?_ <;> (refine cO 50 (cA Tryz.call63 (aNext_e a x s hn1 h.ml h.mi hxs.1 hxl)) fun v50 ho50 => ?_; refine aL_ent (En.freeze (l := 50) (t := 50) rfl rfl) fun _ => ?_; rw [share_ints _ _ _ rfl, ← hse]) <;> refine xL 11 q_assign ?_ <;> refine aL_end (nav ?_) <;> try dsimp only)
       (refine aC_region ?_ <;> refine xL 52 q_move ?_ <;> refine xL 53 q_move ?_ <;> (refine cS 54 (cA Tryz.call121 (aKey_e set (by omega) (hset.bd h))) fun v54 hv54 => ?_; cases hv54) <;> refine xL 55 (q_num2 (f := keyB) (L := o') (a := set) 304 tMp135_LfB rfl rfl) ?_ <;> refine xL 51 q_move ?_ <;> refine xL 56 q_extract ?_ <;> refine xL 57 q_extract ?_ <;> refine xL 12 q_assign ?_ <;> refine xL 13 q_assign ?_ <;> refine aL_end (nav ?_) <;> try dsimp only)
       (refine aC_region ?_ <;> refine xL 58 q_move ?_ <;> refine xL 59 q_not ?_ <;> refine aL_end (nav ?_) <;> try dsimp only)
       (first | refine cCd ?_ ?_ | refine cC ?_ ?_) <;> intro hb59
       · first
         | exact Bool.noConfusion hb59
         | (
          have hnew : ¬ posK keyB o' (keyB set) < o'.length := by simpa using hb59
          have hnew2 : ¬ posK (subW a).key o' ((subW a).key ((subW a).step i x s)) < o'.length := by
           show ¬ posK id o' (nextL a (s : Nat) x) < o'.length
           rw [← hse, ← hkid]; exact hnew
          refine nav ?_
          (refine aC_region ?_ <;> refine xL 60 q_move ?_ <;> refine xL 61 (q_leno 303 tSl28_LdS) ?_ <;> refine xL 12 q_assign ?_ <;> refine aL_end (nav ?_) <;> try dsimp only)
          (refine aC_region ?_ <;> refine xL 62 q_move ?_ <;> refine xL 63 q_geq ?_ <;> refine aL_end (nav ?_) <;> try dsimp only)
          (first | refine cCd ?_ ?_ | refine cC ?_ ?_) <;> intro hb63
          · first
            | exact Bool.noConfusion hb63
            | (
             refine nav ?_
             (refine aC_region ?_ <;> (refine yL 64 (q_ldao (k := 3) (ps := [pInt a.syms, PV.val r1, PV.val r2]) 5 (by kernel_rfl)) fun v64 hv64 => ?_; cases hv64) <;> refine s_sta 2 tAgg93_LfB ?_ <;> refine xL 3 q_assign ?_ <;> refine aL_end (nav ?_) <;> try dsimp only)
             refine ret_cs (k := 3) 2 (by kernel_rfl) (Tryz.results114) rfl rfl rfl (Nat.le_of_ble_eq_true rfl) (by decide) rfl (.inr ⟨?_, _, _, _, rfl, hr1, hr2, rfl⟩)
             have hv := visit_no hnew2 (show (subW a).cap ≤ o'.length by show 2000 ≤ o'.length; omega)
             have h1 := Srch.row_fails (Srch.row_out hW hv) (show s + 1 ≤ (subW a).m by show s + 1 ≤ a.syms.toNat; omega)
             have h2 := Srch.all_none (Srch.upto_out hU hx h1) (show i + 1 ≤ (subW a).cap by show i + 1 ≤ 2000; omega)
             unfold subT
             rw [← hx0, h2]; rfl)
          · first
            | exact Bool.noConfusion hb63
            | (
             refine nav ?_
             (refine aC_region ?_ <;> refine xL 65 q_move ?_ <;> refine xL 66 q_move ?_ <;> (refine cS 67 (cA Tryz.call121 (aKey_e set (by omega) (hset.bd h))) fun v67 hv67 => ?_; cases hv67) <;> refine xL 68 q_move ?_ <;> (refine s_mput 304 tMp135_LfB ?_; rw [num_putN hnew]) <;> refine aL_end (nav ?_) <;> try dsimp only)
             (refine aC_region ?_ <;> refine xL 69 q_move ?_ <;> refine xL 70 q_move ?_ <;> refine s_lit1 (kk := 1) 71 tEl28_LdS fun h71 ho71 => ?_ <;> (refine s_app 303 71 72 tEl28_LdS fun h72 ho72 => ?_; refine aL_ent (relabel (l := 72) 303 rfl rfl) fun _ => ?_; refine aL_ent (recast (l := 303) rfl (snoc_w _ o' set)) fun _ => ?_) <;> refine xL 6 q_assign ?_ <;> refine aL_end (nav ?_) <;> try dsimp only)
             (refine aC_region ?_ <;> refine xL 73 q_move ?_ <;> refine xL 74 q_move ?_ <;> refine xL 75 q_move ?_ <;> refine xL 76 (q_idxoN 38 tSl22_LbB) ?_ <;> refine s_st 38 tNa3_LbB tSz3_LdJ ?_ <;> refine aL_end (nav ?_) <;> try dsimp only)
             (refine aC_region ?_ <;> refine xL 77 q_add ?_ <;> refine xL 41 q_move ?_ <;> refine aL_end (nav ?_) <;> try dsimp only)
             rw [show s * 1 = r.length * 1 by omega, rowAt_set _ (by omega)]
             first
              | (exact aN_again (
                  ⟨(s + 1, h72, o' ++ [set], r ++ [o'.length]), (by dsimp only; rw [hse]; exact Srch.row_snoc hW (visit_new hnew2 (show o'.length < 2000 by omega))), (by dsimp only; omega), ho72⟩
                  ) (by dsimp only; omega) ⟨rfl, rfl, rfl, rfl, rfl, rfl, rfl, rfl, rfl, rfl, rfl, trivial⟩ ⟨rfl, rfl, rfl, rfl, rfl, rfl, rfl, rfl, trivial⟩)
              | (exact aN_again (
                  ⟨(s + 1, r3', o', r ++ [numAt keyB o' set]), (by dsimp only; rw [hnum]; exact Srch.row_snoc hW (visit_old hold2)), (by dsimp only; omega), hr3'⟩
                  ) (by dsimp only; omega) ⟨rfl, rfl, rfl, rfl, rfl, rfl, rfl, rfl, rfl, rfl, rfl, trivial⟩ ⟨rfl, rfl, rfl, rfl, rfl, rfl, rfl, rfl, trivial⟩)))
       · first
         | exact Bool.noConfusion hb59
         | (
          have hold : posK keyB o' (keyB set) < o'.length := by simpa using hb59
          have hold2 : posK (subW a).key o' ((subW a).key ((subW a).step i x s)) < o'.length := by
           show posK id o' (nextL a (s : Nat) x) < o'.length
           rw [← hse, ← hkid]; exact hold
          have hnum : numAt keyB o' set = posK (subW a).key o' ((subW a).key ((subW a).step i x s)) := by
           show numAt keyB o' set = posK id o' (nextL a (s : Nat) x)
           unfold numAt
           rw [if_pos hold, hkid, hse]
          refine nav ?_
          (refine aC_region ?_ <;> refine xL 73 q_move ?_ <;> refine xL 74 q_move ?_ <;> refine xL 75 q_move ?_ <;> refine xL 76 (q_idxoN 38 tSl22_LbB) ?_ <;> refine s_st 38 tNa3_LbB tSz3_LdJ ?_ <;> refine aL_end (nav ?_) <;> try dsimp only)
          (refine aC_region ?_ <;> refine xL 77 q_add ?_ <;> refine xL 41 q_move ?_ <;> refine aL_end (nav ?_) <;> try dsimp only)
          rw [show s * 1 = r.length * 1 by omega, rowAt_set _ (by omega)]
          first
           | (exact aN_again (
               ⟨(s + 1, h72, o' ++ [set], r ++ [o'.length]), (by dsimp only; rw [hse]; exact Srch.row_snoc hW (visit_new hnew2 (show o'.length < 2000 by omega))), (by dsimp only; omega), ho72⟩
               ) (by dsimp only; omega) ⟨rfl, rfl, rfl, rfl, rfl, rfl, rfl, rfl, rfl, rfl, rfl, trivial⟩ ⟨rfl, rfl, rfl, rfl, rfl, rfl, rfl, rfl, trivial⟩)
           | (exact aN_again (
               ⟨(s + 1, r3', o', r ++ [numAt keyB o' set]), (by dsimp only; rw [hnum]; exact Srch.row_snoc hW (visit_old hold2)), (by dsimp only; omega), hr3'⟩
               ) (by dsimp only; omega) ⟨rfl, rfl, rfl, rfl, rfl, rfl, rfl, rfl, rfl, rfl, rfl, trivial⟩ ⟨rfl, rfl, rfl, rfl, rfl, rfl, rfl, rfl, trivial⟩)))
    · first
      | exact Bool.noConfusion hb42
      | (
       have hsm : s = a.syms.toNat := by omega
       subst hsm
       have hU2 := Srch.upto_snoc hU hx hW
       have e1 := map_at (f := pInts) hx'
       have htk : o'.take (i + 1) = (o.take i) ++ [x] := by
        rw [take_snoc hx']
        obtain ⟨e, rfl⟩ := hpr
        rw [List.take_append_of_le_length hi]
       refine nav ?_
       refine aC_ent (En.freeze (l := 38) (t := 9) rfl rfl) fun _ => ?_
       rw [share_row _ _ _ hrl]
       (refine aC_draw (fun i => ([16, 17, 18] : List Nat).elem i) [5, 303] (by kernel_rfl) ?_ <;> refine xDT 0 78 rfl (q_fldo 5 tFl93_1_LfB) ?_ <;> (refine yDT 1 79 rfl (q_ldo 5 tNa28_LfB) fun v79 hv79 => ?_; cases hv79) <;> refine xDT 2 80 rfl q_move ?_ <;> refine xDT 5 83 rfl (q_fldo 5 tFl93_2_LfB) ?_ <;> (refine yDT 6 84 rfl (q_ldo 5 tNa66_LdJ) fun v84 hv84 => ?_; cases hv84) <;> refine xDT 7 85 rfl q_move ?_ <;> refine xDT 8 86 rfl q_move ?_ <;> refine xDT 9 87 rfl q_move ?_ <;> refine xDT 10 88 rfl (q_idxoN 303 tSl28_LdS) ?_ <;> (refine yDT 11 89 rfl (q_ldo 303 tNa22_LdI) fun v89 hv89 => ?_; cases hv89) <;> (refine aD_one 3 (by kernel_rfl) ?_) <;> (refine aW_run rfl fun w9 M9 N9 DQ back => ?_) <;> refine s_lit1 (kk := 1) 81 tEl28_LdS fun h81 ho81 => ?_ <;> refine aL_end (back _ (nrm ?_)) <;> (refine aD_one 4 (by kernel_rfl) ?_) <;> (refine aW_run rfl fun w9 M9 N9 DQ back => ?_) <;> refine s_app 301 81 82 tEl28_LdS fun h82 ho82 => ?_ <;> refine aL_end (back _ (nrm ?_)) <;> refine xDT 15 93 rfl (q_fldo 5 tFl93_1_LfB) ?_ <;> (refine aD_one 12 (by kernel_rfl) ?_) <;> (refine aW_call (d := 90) rfl (cA Tryz.call62 (aAccepts_e a x hxs.1)) fun v90 hv90 => ?_; cases hv90) <;> (refine aD_one 13 (by kernel_rfl) ?_) <;> (refine aW_run rfl fun w9 M9 N9 DQ back => ?_) <;> refine s_lit1 (kk := 1) 91 tEl66_LdR fun h91 ho91 => ?_ <;> refine aL_end (back _ (nrm ?_)) <;> (refine aD_one 14 (by kernel_rfl) ?_) <;> (refine aW_run rfl fun w9 M9 N9 DQ back => ?_) <;> refine s_app 302 91 92 tEl66_LdR fun h92 ho92 => ?_ <;> refine aL_end (back _ (nrm ?_)) <;> (refine aD_one 16 (by kernel_rfl) ?_) <;> (refine aW_thenZ rfl rfl fun DQ back => ?_) <;> refine s_st 5 tNa28_LfB tSz28_LfB ?_ <;> refine aL_end (back _ ?_) <;> (refine aDZ_one 17 (by kernel_rfl) rfl rfl fun DQ back => ?_) <;> refine xL 94 (q_fldo 5 tFl93_2_LfB) ?_ <;> refine aL_end (back _ ?_) <;> (refine aDZ_one 18 (by kernel_rfl) rfl rfl fun DQ back => ?_) <;> refine s_st 5 tNa66_LdJ tSz66_LfB ?_ <;> refine aL_end (back _ ?_) <;> refine aDZ_end (by kernel_rfl) (nav ?_) <;> try dsimp only)
       refine aC_ent (relabel (l := 82) 301 rfl rfl) fun _ => ?_
       refine aC_ent (relabel (l := 92) 302 rfl rfl) fun _ => ?_
       refine aC_ent (recast (l := 301) rfl (snoc_nats _ rows r)) fun _ => ?_
       refine aC_ent (recast (l := 302) rfl (snoc_bools _ ((o.take i).map (accB a)) (accB a x))) fun _ => ?_
       rw [show ((o.take i).map (accB a)) ++ [accB a x] = (o'.take (i + 1)).map (accB a) by rw [htk, List.map_append]; rfl]
       (refine aC_region ?_ <;> refine xL 34 q_move ?_ <;> refine xL 35 q_add ?_ <;> refine xL 8 q_assign ?_ <;> refine aL_end (nav ?_) <;> try dsimp only)
       refine aN_again (
        ⟨(i + 1, h82, h92, r3', o', rows ++ [r]), hU2, (by dsimp only; omega), ho82, ho92, hr3'⟩
        ) (by dsimp only; omega) ⟨rfl, rfl, rfl, rfl, rfl, rfl, rfl, rfl, trivial⟩ ⟨rfl, rfl, rfl, rfl, rfl, rfl, rfl, trivial⟩))
 · first
   | exact Bool.noConfusion hb33
   | (
    have hio : i = o.length := by omega
    subst hio
    refine nav ?_
    refine aC_ent (freezeCell (l := 5) (l' := 301) (j := 1) rfl rfl rfl rfl) fun _ => ?_
    refine aC_ent (freezeCell (l := 5) (l' := 302) (j := 2) rfl rfl rfl rfl) fun _ => ?_
    rw [share_natss _ _ _ rfl, share_boolss _ _ _ rfl]
    (refine aC_region ?_ <;> (refine yL 95 (q_ldao 5 tAgg93_LfB) fun v95 hv95 => ?_; cases hv95) <;> refine s_sta 2 tAgg93_LfB ?_ <;> refine xL 3 q_assign ?_ <;> refine aL_end (nav ?_) <;> try dsimp only)
    refine ret_cs (k := 3) 2 (by kernel_rfl) (Tryz.results114) rfl rfl rfl (Nat.le_of_ble_eq_true rfl) (by decide) rfl (.inl ⟨⟨a.syms.toNat, rows, o.map (accB a)⟩, ?_, ?_⟩)
    · unfold subT
      rw [← hx0, Srch.all_some hU (Nat.le_refl _) (show o.length ≤ (subW a).cap from hcap)]; rfl
    · unfold pTab
      dsimp only
      rw [List.take_length, hsN]; rfl)
def keyN (l : List Nat) : ByteArray := keyB (toI l)
theorem toI_nn (l : List Nat) : ∀ x ∈ toI l, 0 ≤ x := fun x hx => by
 unfold toI at hx
 obtain ⟨y, _, rfl⟩ := List.mem_map.1 hx
 omega
theorem keyN_id (o : List (List Nat)) (x : List Nat) : posK keyN o (keyN x) = posK id o x := posK_inj fun l _ => by
 unfold keyN
 rw [keyB_inj (toI_nn l) (toI_nn x), toI_inj]; rfl
theorem skv_numE_len {α : Type} (f : α → ByteArray) (o : List α) : (skv (numE f 0 o)).length = o.length := by unfold skv; rw [List.length_map, numE_len]
theorem num_putL {α : Type} {f : α → ByteArray} {o : List α} {x : α} (h : ¬ posK f o (f x) < o.length) : mput (skv (numE f 0 o)) (.string (f x)) (.int .i64 ((skv (numE f 0 o)).length : Nat)) = skv (numE f 0 (o ++ [x])) := by
 rw [skv_numE_len, num_putN h]
def upTo (s : Nat) (f : Nat → Nat) (j : Nat) : Int := if j < s then (f j : Nat) else 0
theorem upTo_zero (n : Nat) (f : Nat → Nat) : List.replicate n (PV.val (.int .i64 0)) = vec n fun j => pInt (upTo 0 f j) := by
 rw [vec_const]
 refine vec_congr fun i _ => ?_
 unfold upTo; rw [if_neg (by omega)]
theorem upTo_set {n s : Nat} {f : Nat → Nat} {x : Int} (hx : x = (f s : Nat)) : (vec n fun j => pInt (upTo s f j)).set (s * 1) (pInt x) = vec n fun j => pInt (upTo (s + 1) f j) := by
 rw [Nat.mul_one, vec_set]
 refine vec_congr fun i hi => ?_
 unfold upTo
 by_cases e : i = s
 · subst e; rw [if_pos rfl, if_pos (by omega), hx]
 · rw [if_neg e]
   by_cases e2 : i < s
   · rw [if_pos e2, if_pos (by omega)]
   · rw [if_neg e2, if_neg (by omega)]
theorem upTo_skip {n s : Nat} {f : Nat → Nat} (hx : f s = 0) : (vec n fun j => pInt (upTo s f j)) = vec n fun j => pInt (upTo (s + 1) f j) := by
 refine vec_congr fun i hi => ?_
 unfold upTo
 by_cases e : i = s
 · subst e; rw [if_neg (by omega), if_pos (by omega), hx]; rfl
 · by_cases e2 : i < s
   · rw [if_pos e2, if_pos (by omega)]
   · rw [if_neg e2, if_neg (by omega)]
theorem upTo_full (n : Nat) (f : Nat → Nat) : (vec n fun j => pInt (upTo n f j)) = vec n fun j => pInt (f j : Nat) := by
 refine vec_congr fun i hi => ?_
 unfold upTo; rw [if_pos hi]
theorem toI_len (l : List Nat) : (toI l).length = l.length := by simp [toI]
theorem toI_snoc (l : List Nat) (x : Nat) : toI (l ++ [x]) = toI l ++ [(x : Int)] := by simp [toI]
theorem own_nats (e : Nat) (L : List Nat) (x : Nat) : PV.own e 1 (L.length + 1) ((toI L).map pInt ++ [pInt (x : Nat)]) = .own e 1 (L ++ [x]).length ((toI (L ++ [x])).map pInt) := by simp [toI_snoc]
def keyP (c : Nat → Nat) (s : Nat) (r : List Nat) (u : Nat) : List Nat := c s :: (r.take u).map c
theorem keyP_snoc {c : Nat → Nat} {s : Nat} {r : List Nat} {u x : Nat} (h : r[u]? = some x) : keyP c s r u ++ [c x] = keyP c s r (u + 1) := by
 unfold keyP; rw [take_snoc h, List.map_append]; rfl
theorem keyP_full {rows : List (List Nat)} {c : Nat → Nat} {s : Nat} {r : List Nat} {u : Nat} (h : rows[s]? = some r) (hu : r.length ≤ u) : keyP c s r u = keyC rows c s := by
 unfold keyP keyC; rw [h, List.take_of_length_le hu]; rfl
theorem keyP_len (c : Nat → Nat) (s : Nat) (r : List Nat) (u : Nat) (h : u ≤ r.length) : (keyP c s r u).length = u + 1 := by unfold keyP; rw [List.length_cons, List.length_map, List.length_take]; omega
theorem keyC_bd {t : Tab} (ht : TOk t) {c : Nat → Nat} (hc : ∀ s, s < t.rows.length → c s ≤ t.rows.length) {s : Nat} (hs : s < t.rows.length) : ∀ x ∈ toI (keyC t.rows c s), 0 ≤ x ∧ x ≤ 2000 := fun x hx => by
 unfold toI at hx
 obtain ⟨y, hy, rfl⟩ := List.mem_map.1 hx
 have hn := ht.n1
 have key : ∀ z, z < t.rows.length → c z ≤ 2000 := fun z hz => by have := hc z hz; omega
 unfold keyC at hy
 rcases List.mem_cons.1 hy with rfl | hy
 · have := key s hs; omega
 · obtain ⟨z, hz, rfl⟩ := List.mem_map.1 hy
   obtain ⟨r, hr⟩ := get_some hs
   rw [hr] at hz
   have := key z (ht.to r (List.mem_of_getElem? hr) z hz)
   omega
theorem nextC_at {rows : List (List Nat)} {c : Nat → Nat} {s : Nat} (hs : s < rows.length) : nextC rows c s = posK id (fstK (keyC rows c) (s + 1)) (keyC rows c s) := (fstK_pos (k := keyC rows c) hs).1
theorem nextC_old {rows : List (List Nat)} {c : Nat → Nat} {s : Nat} (hs : s < rows.length) (h : posK id (fstK (keyC rows c) s) (keyC rows c s) < (fstK (keyC rows c) s).length) : nextC rows c s = posK id (fstK (keyC rows c) s) (keyC rows c s) := by rw [nextC_at hs, fstK_old h]
theorem nextC_new {rows : List (List Nat)} {c : Nat → Nat} {s : Nat} (hs : s < rows.length) (h : ¬ posK id (fstK (keyC rows c) s) (keyC rows c s) < (fstK (keyC rows c) s).length) : nextC rows c s = (fstK (keyC rows c) s).length := by
 rw [nextC_at hs, fstK_new h]; exact posK_new h
theorem clsIt_stop {rows : List (List Nat)} {f : Nat} {c : Nat → Nat} {k : Nat} (h : cntC rows c = k) : clsIt rows (f + 1) c k = nextC rows c := by rw [clsIt, if_pos h]
theorem clsIt_more {rows : List (List Nat)} {f : Nat} {c : Nat → Nat} {k : Nat} (h : ¬ cntC rows c = k) : clsIt rows (f + 1) c k = clsIt rows f (nextC rows c) (cntC rows c) := by rw [clsIt, if_neg h]
set_option maxHeartbeats 4000000 in
theorem aClasses_e (t : Tab) (ht : TOk t) : AF Tryz.prog 105 [pTab t] (· = .own 3 1 t.rows.length (vec t.rows.length fun s => pInt (clsT t s : Nat))) := by
 have hn1 := ht.n1
 have hfl := ht.fl
 have hm1 := ht.m1
 refine AF.of_body 92 Tryz.func105 rfl Tryz.ntmps105 (Nat.le_of_ble_eq_true rfl) ?_
 intro w0 M0 vs hl hv
 obtain ⟨v0, rfl⟩ := len1 hl
 clear hl hv
 refine nav ?_
 (refine aC_region ?_ <;> refine s_boxa 1 3 fun h1 => ?_ <;> refine xL 2 q_assign ?_ <;> refine aL_end (nav ?_) <;> try dsimp only)
 (refine aC_region ?_ <;> refine xL 16 (q_fldo 1 tFl93_1_LfB) ?_ <;> (refine yL 17 (q_ldo 1 tNa28_LfB) fun v17 hv17 => ?_; cases hv17) <;> refine xL 18 (q_len tSl28_LdS) ?_ <;> refine s_make 19 tEl22_LdI fun h19 ho19 => ?_ <;> refine xL 3 q_assign ?_ <;> refine aL_end (nav ?_) <;> try dsimp only)
 refine aC_ent (relabel (l := 19) 303 rfl rfl) fun _ => ?_
 rw [upTo_zero _ (finC t.fin)]
 (refine aC_region ?_ <;> refine xL 20 (q_fldo 1 tFl93_2_LfB) ?_ <;> (refine yL 21 (q_ldo 1 tNa66_LdJ) fun v21 hv21 => ?_; cases hv21) <;> refine xL 22 (q_len tSl66_LdJ) ?_ <;> refine xL 23 q_move ?_ <;> refine aL_end (nav ?_) <;> try dsimp only)
 refine aC_loop (ι := { s : Nat // s ≤ t.fin.length }) (fun k => ⟨[(1, _, _), (3, _, _), (21, _, _), (22, _, _), (23, .int .i64 k.1, pInt k.1)], [(1, _, _), (303, h19, .own 3 1 t.rows.length (vec t.rows.length fun j => pInt (upTo k.1 (finC t.fin) j)))]⟩) (fun k => t.fin.length - k.1) ⟨0, Nat.zero_le _⟩ (fun a w H => H.weaken ⟨rfl, rfl, rfl, rfl, rfl, trivial⟩ ⟨rfl, rfl, trivial⟩) ?_
 rintro ⟨s, hs⟩
 dsimp only
 refine nav ?_
 (refine aC_region ?_ <;> refine xL 24 q_lss ?_ <;> refine aL_end (nav ?_) <;> try dsimp only)
 (first | refine cCd ?_ ?_ | refine cC ?_ ?_) <;> intro hb24
 · first
   | exact Bool.noConfusion hb24
   | (
    obtain ⟨b, hb⟩ := get_some (show s < t.fin.length by omega)
    have e1 := map_at (f := pBool) hb
    have e2 := vec_len t.rows.length (fun j => pInt (upTo s (finC t.fin) j))
    refine nav ?_
    (refine aC_region ?_ <;> refine xL 25 q_move ?_ <;> refine xL 26 (q_idxN tSl66_LdJ) ?_ <;> (refine yL 27 (q_ld tNa4_LdJ) fun v27 hv27 => ?_; cases hv27) <;> refine xL 4 q_assign ?_ <;> refine xL 5 q_assign ?_ <;> refine aL_end (nav ?_) <;> try dsimp only)
    (refine aC_region ?_ <;> refine xL 28 q_move ?_ <;> refine aL_end (nav ?_) <;> try dsimp only)
    (first | refine cCd ?_ ?_ | refine cC ?_ ?_) <;> intro hb28
    · first
      | exact Bool.noConfusion hb28
      | (
       refine nav ?_
       (refine aC_region ?_ <;> refine xL 29 q_move ?_ <;> refine xL 30 q_move ?_ <;> refine xL 31 (q_idxoN 303 tSl22_LbB) ?_ <;> refine s_st 303 tNa3_LbB tSz3_LdJ ?_ <;> refine aL_end (nav ?_) <;> try dsimp only)
       (refine aC_region ?_ <;> refine xL 32 q_add ?_ <;> refine xL 23 q_move ?_ <;> refine aL_end (nav ?_) <;> try dsimp only)
       try rw [upTo_set (x := 1) (by unfold finC; rw [hb]; show (1 : Int) = ((if b = true then 1 else 0 : Nat) : Int); rw [if_pos hb28]; rfl)]
       try rw [upTo_skip (by unfold finC; rw [hb]; show (if b = true then 1 else 0) = 0; rw [if_neg (by simpa using hb28)])]
       refine aN_again (
        ⟨s + 1, by omega⟩
        ) (by dsimp only; omega) ⟨rfl, rfl, rfl, rfl, rfl, trivial⟩ ⟨rfl, rfl, trivial⟩)
    · first
      | exact Bool.noConfusion hb28
      | (
       refine nav ?_
       (refine aC_region ?_ <;> refine xL 32 q_add ?_ <;> refine xL 23 q_move ?_ <;> refine aL_end (nav ?_) <;> try dsimp only)
       try rw [upTo_set (x := 1) (by unfold finC; rw [hb]; show (1 : Int) = ((if b = true then 1 else 0 : Nat) : Int); rw [if_pos hb28]; rfl)]
       try rw [upTo_skip (by unfold finC; rw [hb]; show (if b = true then 1 else 0) = 0; rw [if_neg (by simpa using hb28)])]
       refine aN_again (
        ⟨s + 1, by omega⟩
        ) (by dsimp only; omega) ⟨rfl, rfl, rfl, rfl, rfl, trivial⟩ ⟨rfl, rfl, trivial⟩))
 · first
   | exact Bool.noConfusion hb24
   | (
    have hsn : s = t.rows.length := by omega
    subst hsn
    rw [upTo_full]
    refine nav ?_
    (refine aC_region ?_ <;> refine xL 6 q_assign ?_ <;> refine aL_end (nav ?_) <;> try dsimp only)
    refine aC_loop (ι := { q : Value × (Nat → Nat) × Nat × Nat // COk t.rows.length q.2.1 q.2.2.1 ∧ clsIt t.rows q.2.2.2 q.2.1 q.2.2.1 = clsT t ∧ t.rows.length + 2 ≤ q.2.2.2 + q.2.2.1 ∧ q.1.oneCell' = true }) (fun k => ⟨[(1, _, _), (3, k.1.1, .val k.1.1), (6, .int .i64 k.1.2.2.1, pInt k.1.2.2.1)], [(1, _, _), (303, k.1.1, .own 3 1 t.rows.length (vec t.rows.length fun j => pInt (k.1.2.1 j : Nat)))]⟩) (fun k => t.rows.length + 2 - k.1.2.2.1) ⟨(h19, finC t.fin, 0, t.rows.length + 2), COk.start _ _, rfl, by dsimp only; omega, ho19⟩ (fun a w H => H.weaken ⟨rfl, rfl, rfl, trivial⟩ ⟨rfl, rfl, trivial⟩) ?_
    rintro ⟨⟨hv3, c, cnt, fuel⟩, hC, hit, hfu, hv3o⟩
    dsimp only
    dsimp only at hC hit hfu hv3o
    have hle := hC.le
    have hbd := hC.bd
    obtain ⟨f, rfl⟩ : ∃ f, fuel = f + 1 := ⟨fuel - 1, by omega⟩
    have hgr := hC.grow
    have hnx := hC.next
    refine nav ?_
    (refine aC_region ?_ <;> refine s_mkmap 33 fun h33 ho33 => ?_ <;> refine xL 7 q_assign ?_ <;> refine aL_end (nav ?_) <;> try dsimp only)
    (refine aC_region ?_ <;> refine xL 34 q_move ?_ <;> refine xL 35 (q_leno 303 tSl22_LbB) ?_ <;> refine s_make 36 tEl22_LdI fun h36 ho36 => ?_ <;> refine xL 8 q_assign ?_ <;> refine aL_end (nav ?_) <;> try dsimp only)
    refine aC_ent (relabel (l := 33) 304 rfl rfl) fun _ => ?_
    refine aC_ent (relabel (l := 36) 305 rfl rfl) fun _ => ?_
    rw [upTo_zero _ (nextC t.rows c)]
    refine aC_ent (recast (l := 304) (p' := .omap (skv (numE keyN 0 (fstK (keyC t.rows c) 0)))) rfl rfl) fun _ => ?_
    (refine aC_region ?_ <;> refine xL 37 (q_fldo 1 tFl93_1_LfB) ?_ <;> (refine yL 38 (q_ldo 1 tNa28_LfB) fun v38 hv38 => ?_; cases hv38) <;> refine xL 39 (q_len tSl28_LdS) ?_ <;> refine xL 40 q_move ?_ <;> refine aL_end (nav ?_) <;> try dsimp only)
    refine aC_loop (ι := { s : Nat // s ≤ t.rows.length }) (fun k => ⟨[(1, _, _), (3, _, _), (6, _, _), (7, _, _), (8, _, _), (38, _, _), (39, _, _), (40, .int .i64 k.1, pInt k.1)], [(1, _, _), (303, _, _), (304, h33, .omap (skv (numE keyN 0 (fstK (keyC t.rows c) k.1)))), (305, h36, .own 3 1 t.rows.length (vec t.rows.length fun j => pInt (upTo k.1 (nextC t.rows c) j)))]⟩) (fun k => t.rows.length - k.1) ⟨0, Nat.zero_le _⟩ (fun a w H => H.weaken ⟨rfl, rfl, rfl, rfl, rfl, rfl, rfl, rfl, trivial⟩ ⟨rfl, rfl, rfl, rfl, trivial⟩) ?_
    rintro ⟨s, hs⟩
    dsimp only
    refine nav ?_
    (refine aC_region ?_ <;> refine xL 41 q_lss ?_ <;> refine aL_end (nav ?_) <;> try dsimp only)
    (first | refine cCd ?_ ?_ | refine cC ?_ ?_) <;> intro hb41
    · first
      | exact Bool.noConfusion hb41
      | (
       have hlt : s < t.rows.length := by omega
       obtain ⟨r, hr⟩ := get_some hlt
       have e1 := map_at (f := pNats) hr
       have hrl := ht.rl r (List.mem_of_getElem? hr)
       have hrt := ht.to r (List.mem_of_getElem? hr)
       have htl := toI_len r
       have e2 := vec_at1 (fun j => pInt (c j : Nat)) hlt
       have e3 := vec_len t.rows.length (fun j => pInt (upTo s (nextC t.rows c) j))
       have hkl := fstK_len (keyC t.rows c) s
       refine nav ?_
       (refine aC_region ?_ <;> refine xL 42 q_move ?_ <;> refine xL 43 (q_idxN tSl28_LdS) ?_ <;> (refine yL 44 (q_ld tNa22_LdI) fun v44 hv44 => ?_; cases hv44) <;> refine xL 9 q_assign ?_ <;> refine xL 10 q_assign ?_ <;> refine aL_end (nav ?_) <;> try dsimp only)
       (refine aC_region ?_ <;> refine xL 45 q_move ?_ <;> refine xL 46 q_move ?_ <;> refine xL 47 (q_idxoN 303 tSl22_LbB) ?_ <;> (refine yL 48 (q_ldo 303 tNa3_LbB) fun v48 hv48 => ?_; cases hv48) <;> refine s_lit1 (kk := 1) 49 tEl22_LdI fun h49 ho49 => ?_ <;> refine xL 11 q_assign ?_ <;> refine aL_end (nav ?_) <;> try dsimp only)
       refine aC_ent (relabel (l := 49) 306 rfl rfl) fun _ => ?_
       refine aC_ent (recast (l := 306) (p' := .own 3 1 (keyP c s r 0).length ((toI (keyP c s r 0)).map pInt)) rfl rfl) fun _ => ?_
       refine aC_slen 10 rfl fun hlen10 => ?_
       (refine aC_region ?_ <;> refine xL 50 q_move ?_ <;> refine xL 51 (q_len tSl22_LbB) ?_ <;> refine xL 52 q_move ?_ <;> refine aL_end (nav ?_) <;> try dsimp only)
       refine aC_loop (ι := { q : Nat × Value // q.1 ≤ r.length ∧ q.2.oneCell' = true }) (fun k => ⟨[(1, _, _), (3, _, _), (6, _, _), (7, _, _), (8, _, _), (9, _, _), (38, _, _), (39, _, _), (40, _, _), (50, _, _), (51, _, _), (11, k.1.2, .val k.1.2), (52, .int .i64 k.1.1, pInt k.1.1)], [(1, _, _), (303, _, _), (304, _, _), (305, _, _), (306, k.1.2, .own 3 1 (keyP c s r k.1.1).length ((toI (keyP c s r k.1.1)).map pInt))]⟩) (fun k => r.length - k.1.1) ⟨(0, h49), Nat.zero_le _, ho49⟩ (fun a w H => H.weaken ⟨rfl, rfl, rfl, rfl, rfl, rfl, rfl, rfl, rfl, rfl, rfl, rfl, rfl, trivial⟩ ⟨rfl, rfl, rfl, rfl, rfl, trivial⟩) ?_
       rintro ⟨⟨u, hv⟩, hu, hvo⟩
       dsimp only
       dsimp only at hu hvo
       have hkpl := keyP_len c s r u hu
       refine nav ?_
       (refine aC_region ?_ <;> refine xL 53 q_lss ?_ <;> refine aL_end (nav ?_) <;> try dsimp only)
       (first | refine cCd ?_ ?_ | refine cC ?_ ?_) <;> intro hb53
       · first
         | exact Bool.noConfusion hb53
         | (
          obtain ⟨x, hx⟩ := get_some (show u < r.length by omega)
          have hxn := hrt x (List.mem_of_getElem? hx)
          have e4 : ((toI r).map pInt)[u * 1]? = some (pInt (x : Nat)) := by rw [Nat.mul_one, List.getElem?_map]; unfold toI; rw [List.getElem?_map, hx]; rfl
          have e5 := vec_at1 (fun j => pInt (c j : Nat)) hxn
          refine nav ?_
          (refine aC_region ?_ <;> refine xL 54 (q_idxN tSl22_LbB) ?_ <;> (refine yL 55 (q_ld tNa3_LbB) fun v55 hv55 => ?_; cases hv55) <;> refine xL 13 q_assign ?_ <;> refine aL_end (nav ?_) <;> try dsimp only)
          (refine aC_region ?_ <;> refine xL 56 q_move ?_ <;> refine xL 57 q_move ?_ <;> refine xL 58 q_move ?_ <;> refine xL 59 (q_idxoN 303 tSl22_LbB) ?_ <;> (refine yL 60 (q_ldo 303 tNa3_LbB) fun v60 hv60 => ?_; cases hv60) <;> refine s_lit1 (kk := 1) 61 tEl22_LdI fun h61 ho61 => ?_ <;> (refine s_app 306 61 62 tEl22_LdI fun h62 ho62 => ?_; refine aL_ent (relabel (l := 62) 306 rfl rfl) fun _ => ?_; refine aL_ent (recast (l := 306) rfl ((own_nats _ (keyP c s r u) (c x)).trans (by rw [keyP_snoc hx]))) fun _ => ?_) <;> refine xL 11 q_assign ?_ <;> refine aL_end (nav ?_) <;> try dsimp only)
          (refine aC_region ?_ <;> refine xL 63 q_add ?_ <;> refine xL 52 q_move ?_ <;> refine aL_end (nav ?_) <;> try dsimp only)
          refine aN_again (
           ⟨(u + 1, h62), lt_of_get hx, ho62⟩
           ) (by dsimp only; omega) ⟨rfl, rfl, rfl, rfl, rfl, rfl, rfl, rfl, rfl, rfl, rfl, rfl, rfl, trivial⟩ ⟨rfl, rfl, rfl, rfl, rfl, trivial⟩)
       · first
         | exact Bool.noConfusion hb53
         | (
          have hK := keyP_full (c := c) hr (show r.length ≤ u by omega)
          rw [hK]
          have hkb := keyC_bd ht hbd hlt
          have hkl2 : (keyC t.rows c s).length ≤ 1000 := by rw [← hK, hkpl]; omega
          have hid := keyN_id (fstK (keyC t.rows c) s) (keyC t.rows c s)
          refine nav ?_
          refine aC_ent (En.freeze (l := 306) (t := 11) rfl rfl) fun _ => ?_
          rw [share_ints _ _ _ (by rw [toI_len])]
          (refine aC_region ?_ <;> refine xL 65 q_move ?_ <;> refine xL 66 q_move ?_ <;> (refine cS 67 (cA Tryz.call121 (aKey_e (toI (keyC t.rows c s)) (by rw [toI_len]; omega) (fun x hx => by have := hkb x hx; omega))) fun v67 hv67 => ?_; cases hv67) <;> refine xL 68 (q_num2 (f := keyN) (L := fstK (keyC t.rows c) s) (a := keyC t.rows c s) 304 tMp135_LfB rfl rfl) ?_ <;> refine xL 64 q_move ?_ <;> refine xL 69 q_extract ?_ <;> refine xL 70 q_extract ?_ <;> refine xL 14 q_assign ?_ <;> refine xL 15 q_assign ?_ <;> refine aL_end (nav ?_) <;> try dsimp only)
          (refine aC_region ?_ <;> refine xL 71 q_move ?_ <;> refine xL 72 q_not ?_ <;> refine aL_end (nav ?_) <;> try dsimp only)
          (first | refine cCd ?_ ?_ | refine cC ?_ ?_) <;> intro hb72
          · first
            | exact Bool.noConfusion hb72
            | (
             have hnew : ¬ posK keyN (fstK (keyC t.rows c) s) (keyN (keyC t.rows c s)) < (fstK (keyC t.rows c) s).length := by simpa using hb72
             have hnew2 := hnew
             rw [hid] at hnew2
             have hnn := nextC_new hlt hnew2
             have hff := fstK_new hnew2
             refine nav ?_
             (refine aC_region ?_ <;> refine xL 73 q_move ?_ <;> refine xL 74 (q_mleno 304 Tryz.underlying135) ?_ <;> refine xL 14 q_assign ?_ <;> refine aL_end (nav ?_) <;> try dsimp only)
             (refine aC_region ?_ <;> refine xL 75 q_move ?_ <;> refine xL 76 q_move ?_ <;> (refine cS 77 (cA Tryz.call121 (aKey_e (toI (keyC t.rows c s)) (by rw [toI_len]; omega) (fun x hx => by have := hkb x hx; omega))) fun v77 hv77 => ?_; cases hv77) <;> refine xL 78 q_move ?_ <;> (refine s_mput 304 tMp135_LfB ?_; rw [show mput (skv (numE keyN 0 (fstK (keyC t.rows c) s))) (.string (keyB (toI (keyC t.rows c s)))) (.int .i64 ((skv (numE keyN 0 (fstK (keyC t.rows c) s))).length : Nat)) = skv (numE keyN 0 (fstK (keyC t.rows c) (s + 1))) by rw [hff]; exact num_putL hnew]) <;> refine aL_end (nav ?_) <;> try dsimp only)
             (refine aC_region ?_ <;> refine xL 79 q_move ?_ <;> refine xL 80 q_move ?_ <;> refine xL 81 q_move ?_ <;> refine xL 82 (q_idxoN 305 tSl22_LbB) ?_ <;> refine s_st 305 tNa3_LbB tSz3_LdJ ?_ <;> refine aL_end (nav ?_) <;> try dsimp only)
             (refine aC_region ?_ <;> refine xL 83 q_add ?_ <;> refine xL 40 q_move ?_ <;> refine aL_end (nav ?_) <;> try dsimp only)
             try rw [upTo_set (by rw [skv_numE_len, hnn])]
             try rw [upTo_set hnum, ← hfo]
             refine aN_again (
              ⟨s + 1, by omega⟩
              ) (by dsimp only; omega) ⟨rfl, rfl, rfl, rfl, rfl, rfl, rfl, rfl, trivial⟩ ⟨rfl, rfl, rfl, rfl, trivial⟩)
          · first
            | exact Bool.noConfusion hb72
            | (
             have hold : posK keyN (fstK (keyC t.rows c) s) (keyN (keyC t.rows c s)) < (fstK (keyC t.rows c) s).length := by simpa using hb72
             have hold2 := hold
             rw [hid] at hold2
             have hno := nextC_old hlt hold2
             have hfo := fstK_old hold2
             have hnum : (numAt keyN (fstK (keyC t.rows c) s) (keyC t.rows c s) : Int) = (nextC t.rows c s : Nat) := by unfold numAt; rw [if_pos hold, hid, hno]
             refine nav ?_
             (refine aC_region ?_ <;> refine xL 79 q_move ?_ <;> refine xL 80 q_move ?_ <;> refine xL 81 q_move ?_ <;> refine xL 82 (q_idxoN 305 tSl22_LbB) ?_ <;> refine s_st 305 tNa3_LbB tSz3_LdJ ?_ <;> refine aL_end (nav ?_) <;> try dsimp only)
             (refine aC_region ?_ <;> refine xL 83 q_add ?_ <;> refine xL 40 q_move ?_ <;> refine aL_end (nav ?_) <;> try dsimp only)
             try rw [upTo_set (by rw [skv_numE_len, hnn])]
             try rw [upTo_set hnum, ← hfo]
             refine aN_again (
              ⟨s + 1, by omega⟩
              ) (by dsimp only; omega) ⟨rfl, rfl, rfl, rfl, rfl, rfl, rfl, rfl, trivial⟩ ⟨rfl, rfl, rfl, rfl, trivial⟩)))
    · first
      | exact Bool.noConfusion hb41
      | (
       have hsn : s = t.rows.length := by omega
       subst hsn
       rw [upTo_full]
       refine nav ?_
       refine aC_ent (relabel (l := 303) 302 rfl rfl) fun _ => ?_
       refine aC_ent (relabel (l := 305) 303 rfl rfl) fun _ => ?_
       (refine aC_region ?_ <;> refine xL 84 q_move ?_ <;> refine xL 3 q_assign ?_ <;> refine aL_end (nav ?_) <;> try dsimp only)
       (refine aC_region ?_ <;> refine xL 85 q_move ?_ <;> refine xL 86 (q_mleno 304 Tryz.underlying135) ?_ <;> refine xL 87 q_move ?_ <;> refine xL 88 q_eql ?_ <;> refine aL_end (nav ?_) <;> try dsimp only)
       (first | refine cCd ?_ ?_ | refine cC ?_ ?_) <;> intro hb88
       · first
         | exact Bool.noConfusion hb88
         | (
          have hcc : cntC t.rows c = cnt := by rw [skv_numE_len] at hb88; unfold cntC; omega
          refine nav ?_
          (refine aC_region ?_ <;> refine xL 89 q_move ?_ <;> refine xL 2 q_assign ?_ <;> refine aL_end (nav ?_) <;> try dsimp only)
          refine ret_own 303 (Tryz.results105) rfl rfl ?_
          rw [← hit, clsIt_stop hcc])
       · first
         | exact Bool.noConfusion hb88
         | (
          have hcc : ¬ cntC t.rows c = cnt := by rw [skv_numE_len] at hb88; unfold cntC; omega
          refine nav ?_
          (refine aC_region ?_ <;> refine xL 90 q_move ?_ <;> refine xL 91 (q_mleno 304 Tryz.underlying135) ?_ <;> refine xL 6 q_assign ?_ <;> refine aL_end (nav ?_) <;> try dsimp only)
          rw [skv_numE_len]
          refine aN_again (
           ⟨(h36, nextC t.rows c, cntC t.rows c, f), hnx, by dsimp only; rw [← hit, clsIt_more hcc], by dsimp only; omega, ho36⟩
           ) (by have := hnx.le; dsimp only; omega) ⟨rfl, rfl, rfl, trivial⟩ ⟨rfl, rfl, trivial⟩)))
theorem tFl93_0_LfD : FldT Tryz.prog 93 0 0 = true := by kernel_rfl
theorem tMp132_LfD : MpT Tryz.prog 132 3 3 (.int .i64) (.int .i64 0) := ⟨Tryz.underlying132, Tryz.underlying3, .inr ⟨_, rfl⟩, by show ZeroT _ _ _; unfold ZeroT; kernel_rfl⟩
theorem tSt25_LfD : stInfo Tryz.prog 25 = some ((.agg #[(.int .i64 0), (.int .i64 0), (.slice none 0 0), (.slice none 0 0), (.slice none 0 0)]), ([0, 1, 2, 3, 4] : List Nat).map fun o => (o, 1)) := by kernel_rfl
theorem tSt72_LfD : stInfo Tryz.prog 72 = some ((.agg #[(.int .i64 0), (.int .i64 0), (.int .i64 0)]), ([0, 1, 2] : List Nat).map fun o => (o, 1)) := by kernel_rfl
theorem tZr25_LfD : ZeroT Tryz.prog 25 (.agg #[(.int .i64 0), (.int .i64 0), (.slice none 0 0), (.slice none 0 0), (.slice none 0 0)]) := by unfold ZeroT; kernel_rfl
section
variable {α : Type}
def numAtI (f : α → Int) (o : List α) (x : α) : Nat := if posK f o (f x) < o.length then posK f o (f x) else 0
theorem num_lookI (f : α → Int) (o : List α) (x : α) : (mget (ikv (numE f 0 o)) (.int .i64 (f x))).getD (.int .i64 0) = .int .i64 (numAtI f o x : Nat) ∧ (mget (ikv (numE f 0 o)) (.int .i64 (f x))).isSome = decide (posK f o (f x) < o.length) := by
 rw [mget_ikv, numE_get]
 unfold numAtI
 by_cases h : posK f o (f x) < o.length
 · rw [if_pos h, if_pos h, decide_eq_true h, Nat.zero_add]; exact ⟨rfl, rfl⟩
 · rw [if_neg h, if_neg h, decide_eq_false h]; exact ⟨rfl, rfl⟩
theorem num_putI {f : α → Int} {o : List α} {x : α} (h : ¬ posK f o (f x) < o.length) : mput (ikv (numE f 0 o)) (.int .i64 (f x)) (.int .i64 (o.length : Nat)) = ikv (numE f 0 (o ++ [x])) := by
 have := numE_put f x o 0 h
 rw [Nat.zero_add] at this
 rw [mput_ikv, this]
end
section
variable {α : Type} {P : Program} {sL hP : List (Nat × Ent)} {o : Oper}
theorem q_num2I {t ks e : Nat} {kd : TypeDesc} {z : Value} {x y : Operand} {m : Value} {f : α → Int} {L : List α} {a : α} {p q : PV} (l : Nat) (hT : MpT P t ks e kd z) (hz : z = .int .i64 0) (hkd : kd = .int .i64) (ho : o.op = .lookup t x y true := by exact rfl) (hx : ev sL x = some (m, p) := by exact rfl) (hl : lk hP l = some (m, .omap (ikv (numE f 0 L))) := by exact rfl) (hy : ev sL y = some (.int .i64 (f a), q) := by exact rfl) :
 YE P (⟨sL, hP⟩ : St) o (· = .tuple [.int .i64 (numAtI f L a : Nat), .bool (decide (posK f L (f a) < L.length))].toArray) (.tup [.val (.int .i64 (numAtI f L a : Nat)), .val (.bool (decide (posK f L (f a) < L.length)))]) := by
 subst hz hkd
 have h := q_looko2 (sL := sL) (hP := hP) (o := o) l hT ho hx hl hy (kok_ikv _ _)
 rw [(num_lookI f L a).1, (num_lookI f L a).2] at h
 exact h
end
def clsI (t : Tab) (x : Nat) : Int := (clsT t x : Nat)
theorem clsI_id (t : Tab) (o : List Nat) (x : Nat) : posK (clsI t) o (clsI t x) = posK (clsT t) o (clsT t x) := posK_inj fun y _ => by unfold clsI; omega
theorem listedL_pre {t : Tab} {o o' : List Nat} (h : o <+: o') : ∀ k, k ≤ o.length → listedL k (finAt t o) = listedL k (finAt t o')
 | 0, _ => rfl
 | k + 1, hk => by
   rw [listedL_snoc, listedL_snoc, listedL_pre h k (by omega)]
   obtain ⟨x, hx⟩ := get_some (show k < o.length by omega)
   unfold finAt
   rw [hx, preG_get h hx]
theorem snoc_mv (e : Nat) (L : List Mv) (x : Mv) : PV.own e 3 (L.length + 1) (L.flatMap cMv ++ cMv x) = .own e 3 (L ++ [x]).length ((L ++ [x]).flatMap cMv) := by simp
theorem share_mvl (e n : Nat) (l : List Mv) (hn : n = l.length) : share (.own e 3 n (l.flatMap cMv)) = pMvs l := by
 subst hn
 rw [share, shares_eq, List.map_flatMap]; rfl
theorem own_ints (e : Nat) (L : List Int) (x : Int) : PV.own e 1 (L.length + 1) (L.map pInt ++ [pInt x]) = .own e 1 (L ++ [x]).length ((L ++ [x]).map pInt) := by simp
theorem mv_room {rows : List (List Nat)} {r : List Nat} {n m : Nat} (h : ∀ x ∈ rows, x.length = m) (hm : m ≤ 40) (hn : rows.length ≤ 2000) (hr : r.length ≤ m) : (movesT rows ++ rowMv n r).length ≤ 80040 := by
 rw [List.length_append, movesT_len rows h, rowMv_len]
 have : rows.length * m ≤ 2000 * 40 := Nat.mul_le_mul hn hm
 omega
set_option maxHeartbeats 4000000 in
theorem aMinimal_e (t : Tab) (ht : TOk t) : AF Tryz.prog 72 [pTab t] (· = resW (lim (leastT t))) := by
 have hn1 := ht.n1
 have hfl := ht.fl
 have hm1 := ht.m1
 have hpos := ht.pos
 refine AF.of_body 101 Tryz.func72 rfl Tryz.ntmps72 (Nat.le_of_ble_eq_true rfl) ?_
 intro w0 M0 vs hl hv
 obtain ⟨v0, rfl⟩ := len1 hl
 clear hl hv
 refine nav ?_
 (refine aC_region ?_ <;> refine s_boxa 1 3 fun h1 => ?_ <;> refine s_alloc [(.int .i64 0), (.int .i64 0), (.slice none 0 0), (.slice none 0 0), (.slice none 0 0)] 5 2 tZr25_LfD fun h2 => ?_ <;> refine xL 3 q_assign ?_ <;> refine aL_end (nav ?_) <;> try dsimp only)
 (refine aC_region ?_ <;> (refine yL 13 (q_ldao 1 tAgg93_LfB) fun v13 hv13 => ?_; cases hv13) <;> (refine cO 14 (cA Tryz.call105 (aClasses_e t ht)) fun v14 ho14 => ?_; refine aL_ent (En.freeze (l := 14) (t := 14) rfl rfl) fun _ => ?_; rw [show share (.own 3 1 t.rows.length (vec t.rows.length fun s => pInt (clsT t s : Nat))) = .sl t.rows.length (vec t.rows.length fun s => pInt (clsT t s : Nat)) by rw [share, shares_eq, vec_map]; rfl]) <;> refine xL 4 q_assign ?_ <;> refine aL_end (nav ?_) <;> try dsimp only)
 have e1 := vec_at1 (fun s => pInt (clsT t s : Nat)) hpos
 (refine aC_region ?_ <;> refine s_mkmap 15 fun h15 ho15 => ?_ <;> refine xL 16 q_move ?_ <;> refine xL 17 (q_idxN (i := 0) tSl22_LbB) ?_ <;> (refine yL 18 (q_ld tNa3_LbB) fun v18 hv18 => ?_; cases hv18) <;> (refine s_mins 15 tMp132_LfD ?_; rw [show mput [] (.int .i64 ((clsT t 0 : Nat) : Int)) (.int .i64 0) = ikv (numE (clsI t) 0 [0]) from rfl]) <;> refine xL 19 q_move ?_ <;> refine xL 5 q_assign ?_ <;> refine aL_end (nav ?_) <;> try dsimp only)
 (refine aC_region ?_ <;> refine s_lit1 (kk := 1) 20 tEl22_LdI fun h20 ho20 => ?_ <;> refine xL 6 q_assign ?_ <;> refine aL_end (nav ?_) <;> try dsimp only)
 refine aC_ent (relabel (l := 15) 304 rfl rfl) fun _ => ?_
 refine aC_ent (relabel (l := 20) 303 rfl rfl) fun _ => ?_
 refine aC_ent (recast (l := 303) (p' := .own 3 1 ([0] : List Nat).length ((toI [0]).map pInt)) rfl rfl) fun _ => ?_
 (refine aC_region ?_ <;> refine xL 21 (q_fldo 1 tFl93_0_LfD) ?_ <;> (refine yL 22 (q_ldo 1 tNa3_LbB) fun v22 hv22 => ?_; cases hv22) <;> (refine s_lit1 (kk := 1) 23 tEl22_LdI fun h23 ho23 => ?_; refine aL_ent (En.freeze (l := 23) (t := 23) rfl rfl) fun _ => ?_; rw [show share (PV.own 3 1 1 [PV.val (.int .i64 0)]) = pInts [0] from rfl]) <;> refine xL 24 (q_build tSt25_LfD) ?_ <;> refine s_alloc [(.int .i64 0), (.int .i64 0), (.slice none 0 0), (.slice none 0 0), (.slice none 0 0)] 5 7 tZr25_LfD fun h7 => ?_ <;> refine s_sta 7 tAgg25_LdS ?_ <;> refine aL_end (nav ?_) <;> try dsimp only)
 refine aC_ent (nilCells (l := 7) [pInt 0, pInt (t.m : Nat), pInts [0], .own 3 1 0 [], .own 72 3 0 []] rfl rfl (fun i p p' h1 h2 => by
  match i with
  | 0 => cases h1; cases h2; exact .inl rfl
  | 1 => cases h1; cases h2; exact .inl rfl
  | 2 => cases h1; cases h2; exact .inl rfl
  | 3 => cases h1; cases h2; exact .inr ⟨rfl, _, _, rfl⟩
  | 4 => cases h1; cases h2; exact .inr ⟨rfl, _, _, rfl⟩
  | i + 5 => simp at h2)) fun _ => ?_
 refine aC_ent (focusO (l := 7) (l' := 301) (j := 3) rfl rfl rfl rfl) fun i => ?_
 obtain ⟨v301, ho301⟩ := i
 refine aC_ent (focusO (l := 7) (l' := 302) (j := 4) rfl rfl rfl rfl) fun i => ?_
 obtain ⟨v302, ho302⟩ := i
 dsimp only [List.set]
 (refine aC_region ?_ <;> refine xL 8 q_assign ?_ <;> refine aL_end (nav ?_) <;> try dsimp only)
 refine aC_loop (ι := { q : Nat × Value × Value × Value × List Nat × List (List Nat) // (minW t).upto 0 q.1 = some (q.2.2.2.2.1, q.2.2.2.2.2) ∧ q.1 ≤ q.2.2.2.2.1.length ∧ q.2.1.oneCell' = true ∧ q.2.2.1.oneCell' = true ∧ q.2.2.2.1.oneCell' = true }) (fun k => ⟨[(1, _, _), (2, _, _), (3, _, _), (4, _, _), (5, _, _), (7, _, _), (6, k.1.2.2.2.1, .val k.1.2.2.2.1), (8, .int .i64 k.1.1, pInt k.1.1)], [(1, _, _), (2, _, _), (7, h7, .own 25 5 1 [pInt 0, pInt (t.m : Nat), pInts [0], .val k.1.2.1, .val k.1.2.2.1]), (301, k.1.2.1, .own 3 1 (listedL k.1.1 (finAt t k.1.2.2.2.2.1)).length ((listedL k.1.1 (finAt t k.1.2.2.2.2.1)).map pInt)), (302, k.1.2.2.1, .own 72 3 (movesT k.1.2.2.2.2.2).length ((movesT k.1.2.2.2.2.2).flatMap cMv)), (303, k.1.2.2.2.1, .own 3 1 k.1.2.2.2.2.1.length ((toI k.1.2.2.2.2.1).map pInt)), (304, h15, .omap (ikv (numE (clsI t) 0 k.1.2.2.2.2.1)))]⟩) (fun k => 2000 - k.1.1) ⟨(0, v301, v302, h20, [0], []), rfl, Nat.zero_le _, ho301, ho302, ho20⟩ (fun a w H => H.weaken ⟨rfl, rfl, rfl, rfl, rfl, rfl, rfl, rfl, trivial⟩ ⟨rfl, rfl, rfl, rfl, rfl, rfl, rfl, trivial⟩) ?_
 rintro ⟨⟨i, hF, hM, hO, o, rows⟩, hU, hi, hFo, hMo, hOo⟩
 dsimp only
 dsimp only at hU hi hFo hMo hOo
 obtain ⟨hOk, hRl, _⟩ := min_ok ht hU
 have hRl := hRl hi
 have hcap : o.length ≤ t.rows.length := hOk.cap
 have hrw := hOk.len
 have htl := toI_len o
 have hll := listedL_len i (finAt t o)
 refine nav ?_
 (refine aC_region ?_ <;> refine xL 25 q_move ?_ <;> refine xL 26 q_move ?_ <;> refine xL 27 (q_leno 303 tSl22_LbB) ?_ <;> refine xL 28 q_lss ?_ <;> refine aL_end (nav ?_) <;> try dsimp only)
 (first | refine cCd ?_ ?_ | refine cC ?_ ?_) <;> intro hb28
 · first
   | exact Bool.noConfusion hb28
   | (
    obtain ⟨x, hx⟩ := get_some (show i < o.length by omega)
    have hxn : x < t.rows.length := hOk.p x (List.mem_of_getElem? hx)
    have e1 : ((toI o).map pInt)[i * 1]? = some (pInt (x : Nat)) := by rw [Nat.mul_one, List.getElem?_map]; unfold toI; rw [List.getElem?_map, hx]; rfl
    obtain ⟨b, hb⟩ := get_some (show x < t.fin.length by omega)
    have e2 := map_at (f := pBool) hb
    obtain ⟨row, hrow⟩ := get_some hxn
    have e3 := map_at (f := pNats) hrow
    have hrl := ht.rl row (List.mem_of_getElem? hrow)
    have hrt := ht.to row (List.mem_of_getElem? hrow)
    have hrtl := toI_len row
    have hfa : finAt t o i = b := by unfold finAt; rw [hx]; show (t.fin[x]?).getD false = b; rw [hb]; rfl
    have hL1 := listedL_snoc i (finAt t o)
    rw [hfa] at hL1
    refine nav ?_
    (refine aC_draw (fun i => ([] : List Nat).elem i) [1, 303] (by kernel_rfl) ?_ <;> refine xD 0 31 rfl (q_fldo 1 tFl93_2_LfB) ?_ <;> (refine yD 1 32 rfl (q_ldo 1 tNa66_LdJ) fun v32 hv32 => ?_; cases hv32) <;> refine xD 2 33 rfl q_move ?_ <;> refine xE 3 34 rfl q_move ?_ <;> refine xE 4 35 rfl (q_idxoN 303 tSl22_LbB) ?_ <;> (refine yE 5 36 rfl (q_ldo 303 tNa3_LbB) fun v36 hv36 => ?_; cases hv36) <;> refine xE 6 37 rfl (q_idxN tSl66_LdJ) ?_ <;> (refine yE 7 38 rfl (q_ld tNa4_LdJ) fun v38 hv38 => ?_; cases hv38) <;> refine aD_end (by kernel_rfl) (nav ?_) <;> try dsimp only)
    (first | refine cCd ?_ ?_ | refine cC ?_ ?_) <;> intro hb38
    · first
      | exact Bool.noConfusion hb38
      | (
       rw [if_pos hb38] at hL1
       refine nav ?_
       (refine aC_region ?_ <;> refine xL 39 (q_fldo 7 tFl25_3_LdI) ?_ <;> (refine yL 40 (q_ldo 7 tNa22_LdI) fun v40 hv40 => ?_; cases hv40) <;> refine xL 41 q_move ?_ <;> refine s_lit1 (kk := 1) 42 tEl22_LdI fun h42 ho42 => ?_ <;> (refine s_app 301 42 43 tEl22_LdI fun h43 ho43 => ?_; refine aL_ent (relabel (l := 43) 301 rfl rfl) fun _ => ?_; refine aL_ent (recast (l := 301) rfl (own_ints _ (listedL i (finAt t o)) i)) fun _ => ?_) <;> refine xL 44 (q_fldo 7 tFl25_3_LdI) ?_ <;> refine s_st 7 tNa22_LdI tSz22_LdK ?_ <;> refine aL_end (nav ?_) <;> try dsimp only)
       (refine aC_draw (fun i => ([] : List Nat).elem i) [1, 303] (by kernel_rfl) ?_ <;> refine xD 0 45 rfl (q_fldo 1 tFl93_1_LfB) ?_ <;> (refine yD 1 46 rfl (q_ldo 1 tNa28_LfB) fun v46 hv46 => ?_; cases hv46) <;> refine xD 2 47 rfl q_move ?_ <;> refine xD 3 48 rfl q_move ?_ <;> refine xD 4 49 rfl (q_idxoN 303 tSl22_LbB) ?_ <;> (refine yD 5 50 rfl (q_ldo 303 tNa3_LbB) fun v50 hv50 => ?_; cases hv50) <;> refine xD 6 51 rfl (q_idxN tSl28_LdS) ?_ <;> (refine yD 7 52 rfl (q_ld tNa22_LdI) fun v52 hv52 => ?_; cases hv52) <;> refine xD 8 53 rfl (q_len tSl22_LbB) ?_ <;> refine xE 9 54 rfl q_move ?_ <;> refine aD_end (by kernel_rfl) (nav ?_) <;> try dsimp only)
       rw [← hL1]
       rw [show movesT rows = movesT rows ++ rowMv i ([] : List Nat) from (List.append_nil _).symm]
       refine aC_loop (ι := { q : Nat × Value × Value × List Nat × List Nat // (minW t).row i x o q.1 = some (q.2.2.2.1, q.2.2.2.2) ∧ q.1 ≤ t.m ∧ q.2.1.oneCell' = true ∧ q.2.2.1.oneCell' = true }) (fun k => ⟨[(1, _, _), (2, _, _), (3, _, _), (4, _, _), (5, _, _), (7, _, _), (8, _, _), (52, _, _), (53, _, _), (6, k.1.2.2.1, .val k.1.2.2.1), (54, .int .i64 k.1.1, pInt k.1.1)], [(1, _, _), (2, _, _), (301, _, _), (7, h7, .own 25 5 1 [pInt 0, pInt (t.m : Nat), pInts [0], _, .val k.1.2.1]), (302, k.1.2.1, .own 72 3 (movesT rows ++ rowMv i k.1.2.2.2.2).length ((movesT rows ++ rowMv i k.1.2.2.2.2).flatMap cMv)), (303, k.1.2.2.1, .own 3 1 k.1.2.2.2.1.length ((toI k.1.2.2.2.1).map pInt)), (304, h15, .omap (ikv (numE (clsI t) 0 k.1.2.2.2.1)))]⟩) (fun k => t.m - k.1.1) ⟨(0, hM, hO, o, []), rfl, Nat.zero_le _, hMo, hOo⟩ (fun a w H => H.weaken ⟨rfl, rfl, rfl, rfl, rfl, rfl, rfl, rfl, rfl, rfl, rfl, trivial⟩ ⟨rfl, rfl, rfl, rfl, rfl, rfl, rfl, trivial⟩) ?_
       rintro ⟨⟨s, hM', hO', o', r⟩, hW, hs, hM'o, hO'o⟩
       dsimp only
       dsimp only at hW hs hM'o hO'o
       obtain ⟨hMt, hpr, hrl2, _⟩ := hOk.toMet.row (fun s _ => toT_lt ht) (show s ≤ (minW t).m from hs) hW
       have hcap' : o'.length ≤ t.rows.length := hMt.cap
       have htl' := toI_len o'
       have hmr := mv_room (n := i) hrw hm1 (by omega) (show r.length ≤ t.m by omega)
       refine nav ?_
       (refine aC_region ?_ <;> refine xL 55 q_lss ?_ <;> refine aL_end (nav ?_) <;> try dsimp only)
       (first | refine cCd ?_ ?_ | refine cC ?_ ?_) <;> intro hb55
       · first
         | exact Bool.noConfusion hb55
         | (
          obtain ⟨y, hy⟩ := get_some (show s < row.length by omega)
          have hyn := hrt y (List.mem_of_getElem? hy)
          have e4 : ((toI row).map pInt)[s * 1]? = some (pInt (y : Nat)) := by rw [Nat.mul_one, List.getElem?_map]; unfold toI; rw [List.getElem?_map, hy]; rfl
          have e5 := vec_at1 (fun s => pInt (clsT t s : Nat)) hyn
          have hto : (minW t).step i x s = y := toT_at hrow hy
          have hid := clsI_id t o' y
          refine nav ?_
          (refine aC_region ?_ <;> refine xL 56 q_move ?_ <;> refine xL 57 (q_idxN tSl22_LbB) ?_ <;> (refine yL 58 (q_ld tNa3_LbB) fun v58 hv58 => ?_; cases hv58) <;> refine xL 9 q_assign ?_ <;> refine xL 10 q_assign ?_ <;> refine aL_end (nav ?_) <;> try dsimp only)
          (refine aC_region ?_ <;> refine xL 60 q_move ?_ <;> refine xL 61 q_move ?_ <;> refine xL 62 q_move ?_ <;> refine xL 63 (q_idxN tSl22_LbB) ?_ <;> (refine yL 64 (q_ld tNa3_LbB) fun v64 hv64 => ?_; cases hv64) <;> refine xL 65 (q_num2I (f := clsI t) (L := o') (a := y) 304 tMp132_LfD rfl rfl) ?_ <;> refine xL 59 q_move ?_ <;> refine xL 66 q_extract ?_ <;> refine xL 67 q_extract ?_ <;> refine xL 11 q_assign ?_ <;> refine xL 12 q_assign ?_ <;> refine aL_end (nav ?_) <;> try dsimp only)
          (refine aC_region ?_ <;> refine xL 68 q_move ?_ <;> refine xL 69 q_not ?_ <;> refine aL_end (nav ?_) <;> try dsimp only)
          (first | refine cCd ?_ ?_ | refine cC ?_ ?_) <;> intro hb69
          · first
            | exact Bool.noConfusion hb69
            | (
             have hnew : ¬ posK (clsI t) o' (clsI t y) < o'.length := by simpa using hb69
             have hnew2 : ¬ posK (minW t).key o' ((minW t).key ((minW t).step i x s)) < o'.length := by
              rw [hto]
              show ¬ posK (clsT t) o' (clsT t y) < o'.length
              rw [← hid]; exact hnew
             have hroom := min_visit ht hMt (show (minW t).step i x s < t.rows.length by rw [hto]; exact hyn) hnew2
             refine nav ?_
             (refine aC_region ?_ <;> refine xL 70 q_move ?_ <;> refine xL 71 (q_leno 303 tSl22_LbB) ?_ <;> refine xL 11 q_assign ?_ <;> refine aL_end (nav ?_) <;> try dsimp only)
             (refine aC_region ?_ <;> refine xL 72 q_move ?_ <;> refine xL 73 q_move ?_ <;> refine xL 74 q_move ?_ <;> refine xL 75 (q_idxN tSl22_LbB) ?_ <;> (refine yL 76 (q_ld tNa3_LbB) fun v76 hv76 => ?_; cases hv76) <;> refine xL 77 q_move ?_ <;> (refine s_mput 304 tMp132_LfD ?_; rw [show mput (ikv (numE (clsI t) 0 o')) (.int .i64 ((clsT t y : Nat) : Int)) (.int .i64 ((o'.length : Nat) : Int)) = ikv (numE (clsI t) 0 (o' ++ [y])) from num_putI hnew]) <;> refine aL_end (nav ?_) <;> try dsimp only)
             (refine aC_region ?_ <;> refine xL 78 q_move ?_ <;> refine xL 79 q_move ?_ <;> refine s_lit1 (kk := 1) 80 tEl22_LdI fun h80 ho80 => ?_ <;> (refine s_app 303 80 81 tEl22_LdI fun h81 ho81 => ?_; refine aL_ent (relabel (l := 81) 303 rfl rfl) fun _ => ?_; refine aL_ent (recast (l := 303) rfl (own_nats _ o' y)) fun _ => ?_) <;> refine xL 6 q_assign ?_ <;> refine aL_end (nav ?_) <;> try dsimp only)
             (refine aC_region ?_ <;> refine xL 82 (q_fldo 7 tFl25_4_LdI) ?_ <;> (refine yL 83 (q_ldo 7 tNa23_LdI) fun v83 hv83 => ?_; cases hv83) <;> refine xL 84 q_move ?_ <;> refine xL 85 q_move ?_ <;> refine xL 86 q_move ?_ <;> refine xL 87 (q_build tSt72_LfD) ?_ <;> refine s_lit1a 88 tEl23_LdR fun h88 ho88 => ?_ <;> (refine s_app 302 88 89 tEl23_LdR fun h89 ho89 => ?_; refine aL_ent (relabel (l := 89) 302 rfl rfl) fun _ => ?_; first | refine aL_ent (recast (l := 302) rfl (snoc_mv _ (movesT rows ++ rowMv i r) ⟨(i : Nat), (o'.length : Nat), (s : Nat)⟩)) fun _ => ?_ | refine aL_ent (recast (l := 302) rfl (snoc_mv _ (movesT rows ++ rowMv i r) ⟨(i : Nat), (numAtI (clsI t) o' y : Nat), (s : Nat)⟩)) fun _ => ?_) <;> refine xL 90 (q_fldo 7 tFl25_4_LdI) ?_ <;> refine s_st 7 tNa23_LdI tSz23_LdR ?_ <;> refine aL_end (nav ?_) <;> try dsimp only)
             (refine aC_region ?_ <;> refine xL 91 q_add ?_ <;> refine xL 54 q_move ?_ <;> refine aL_end (nav ?_) <;> try dsimp only)
             try rw [show (movesT rows ++ rowMv i r) ++ [(⟨(i : Nat), (o'.length : Nat), (s : Nat)⟩ : Mv)] = movesT rows ++ rowMv i (r ++ [o'.length]) by rw [rowMv_snoc, hrl2, List.append_assoc]]
             try rw [show (movesT rows ++ rowMv i r) ++ [(⟨(i : Nat), (numAtI (clsI t) o' y : Nat), (s : Nat)⟩ : Mv)] = movesT rows ++ rowMv i (r ++ [numAtI (clsI t) o' y]) by rw [rowMv_snoc, hrl2, List.append_assoc]]
             first
              | (exact aN_again (
                  ⟨(s + 1, h89, h81, o' ++ [y], r ++ [o'.length]), (by dsimp only; exact (by have h9 := Srch.row_snoc hW (visit_new hnew2 hroom); rwa [hto] at h9)), (by dsimp only; omega), ho89, ho81⟩
                  ) (by dsimp only; omega) ⟨rfl, rfl, rfl, rfl, rfl, rfl, rfl, rfl, rfl, rfl, rfl, trivial⟩ ⟨rfl, rfl, rfl, rfl, rfl, rfl, rfl, trivial⟩)
              | (exact aN_again (
                  ⟨(s + 1, h89, hO', o', r ++ [numAtI (clsI t) o' y]), (by dsimp only; rw [hnum]; exact Srch.row_snoc hW (visit_old hold2)), (by dsimp only; omega), ho89, hO'o⟩
                  ) (by dsimp only; omega) ⟨rfl, rfl, rfl, rfl, rfl, rfl, rfl, rfl, rfl, rfl, rfl, trivial⟩ ⟨rfl, rfl, rfl, rfl, rfl, rfl, rfl, trivial⟩))
          · first
            | exact Bool.noConfusion hb69
            | (
             have hold : posK (clsI t) o' (clsI t y) < o'.length := by simpa using hb69
             have hold2 : posK (minW t).key o' ((minW t).key ((minW t).step i x s)) < o'.length := by
              rw [hto]
              show posK (clsT t) o' (clsT t y) < o'.length
              rw [← hid]; exact hold
             have hnum : numAtI (clsI t) o' y = posK (minW t).key o' ((minW t).key ((minW t).step i x s)) := by
              rw [hto]
              show numAtI (clsI t) o' y = posK (clsT t) o' (clsT t y)
              unfold numAtI
              rw [if_pos hold, hid]
             refine nav ?_
             (refine aC_region ?_ <;> refine xL 82 (q_fldo 7 tFl25_4_LdI) ?_ <;> (refine yL 83 (q_ldo 7 tNa23_LdI) fun v83 hv83 => ?_; cases hv83) <;> refine xL 84 q_move ?_ <;> refine xL 85 q_move ?_ <;> refine xL 86 q_move ?_ <;> refine xL 87 (q_build tSt72_LfD) ?_ <;> refine s_lit1a 88 tEl23_LdR fun h88 ho88 => ?_ <;> (refine s_app 302 88 89 tEl23_LdR fun h89 ho89 => ?_; refine aL_ent (relabel (l := 89) 302 rfl rfl) fun _ => ?_; first | refine aL_ent (recast (l := 302) rfl (snoc_mv _ (movesT rows ++ rowMv i r) ⟨(i : Nat), (o'.length : Nat), (s : Nat)⟩)) fun _ => ?_ | refine aL_ent (recast (l := 302) rfl (snoc_mv _ (movesT rows ++ rowMv i r) ⟨(i : Nat), (numAtI (clsI t) o' y : Nat), (s : Nat)⟩)) fun _ => ?_) <;> refine xL 90 (q_fldo 7 tFl25_4_LdI) ?_ <;> refine s_st 7 tNa23_LdI tSz23_LdR ?_ <;> refine aL_end (nav ?_) <;> try dsimp only)
             (refine aC_region ?_ <;> refine xL 91 q_add ?_ <;> refine xL 54 q_move ?_ <;> refine aL_end (nav ?_) <;> try dsimp only)
             try rw [show (movesT rows ++ rowMv i r) ++ [(⟨(i : Nat), (o'.length : Nat), (s : Nat)⟩ : Mv)] = movesT rows ++ rowMv i (r ++ [o'.length]) by rw [rowMv_snoc, hrl2, List.append_assoc]]
             try rw [show (movesT rows ++ rowMv i r) ++ [(⟨(i : Nat), (numAtI (clsI t) o' y : Nat), (s : Nat)⟩ : Mv)] = movesT rows ++ rowMv i (r ++ [numAtI (clsI t) o' y]) by rw [rowMv_snoc, hrl2, List.append_assoc]]
             first
              | (exact aN_again (
                  ⟨(s + 1, h89, h81, o' ++ [y], r ++ [o'.length]), (by dsimp only; exact (by have h9 := Srch.row_snoc hW (visit_new hnew2 hroom); rwa [hto] at h9)), (by dsimp only; omega), ho89, ho81⟩
                  ) (by dsimp only; omega) ⟨rfl, rfl, rfl, rfl, rfl, rfl, rfl, rfl, rfl, rfl, rfl, trivial⟩ ⟨rfl, rfl, rfl, rfl, rfl, rfl, rfl, trivial⟩)
              | (exact aN_again (
                  ⟨(s + 1, h89, hO', o', r ++ [numAtI (clsI t) o' y]), (by dsimp only; rw [hnum]; exact Srch.row_snoc hW (visit_old hold2)), (by dsimp only; omega), ho89, hO'o⟩
                  ) (by dsimp only; omega) ⟨rfl, rfl, rfl, rfl, rfl, rfl, rfl, rfl, rfl, rfl, rfl, trivial⟩ ⟨rfl, rfl, rfl, rfl, rfl, rfl, rfl, trivial⟩)))
       · first
         | exact Bool.noConfusion hb55
         | (
          have hsm : s = t.m := by omega
          subst hsm
          have hU2 := Srch.upto_snoc hU hx hW
          rw [show movesT rows ++ rowMv i r = movesT (rows ++ [r]) by rw [movesT_snoc, hRl]]
          rw [listedL_pre hpr (i + 1) (by omega)]
          refine nav ?_
          (refine aC_region ?_ <;> refine xL 29 q_move ?_ <;> refine xL 30 q_add ?_ <;> refine xL 8 q_assign ?_ <;> refine aL_end (nav ?_) <;> try dsimp only)
          first
           | (exact aN_again (
               ⟨(i + 1, h43, hM', hO', o', rows ++ [r]), hU2, (by dsimp only; have := hpr.length_le; omega), ho43, hM'o, hO'o⟩
               ) (by dsimp only; omega) ⟨rfl, rfl, rfl, rfl, rfl, rfl, rfl, rfl, trivial⟩ ⟨rfl, rfl, rfl, rfl, rfl, rfl, rfl, trivial⟩)
           | (exact aN_again (
               ⟨(i + 1, hF, hM', hO', o', rows ++ [r]), hU2, (by dsimp only; have := hpr.length_le; omega), hFo, hM'o, hO'o⟩
               ) (by dsimp only; omega) ⟨rfl, rfl, rfl, rfl, rfl, rfl, rfl, rfl, trivial⟩ ⟨rfl, rfl, rfl, rfl, rfl, rfl, rfl, trivial⟩)))
    · first
      | exact Bool.noConfusion hb38
      | (
       rw [if_neg (by simpa using hb38), List.append_nil] at hL1
       refine nav ?_
       (refine aC_draw (fun i => ([] : List Nat).elem i) [1, 303] (by kernel_rfl) ?_ <;> refine xD 0 45 rfl (q_fldo 1 tFl93_1_LfB) ?_ <;> (refine yD 1 46 rfl (q_ldo 1 tNa28_LfB) fun v46 hv46 => ?_; cases hv46) <;> refine xD 2 47 rfl q_move ?_ <;> refine xD 3 48 rfl q_move ?_ <;> refine xD 4 49 rfl (q_idxoN 303 tSl22_LbB) ?_ <;> (refine yD 5 50 rfl (q_ldo 303 tNa3_LbB) fun v50 hv50 => ?_; cases hv50) <;> refine xD 6 51 rfl (q_idxN tSl28_LdS) ?_ <;> (refine yD 7 52 rfl (q_ld tNa22_LdI) fun v52 hv52 => ?_; cases hv52) <;> refine xD 8 53 rfl (q_len tSl22_LbB) ?_ <;> refine xE 9 54 rfl q_move ?_ <;> refine aD_end (by kernel_rfl) (nav ?_) <;> try dsimp only)
       rw [← hL1]
       rw [show movesT rows = movesT rows ++ rowMv i ([] : List Nat) from (List.append_nil _).symm]
       refine aC_loop (ι := { q : Nat × Value × Value × List Nat × List Nat // (minW t).row i x o q.1 = some (q.2.2.2.1, q.2.2.2.2) ∧ q.1 ≤ t.m ∧ q.2.1.oneCell' = true ∧ q.2.2.1.oneCell' = true }) (fun k => ⟨[(1, _, _), (2, _, _), (3, _, _), (4, _, _), (5, _, _), (7, _, _), (8, _, _), (52, _, _), (53, _, _), (6, k.1.2.2.1, .val k.1.2.2.1), (54, .int .i64 k.1.1, pInt k.1.1)], [(1, _, _), (2, _, _), (301, _, _), (7, h7, .own 25 5 1 [pInt 0, pInt (t.m : Nat), pInts [0], _, .val k.1.2.1]), (302, k.1.2.1, .own 72 3 (movesT rows ++ rowMv i k.1.2.2.2.2).length ((movesT rows ++ rowMv i k.1.2.2.2.2).flatMap cMv)), (303, k.1.2.2.1, .own 3 1 k.1.2.2.2.1.length ((toI k.1.2.2.2.1).map pInt)), (304, h15, .omap (ikv (numE (clsI t) 0 k.1.2.2.2.1)))]⟩) (fun k => t.m - k.1.1) ⟨(0, hM, hO, o, []), rfl, Nat.zero_le _, hMo, hOo⟩ (fun a w H => H.weaken ⟨rfl, rfl, rfl, rfl, rfl, rfl, rfl, rfl, rfl, rfl, rfl, trivial⟩ ⟨rfl, rfl, rfl, rfl, rfl, rfl, rfl, trivial⟩) ?_
       rintro ⟨⟨s, hM', hO', o', r⟩, hW, hs, hM'o, hO'o⟩
       dsimp only
       dsimp only at hW hs hM'o hO'o
       obtain ⟨hMt, hpr, hrl2, _⟩ := hOk.toMet.row (fun s _ => toT_lt ht) (show s ≤ (minW t).m from hs) hW
       have hcap' : o'.length ≤ t.rows.length := hMt.cap
       have htl' := toI_len o'
       have hmr := mv_room (n := i) hrw hm1 (by omega) (show r.length ≤ t.m by omega)
       refine nav ?_
       (refine aC_region ?_ <;> refine xL 55 q_lss ?_ <;> refine aL_end (nav ?_) <;> try dsimp only)
       (first | refine cCd ?_ ?_ | refine cC ?_ ?_) <;> intro hb55
       · first
         | exact Bool.noConfusion hb55
         | (
          obtain ⟨y, hy⟩ := get_some (show s < row.length by omega)
          have hyn := hrt y (List.mem_of_getElem? hy)
          have e4 : ((toI row).map pInt)[s * 1]? = some (pInt (y : Nat)) := by rw [Nat.mul_one, List.getElem?_map]; unfold toI; rw [List.getElem?_map, hy]; rfl
          have e5 := vec_at1 (fun s => pInt (clsT t s : Nat)) hyn
          have hto : (minW t).step i x s = y := toT_at hrow hy
          have hid := clsI_id t o' y
          refine nav ?_
          (refine aC_region ?_ <;> refine xL 56 q_move ?_ <;> refine xL 57 (q_idxN tSl22_LbB) ?_ <;> (refine yL 58 (q_ld tNa3_LbB) fun v58 hv58 => ?_; cases hv58) <;> refine xL 9 q_assign ?_ <;> refine xL 10 q_assign ?_ <;> refine aL_end (nav ?_) <;> try dsimp only)
          (refine aC_region ?_ <;> refine xL 60 q_move ?_ <;> refine xL 61 q_move ?_ <;> refine xL 62 q_move ?_ <;> refine xL 63 (q_idxN tSl22_LbB) ?_ <;> (refine yL 64 (q_ld tNa3_LbB) fun v64 hv64 => ?_; cases hv64) <;> refine xL 65 (q_num2I (f := clsI t) (L := o') (a := y) 304 tMp132_LfD rfl rfl) ?_ <;> refine xL 59 q_move ?_ <;> refine xL 66 q_extract ?_ <;> refine xL 67 q_extract ?_ <;> refine xL 11 q_assign ?_ <;> refine xL 12 q_assign ?_ <;> refine aL_end (nav ?_) <;> try dsimp only)
          (refine aC_region ?_ <;> refine xL 68 q_move ?_ <;> refine xL 69 q_not ?_ <;> refine aL_end (nav ?_) <;> try dsimp only)
          (first | refine cCd ?_ ?_ | refine cC ?_ ?_) <;> intro hb69
          · first
            | exact Bool.noConfusion hb69
            | (
             have hnew : ¬ posK (clsI t) o' (clsI t y) < o'.length := by simpa using hb69
             have hnew2 : ¬ posK (minW t).key o' ((minW t).key ((minW t).step i x s)) < o'.length := by
              rw [hto]
              show ¬ posK (clsT t) o' (clsT t y) < o'.length
              rw [← hid]; exact hnew
             have hroom := min_visit ht hMt (show (minW t).step i x s < t.rows.length by rw [hto]; exact hyn) hnew2
             refine nav ?_
             (refine aC_region ?_ <;> refine xL 70 q_move ?_ <;> refine xL 71 (q_leno 303 tSl22_LbB) ?_ <;> refine xL 11 q_assign ?_ <;> refine aL_end (nav ?_) <;> try dsimp only)
             (refine aC_region ?_ <;> refine xL 72 q_move ?_ <;> refine xL 73 q_move ?_ <;> refine xL 74 q_move ?_ <;> refine xL 75 (q_idxN tSl22_LbB) ?_ <;> (refine yL 76 (q_ld tNa3_LbB) fun v76 hv76 => ?_; cases hv76) <;> refine xL 77 q_move ?_ <;> (refine s_mput 304 tMp132_LfD ?_; rw [show mput (ikv (numE (clsI t) 0 o')) (.int .i64 ((clsT t y : Nat) : Int)) (.int .i64 ((o'.length : Nat) : Int)) = ikv (numE (clsI t) 0 (o' ++ [y])) from num_putI hnew]) <;> refine aL_end (nav ?_) <;> try dsimp only)
             (refine aC_region ?_ <;> refine xL 78 q_move ?_ <;> refine xL 79 q_move ?_ <;> refine s_lit1 (kk := 1) 80 tEl22_LdI fun h80 ho80 => ?_ <;> (refine s_app 303 80 81 tEl22_LdI fun h81 ho81 => ?_; refine aL_ent (relabel (l := 81) 303 rfl rfl) fun _ => ?_; refine aL_ent (recast (l := 303) rfl (own_nats _ o' y)) fun _ => ?_) <;> refine xL 6 q_assign ?_ <;> refine aL_end (nav ?_) <;> try dsimp only)
             (refine aC_region ?_ <;> refine xL 82 (q_fldo 7 tFl25_4_LdI) ?_ <;> (refine yL 83 (q_ldo 7 tNa23_LdI) fun v83 hv83 => ?_; cases hv83) <;> refine xL 84 q_move ?_ <;> refine xL 85 q_move ?_ <;> refine xL 86 q_move ?_ <;> refine xL 87 (q_build tSt72_LfD) ?_ <;> refine s_lit1a 88 tEl23_LdR fun h88 ho88 => ?_ <;> (refine s_app 302 88 89 tEl23_LdR fun h89 ho89 => ?_; refine aL_ent (relabel (l := 89) 302 rfl rfl) fun _ => ?_; first | refine aL_ent (recast (l := 302) rfl (snoc_mv _ (movesT rows ++ rowMv i r) ⟨(i : Nat), (o'.length : Nat), (s : Nat)⟩)) fun _ => ?_ | refine aL_ent (recast (l := 302) rfl (snoc_mv _ (movesT rows ++ rowMv i r) ⟨(i : Nat), (numAtI (clsI t) o' y : Nat), (s : Nat)⟩)) fun _ => ?_) <;> refine xL 90 (q_fldo 7 tFl25_4_LdI) ?_ <;> refine s_st 7 tNa23_LdI tSz23_LdR ?_ <;> refine aL_end (nav ?_) <;> try dsimp only)
             (refine aC_region ?_ <;> refine xL 91 q_add ?_ <;> refine xL 54 q_move ?_ <;> refine aL_end (nav ?_) <;> try dsimp only)
             try rw [show (movesT rows ++ rowMv i r) ++ [(⟨(i : Nat), (o'.length : Nat), (s : Nat)⟩ : Mv)] = movesT rows ++ rowMv i (r ++ [o'.length]) by rw [rowMv_snoc, hrl2, List.append_assoc]]
             try rw [show (movesT rows ++ rowMv i r) ++ [(⟨(i : Nat), (numAtI (clsI t) o' y : Nat), (s : Nat)⟩ : Mv)] = movesT rows ++ rowMv i (r ++ [numAtI (clsI t) o' y]) by rw [rowMv_snoc, hrl2, List.append_assoc]]
             first
              | (exact aN_again (
                  ⟨(s + 1, h89, h81, o' ++ [y], r ++ [o'.length]), (by dsimp only; exact (by have h9 := Srch.row_snoc hW (visit_new hnew2 hroom); rwa [hto] at h9)), (by dsimp only; omega), ho89, ho81⟩
                  ) (by dsimp only; omega) ⟨rfl, rfl, rfl, rfl, rfl, rfl, rfl, rfl, rfl, rfl, rfl, trivial⟩ ⟨rfl, rfl, rfl, rfl, rfl, rfl, rfl, trivial⟩)
              | (exact aN_again (
                  ⟨(s + 1, h89, hO', o', r ++ [numAtI (clsI t) o' y]), (by dsimp only; rw [hnum]; exact Srch.row_snoc hW (visit_old hold2)), (by dsimp only; omega), ho89, hO'o⟩
                  ) (by dsimp only; omega) ⟨rfl, rfl, rfl, rfl, rfl, rfl, rfl, rfl, rfl, rfl, rfl, trivial⟩ ⟨rfl, rfl, rfl, rfl, rfl, rfl, rfl, trivial⟩))
          · first
            | exact Bool.noConfusion hb69
            | (
             have hold : posK (clsI t) o' (clsI t y) < o'.length := by simpa using hb69
             have hold2 : posK (minW t).key o' ((minW t).key ((minW t).step i x s)) < o'.length := by
              rw [hto]
              show posK (clsT t) o' (clsT t y) < o'.length
              rw [← hid]; exact hold
             have hnum : numAtI (clsI t) o' y = posK (minW t).key o' ((minW t).key ((minW t).step i x s)) := by
              rw [hto]
              show numAtI (clsI t) o' y = posK (clsT t) o' (clsT t y)
              unfold numAtI
              rw [if_pos hold, hid]
             refine nav ?_
             (refine aC_region ?_ <;> refine xL 82 (q_fldo 7 tFl25_4_LdI) ?_ <;> (refine yL 83 (q_ldo 7 tNa23_LdI) fun v83 hv83 => ?_; cases hv83) <;> refine xL 84 q_move ?_ <;> refine xL 85 q_move ?_ <;> refine xL 86 q_move ?_ <;> refine xL 87 (q_build tSt72_LfD) ?_ <;> refine s_lit1a 88 tEl23_LdR fun h88 ho88 => ?_ <;> (refine s_app 302 88 89 tEl23_LdR fun h89 ho89 => ?_; refine aL_ent (relabel (l := 89) 302 rfl rfl) fun _ => ?_; first | refine aL_ent (recast (l := 302) rfl (snoc_mv _ (movesT rows ++ rowMv i r) ⟨(i : Nat), (o'.length : Nat), (s : Nat)⟩)) fun _ => ?_ | refine aL_ent (recast (l := 302) rfl (snoc_mv _ (movesT rows ++ rowMv i r) ⟨(i : Nat), (numAtI (clsI t) o' y : Nat), (s : Nat)⟩)) fun _ => ?_) <;> refine xL 90 (q_fldo 7 tFl25_4_LdI) ?_ <;> refine s_st 7 tNa23_LdI tSz23_LdR ?_ <;> refine aL_end (nav ?_) <;> try dsimp only)
             (refine aC_region ?_ <;> refine xL 91 q_add ?_ <;> refine xL 54 q_move ?_ <;> refine aL_end (nav ?_) <;> try dsimp only)
             try rw [show (movesT rows ++ rowMv i r) ++ [(⟨(i : Nat), (o'.length : Nat), (s : Nat)⟩ : Mv)] = movesT rows ++ rowMv i (r ++ [o'.length]) by rw [rowMv_snoc, hrl2, List.append_assoc]]
             try rw [show (movesT rows ++ rowMv i r) ++ [(⟨(i : Nat), (numAtI (clsI t) o' y : Nat), (s : Nat)⟩ : Mv)] = movesT rows ++ rowMv i (r ++ [numAtI (clsI t) o' y]) by rw [rowMv_snoc, hrl2, List.append_assoc]]
             first
              | (exact aN_again (
                  ⟨(s + 1, h89, h81, o' ++ [y], r ++ [o'.length]), (by dsimp only; exact (by have h9 := Srch.row_snoc hW (visit_new hnew2 hroom); rwa [hto] at h9)), (by dsimp only; omega), ho89, ho81⟩
                  ) (by dsimp only; omega) ⟨rfl, rfl, rfl, rfl, rfl, rfl, rfl, rfl, rfl, rfl, rfl, trivial⟩ ⟨rfl, rfl, rfl, rfl, rfl, rfl, rfl, trivial⟩)
              | (exact aN_again (
                  ⟨(s + 1, h89, hO', o', r ++ [numAtI (clsI t) o' y]), (by dsimp only; rw [hnum]; exact Srch.row_snoc hW (visit_old hold2)), (by dsimp only; omega), ho89, hO'o⟩
                  ) (by dsimp only; omega) ⟨rfl, rfl, rfl, rfl, rfl, rfl, rfl, rfl, rfl, rfl, rfl, trivial⟩ ⟨rfl, rfl, rfl, rfl, rfl, rfl, rfl, trivial⟩)))
       · first
         | exact Bool.noConfusion hb55
         | (
          have hsm : s = t.m := by omega
          subst hsm
          have hU2 := Srch.upto_snoc hU hx hW
          rw [show movesT rows ++ rowMv i r = movesT (rows ++ [r]) by rw [movesT_snoc, hRl]]
          rw [listedL_pre hpr (i + 1) (by omega)]
          refine nav ?_
          (refine aC_region ?_ <;> refine xL 29 q_move ?_ <;> refine xL 30 q_add ?_ <;> refine xL 8 q_assign ?_ <;> refine aL_end (nav ?_) <;> try dsimp only)
          first
           | (exact aN_again (
               ⟨(i + 1, h43, hM', hO', o', rows ++ [r]), hU2, (by dsimp only; have := hpr.length_le; omega), ho43, hM'o, hO'o⟩
               ) (by dsimp only; omega) ⟨rfl, rfl, rfl, rfl, rfl, rfl, rfl, rfl, trivial⟩ ⟨rfl, rfl, rfl, rfl, rfl, rfl, rfl, trivial⟩)
           | (exact aN_again (
               ⟨(i + 1, hF, hM', hO', o', rows ++ [r]), hU2, (by dsimp only; have := hpr.length_le; omega), hFo, hM'o, hO'o⟩
               ) (by dsimp only; omega) ⟨rfl, rfl, rfl, rfl, rfl, rfl, rfl, rfl, trivial⟩ ⟨rfl, rfl, rfl, rfl, rfl, rfl, rfl, trivial⟩))))
 · first
   | exact Bool.noConfusion hb28
   | (
    have hio : i = o.length := by omega
    subst hio
    have hA := Srch.all_some hU (Nat.le_refl _) (show o.length ≤ (minW t).cap from hcap)
    refine nav ?_
    (refine aC_region ?_ <;> refine xL 92 q_move ?_ <;> refine xL 93 (q_leno 303 tSl22_LbB) ?_ <;> refine xL 94 (q_fldo 7 tFl25_0_LdI) ?_ <;> refine s_st 7 tNa3_LbB tSz3_LdJ ?_ <;> refine aL_end (nav ?_) <;> try dsimp only)
    (refine aC_region ?_ <;> refine xL 95 (q_fldo 7 tFl25_4_LdI) ?_ <;> (refine yL 96 (q_ldo 7 tNa23_LdI) fun v96 hv96 => ?_; cases hv96) <;> refine xL 97 (q_leno 302 tSl23_LdI) ?_ <;> refine xL 98 q_gtr ?_ <;> refine aL_end (nav ?_) <;> try dsimp only)
    (first | refine cCd ?_ ?_ | refine cC ?_ ?_) <;> intro hb98
    · first
      | exact Bool.noConfusion hb98
      | (
       refine nav ?_
       (refine aC_region ?_ <;> refine xL 99 (q_build tSt25_LfD) ?_ <;> refine s_sta 2 tAgg25_LdS ?_ <;> refine xL 3 q_assign ?_ <;> refine aL_end (nav ?_) <;> try dsimp only)
       refine ret_cs (k := 5) 2 (by kernel_rfl) (Tryz.results72) rfl rfl rfl (Nat.le_of_ble_eq_true rfl) (by decide) rfl ?_
       unfold leastT
       rw [hA, Option.bind_some, if_pos (by dsimp only; omega)]; rfl)
    · first
      | exact Bool.noConfusion hb98
      | (
       refine nav ?_
       refine aC_ent (freezeCell (l := 7) (l' := 301) (j := 3) rfl rfl rfl rfl) fun _ => ?_
       refine aC_ent (freezeCell (l := 7) (l' := 302) (j := 4) rfl rfl rfl rfl) fun _ => ?_
       rw [share_ints _ _ _ rfl, share_mvl _ _ _ rfl]
       (refine aC_region ?_ <;> (refine yL 100 (q_ldao 7 tAgg25_LdS) fun v100 hv100 => ?_; cases hv100) <;> refine s_sta 2 tAgg25_LdS ?_ <;> refine xL 3 q_assign ?_ <;> refine aL_end (nav ?_) <;> try dsimp only)
       refine ret_cs (k := 5) 2 (by kernel_rfl) (Tryz.results72) rfl rfl rfl (Nat.le_of_ble_eq_true rfl) (by decide) rfl ?_
       unfold leastT
       rw [hA, Option.bind_some, if_neg (by dsimp only; omega)]; rfl))
theorem redL_big {a : Aut} (h : 2000 < a.n ∨ 20000 < a.moves.length) : redL a = .error 13 := by unfold redL; rw [if_pos h]
theorem redL_in {a : Aut} (h : ¬ (2000 < a.n ∨ 20000 < a.moves.length)) : redL a = redX a := by unfold redL; rw [if_neg h]
theorem lim_cases (x : Option Aut) : (∃ A, x = some A ∧ resW (lim x) = .tup [pAut A, pInt 0]) ∨ (x = none ∧ resW (lim x) = .tup [rawZ, pInt 13]) := by
 cases x with
 | none => exact .inr ⟨rfl, rfl⟩
 | some A => exact .inl ⟨A, rfl, rfl⟩
theorem res_cases (x : Except Int Aut) : (∃ A, x = .ok A ∧ resW x = .tup [pAut A, pInt 0]) ∨ (∃ e, x = .error e ∧ resW x = .tup [rawZ, pInt e]) := by
 cases x with
 | error e => exact .inr ⟨e, rfl, rfl⟩
 | ok A => exact .inl ⟨A, rfl, rfl⟩
theorem redX_some {a : Aut} {t : Tab} (h : subT a = some t) : redX a = lim (leastT t) := by unfold redX; rw [h]
theorem redX_none {a : Aut} (h : subT a = none) : redX a = .error 13 := by unfold redX; rw [h]
theorem aReduced_big (a : Aut) (hl : a.moves.length ≤ 1000000) (hb : 2000 < a.n ∨ 20000 < a.moves.length) : AF Tryz.prog 83 [pAut a] (· = .tup [rawZ, pInt 13]) := by
 refine AF.of_body 28 Tryz.func83 rfl Tryz.ntmps83 (Nat.le_of_ble_eq_true rfl) ?_
 intro w0 M0 vs hl hv
 obtain ⟨v0, rfl⟩ := len1 hl
 clear hl hv
 refine nav ?_
 (refine aC_region ?_ <;> refine s_boxa 1 5 fun h1 => ?_ <;> refine s_alloc [(.int .i64 0), (.int .i64 0), (.slice none 0 0), (.slice none 0 0), (.slice none 0 0)] 5 2 tZr25_LfD fun h2 => ?_ <;> refine xL 3 q_assign ?_ <;> refine aL_end (nav ?_) <;> try dsimp only)
 (refine aC_region ?_ <;> refine xL 6 (q_fldo 1 tFl25_0_LdI) ?_ <;> (refine yL 7 (q_ldo 1 tNa3_LbB) fun v7 hv7 => ?_; cases hv7) <;> refine xL 8 q_gtr ?_ <;> refine xL 9 q_move ?_ <;> (refine bLd 9 (fun hb9 => ?_) (fun hb9 => ?_) <;> (first | refine kL 10 ?_ | refine xL 10 (q_fldo 1 tFl25_4_LdI) ?_)) <;> (first | refine kL 11 ?_ | (refine yL 11 (q_ldo 1 tNa23_LdI) fun v11 hv11 => ?_; cases hv11)) <;> (first | refine kL 12 ?_ | refine xL 12 (q_len tSl23_LdI) ?_) <;> (first | refine kL 13 ?_ | refine xL 13 q_gtr ?_) <;> refine xL 14 q_pick ?_ <;> refine aL_end (nav ?_) <;> try dsimp only) <;> (
  (first | refine cCd ?_ ?_ | refine cC ?_ ?_) <;> intro hb14
  · refine nav ?_
    (refine aC_region ?_ <;> refine xL 15 (q_build tSt25_LfD) ?_ <;> refine s_sta 2 tAgg25_LdS ?_ <;> refine xL 3 q_assign ?_ <;> refine aL_end (nav ?_) <;> try dsimp only)
    exact ret_cs (k := 5) 2 (by kernel_rfl) (Tryz.results83) rfl rfl rfl (Nat.le_of_ble_eq_true rfl) (by decide) rfl rfl
  · exfalso
    first
     | omega
     | (simp at hb14; done)
     | (simp at hb14; omega))
theorem aReduced_none (a : Aut) (h : AOk a) (hs : subT a = none) : AF Tryz.prog 83 [pAut a] (· = .tup [rawZ, pInt 13]) := by
 have hn1 := h.n1
 have hml := h.ml
 have hS : AF Tryz.prog 114 [pAut a] (fun p => ∃ i : { i : Value × Value × Value // i.1.oneCell' = true ∧ i.2.1.oneCell' = true ∧ i.2.2.oneCell' = true }, p = .tup [.agg [.val i.1.1, .val i.1.2.1, .val i.1.2.2], pBool false]) := (aSubsets_e a h).mono fun p hp => by
  rcases hp with ⟨t, h1, _⟩ | ⟨_, u1, u2, u3, o1, o2, o3, h2⟩
  · rw [hs] at h1; cases h1
  · exact ⟨⟨(u1, u2, u3), o1, o2, o3⟩, h2⟩
 refine AF.of_body 28 Tryz.func83 rfl Tryz.ntmps83 (Nat.le_of_ble_eq_true rfl) ?_
 intro w0 M0 vs hl hv
 obtain ⟨v0, rfl⟩ := len1 hl
 clear hl hv
 refine nav ?_
 (refine aC_region ?_ <;> refine s_boxa 1 5 fun h1 => ?_ <;> refine s_alloc [(.int .i64 0), (.int .i64 0), (.slice none 0 0), (.slice none 0 0), (.slice none 0 0)] 5 2 tZr25_LfD fun h2 => ?_ <;> refine xL 3 q_assign ?_ <;> refine aL_end (nav ?_) <;> try dsimp only)
 (refine aC_region ?_ <;> refine xL 6 (q_fldo 1 tFl25_0_LdI) ?_ <;> (refine yL 7 (q_ldo 1 tNa3_LbB) fun v7 hv7 => ?_; cases hv7) <;> refine xL 8 q_gtr ?_ <;> refine xL 9 q_move ?_ <;> (refine bLd 9 (fun hb9 => ?_) (fun hb9 => ?_) <;> (first | refine kL 10 ?_ | refine xL 10 (q_fldo 1 tFl25_4_LdI) ?_)) <;> (first | refine kL 11 ?_ | (refine yL 11 (q_ldo 1 tNa23_LdI) fun v11 hv11 => ?_; cases hv11)) <;> (first | refine kL 12 ?_ | refine xL 12 (q_len tSl23_LdI) ?_) <;> (first | refine kL 13 ?_ | refine xL 13 q_gtr ?_) <;> refine xL 14 q_pick ?_ <;> refine aL_end (nav ?_) <;> try dsimp only) <;> (
  (first | refine cCd ?_ ?_ | refine cC ?_ ?_) <;> intro hb14
  · exfalso
    first
     | omega
     | (simp at hb14; done)
     | (simp at hb14; omega)
  · refine nav ?_
    (refine aC_region ?_ <;> (refine yL 17 (q_ldao 1 tAgg25_LdS) fun v17 hv17 => ?_; cases hv17) <;> (refine cPx 18 (cA Tryz.call114 hS) (fun i va18 vb18 hva18 hvb18 => ?_) (fun _ => rfl); cases hvb18; obtain ⟨⟨u1, u2, u3⟩, o1, o2, o3⟩ := i; dsimp only at o1 o2 o3 hva18 ⊢; have q1 : En.one (PV.val u1) = true := o1; have q2 : En.one (PV.val u2) = true := o2; have q3 : En.one (PV.val u3) = true := o3) <;> refine xL 16 q_move ?_ <;> refine xL 19 q_extract ?_ <;> refine xL 20 q_extract ?_ <;> refine s_alloc [(.int .i64 0), (.slice none 0 0), (.slice none 0 0)] 3 4 tZr93_LfB fun h4 => ?_ <;> refine s_sta 4 tAgg93_LfB ?_ <;> refine xL 5 q_assign ?_ <;> refine aL_end (nav ?_) <;> try dsimp only)
    (refine aC_region ?_ <;> refine xL 21 q_move ?_ <;> refine xL 22 q_not ?_ <;> refine aL_end (nav ?_) <;> try dsimp only)
    refine cCt ?_
    refine nav ?_
    (refine aC_region ?_ <;> refine xL 23 (q_build tSt25_LfD) ?_ <;> refine s_sta 2 tAgg25_LdS ?_ <;> refine xL 3 q_assign ?_ <;> refine aL_end (nav ?_) <;> try dsimp only)
    exact ret_cs (k := 5) 2 (by kernel_rfl) (Tryz.results83) rfl rfl rfl (Nat.le_of_ble_eq_true rfl) (by decide) rfl rfl)
theorem aReduced_ok (a : Aut) (h : AOk a) {t : Tab} (hs : subT a = some t) {A : Aut} (hm : AF Tryz.prog 72 [pTab t] (· = .tup [pAut A, pInt 0])) : AF Tryz.prog 83 [pAut a] (· = .tup [pAut A, pInt 0]) := by
 have hn1 := h.n1
 have hml := h.ml
 have hS : AF Tryz.prog 114 [pAut a] (· = .tup [pTab t, pBool true]) := (aSubsets_e a h).mono fun p hp => by
  rcases hp with ⟨t', h1, h2⟩ | ⟨h1, _⟩
  · rw [hs] at h1; cases h1; exact h2
  · rw [hs] at h1; cases h1
 refine AF.of_body 28 Tryz.func83 rfl Tryz.ntmps83 (Nat.le_of_ble_eq_true rfl) ?_
 intro w0 M0 vs hl hv
 obtain ⟨v0, rfl⟩ := len1 hl
 clear hl hv
 refine nav ?_
 (refine aC_region ?_ <;> refine s_boxa 1 5 fun h1 => ?_ <;> refine s_alloc [(.int .i64 0), (.int .i64 0), (.slice none 0 0), (.slice none 0 0), (.slice none 0 0)] 5 2 tZr25_LfD fun h2 => ?_ <;> refine xL 3 q_assign ?_ <;> refine aL_end (nav ?_) <;> try dsimp only)
 (refine aC_region ?_ <;> refine xL 6 (q_fldo 1 tFl25_0_LdI) ?_ <;> (refine yL 7 (q_ldo 1 tNa3_LbB) fun v7 hv7 => ?_; cases hv7) <;> refine xL 8 q_gtr ?_ <;> refine xL 9 q_move ?_ <;> (refine bLd 9 (fun hb9 => ?_) (fun hb9 => ?_) <;> (first | refine kL 10 ?_ | refine xL 10 (q_fldo 1 tFl25_4_LdI) ?_)) <;> (first | refine kL 11 ?_ | (refine yL 11 (q_ldo 1 tNa23_LdI) fun v11 hv11 => ?_; cases hv11)) <;> (first | refine kL 12 ?_ | refine xL 12 (q_len tSl23_LdI) ?_) <;> (first | refine kL 13 ?_ | refine xL 13 q_gtr ?_) <;> refine xL 14 q_pick ?_ <;> refine aL_end (nav ?_) <;> try dsimp only) <;> (
  (first | refine cCd ?_ ?_ | refine cC ?_ ?_) <;> intro hb14
  · exfalso
    first
     | omega
     | (simp at hb14; done)
     | (simp at hb14; omega)
  · refine nav ?_
    (refine aC_region ?_ <;> (refine yL 17 (q_ldao 1 tAgg25_LdS) fun v17 hv17 => ?_; cases hv17) <;> (refine cP 18 (cA Tryz.call114 (hS)) fun va18 vb18 hva18 hvb18 => ?_; cases hvb18) <;> refine xL 16 q_move ?_ <;> refine xL 19 q_extract ?_ <;> refine xL 20 q_extract ?_ <;> refine s_alloc [(.int .i64 0), (.slice none 0 0), (.slice none 0 0)] 3 4 tZr93_LfB fun h4 => ?_ <;> refine s_sta 4 tAgg93_LfB ?_ <;> refine xL 5 q_assign ?_ <;> refine aL_end (nav ?_) <;> try dsimp only)
    (refine aC_region ?_ <;> refine xL 21 q_move ?_ <;> refine xL 22 q_not ?_ <;> refine aL_end (nav ?_) <;> try dsimp only)
    refine cCf ?_
    refine nav ?_
    (refine aC_region ?_ <;> (refine yL 24 (q_ldao 4 tAgg93_LfB) fun v24 hv24 => ?_; cases hv24) <;> (refine cP 25 (cA Tryz.call72 (hm)) fun va25 vb25 hva25 hvb25 => ?_; cases hvb25) <;> refine xL 26 q_extract ?_ <;> refine xL 27 q_extract ?_ <;> refine s_sta 2 tAgg25_LdS ?_ <;> refine xL 3 q_assign ?_ <;> refine aL_end (nav ?_) <;> try dsimp only)
    exact ret_cs (k := 5) 2 (by kernel_rfl) (Tryz.results83) rfl rfl rfl (Nat.le_of_ble_eq_true rfl) (by decide) rfl rfl)
theorem aReduced_lim (a : Aut) (h : AOk a) {t : Tab} (hs : subT a = some t) (hm : AF Tryz.prog 72 [pTab t] (· = .tup [rawZ, pInt 13])) : AF Tryz.prog 83 [pAut a] (· = .tup [rawZ, pInt 13]) := by
 have hn1 := h.n1
 have hml := h.ml
 have hS : AF Tryz.prog 114 [pAut a] (· = .tup [pTab t, pBool true]) := (aSubsets_e a h).mono fun p hp => by
  rcases hp with ⟨t', h1, h2⟩ | ⟨h1, _⟩
  · rw [hs] at h1; cases h1; exact h2
  · rw [hs] at h1; cases h1
 refine AF.of_body 28 Tryz.func83 rfl Tryz.ntmps83 (Nat.le_of_ble_eq_true rfl) ?_
 intro w0 M0 vs hl hv
 obtain ⟨v0, rfl⟩ := len1 hl
 clear hl hv
 refine nav ?_
 (refine aC_region ?_ <;> refine s_boxa 1 5 fun h1 => ?_ <;> refine s_alloc [(.int .i64 0), (.int .i64 0), (.slice none 0 0), (.slice none 0 0), (.slice none 0 0)] 5 2 tZr25_LfD fun h2 => ?_ <;> refine xL 3 q_assign ?_ <;> refine aL_end (nav ?_) <;> try dsimp only)
 (refine aC_region ?_ <;> refine xL 6 (q_fldo 1 tFl25_0_LdI) ?_ <;> (refine yL 7 (q_ldo 1 tNa3_LbB) fun v7 hv7 => ?_; cases hv7) <;> refine xL 8 q_gtr ?_ <;> refine xL 9 q_move ?_ <;> (refine bLd 9 (fun hb9 => ?_) (fun hb9 => ?_) <;> (first | refine kL 10 ?_ | refine xL 10 (q_fldo 1 tFl25_4_LdI) ?_)) <;> (first | refine kL 11 ?_ | (refine yL 11 (q_ldo 1 tNa23_LdI) fun v11 hv11 => ?_; cases hv11)) <;> (first | refine kL 12 ?_ | refine xL 12 (q_len tSl23_LdI) ?_) <;> (first | refine kL 13 ?_ | refine xL 13 q_gtr ?_) <;> refine xL 14 q_pick ?_ <;> refine aL_end (nav ?_) <;> try dsimp only) <;> (
  (first | refine cCd ?_ ?_ | refine cC ?_ ?_) <;> intro hb14
  · exfalso
    first
     | omega
     | (simp at hb14; done)
     | (simp at hb14; omega)
  · refine nav ?_
    (refine aC_region ?_ <;> (refine yL 17 (q_ldao 1 tAgg25_LdS) fun v17 hv17 => ?_; cases hv17) <;> (refine cP 18 (cA Tryz.call114 (hS)) fun va18 vb18 hva18 hvb18 => ?_; cases hvb18) <;> refine xL 16 q_move ?_ <;> refine xL 19 q_extract ?_ <;> refine xL 20 q_extract ?_ <;> refine s_alloc [(.int .i64 0), (.slice none 0 0), (.slice none 0 0)] 3 4 tZr93_LfB fun h4 => ?_ <;> refine s_sta 4 tAgg93_LfB ?_ <;> refine xL 5 q_assign ?_ <;> refine aL_end (nav ?_) <;> try dsimp only)
    (refine aC_region ?_ <;> refine xL 21 q_move ?_ <;> refine xL 22 q_not ?_ <;> refine aL_end (nav ?_) <;> try dsimp only)
    refine cCf ?_
    refine nav ?_
    (refine aC_region ?_ <;> (refine yL 24 (q_ldao 4 tAgg93_LfB) fun v24 hv24 => ?_; cases hv24) <;> (refine cP 25 (cA Tryz.call72 (hm)) fun va25 vb25 hva25 hvb25 => ?_; cases hvb25) <;> refine xL 26 q_extract ?_ <;> refine xL 27 q_extract ?_ <;> refine s_sta 2 tAgg25_LdS ?_ <;> refine xL 3 q_assign ?_ <;> refine aL_end (nav ?_) <;> try dsimp only)
    exact ret_cs (k := 5) 2 (by kernel_rfl) (Tryz.results83) rfl rfl rfl (Nat.le_of_ble_eq_true rfl) (by decide) rfl rfl)
theorem aReduced_x (a : Aut) (h : AOk a) : AF Tryz.prog 83 [pAut a] (· = resW (redX a)) := by
 rcases hs : subT a with _ | t
 · rw [redX_none hs]; exact aReduced_none a h hs
 · have hm := aMinimal_e t (sub_tok h hs)
   rw [redX_some hs]
   rcases lim_cases (leastT t) with ⟨A, _, h2⟩ | ⟨_, h2⟩
   · rw [h2] at hm ⊢; exact aReduced_ok a h hs hm
   · rw [h2] at hm ⊢; exact aReduced_lim a h hs hm
theorem aReduced_e (a : Aut) (hl : a.moves.length ≤ 1000000) (h : ¬ (2000 < a.n ∨ 20000 < a.moves.length) → AOk a) : AF Tryz.prog 83 [pAut a] (· = resW (redL a)) := by
 by_cases hb : 2000 < a.n ∨ 20000 < a.moves.length
 · rw [redL_big hb]; exact aReduced_big a hl hb
 · rw [redL_in hb]; exact aReduced_x a (h hb)
theorem leastT_some {t : Tab} {A : Aut} (h : leastT t = some A) : ∃ o rows, (minW t).all 0 = some (o, rows) ∧ A = autQ t (o, rows) ∧ (movesT rows).length ≤ 20000 := by
 unfold leastT at h
 obtain ⟨⟨o, rows⟩, h1, h2⟩ := Option.bind_eq_some_iff.1 h
 dsimp only at h2
 split at h2
 · cases h2
 · cases h2
   exact ⟨o, rows, h1, rfl, by omega⟩
structure Fin (t : Tab) (o : List Nat) (rows : List (List Nat)) : Prop where
 ok : (minW t).Ok (· < t.rows.length) 0 o rows
 len : rows.length = o.length
 n1 : o.length ≤ 2000
 pos : 0 < o.length
theorem fin_of {t : Tab} (h : TOk t) {o : List Nat} {rows : List (List Nat)} (hu : (minW t).all 0 = some (o, rows)) : Fin t o rows := by
 obtain ⟨h1, _, h3⟩ := min_ok h hu
 have hc : o.length ≤ t.rows.length := h1.cap
 have := h.n1
 exact ⟨h1, h3 hc, by omega, h1.pos⟩
theorem mem_rowMv {i : Nat} {r : List Nat} {m : Mv} (h : m ∈ rowMv i r) : ∃ n s : Nat, r[s]? = some n ∧ m = ⟨(i : Nat), (n : Nat), (s : Nat)⟩ := by
 unfold rowMv at h
 obtain ⟨p, hp, rfl⟩ := List.mem_map.1 h
 exact ⟨p.1, p.2, by have := List.mem_zipIdx_iff_getElem?.1 hp; exact this, rfl⟩
theorem mem_movesT {rows : List (List Nat)} {m : Mv} (h : m ∈ movesT rows) : ∃ (i s n : Nat) (r : List Nat), rows[i]? = some r ∧ r[s]? = some n ∧ m = ⟨(i : Nat), (n : Nat), (s : Nat)⟩ := by
 unfold movesT at h
 obtain ⟨p, hp, hm⟩ := List.mem_flatMap.1 h
 obtain ⟨n, s, h1, h2⟩ := mem_rowMv hm
 exact ⟨p.2, s, n, p.1, List.mem_zipIdx_iff_getElem?.1 hp, h1, h2⟩
theorem autQ_aok {t : Tab} (ht : TOk t) {o : List Nat} {rows : List (List Nat)} (h : Fin t o rows) (hm : (movesT rows).length ≤ 20000) : AOk (autQ t (o, rows)) := by
 have hp := h.pos
 have hn := h.n1
 have hm1 := ht.m1
 have hll := listedL_len o.length (finAt t o)
 refine ⟨by show (0 : Int) ≤ (o.length : Nat); omega, by show ((o.length : Nat) : Int) ≤ 2000; omega, by show (0 : Int) ≤ (t.m : Nat); omega, by show ((t.m : Nat) : Int) ≤ 40; omega, hm, fun s hs => ?_, fun s hs => ?_, by show [(0 : Int)].length ≤ 2000; simp, by show (listedL o.length (finAt t o)).length ≤ 2000; omega, fun m hmm => ?_⟩
 · rw [show s = 0 from List.mem_singleton.1 hs]
   exact ⟨Int.le_refl _, by show (0 : Int) < (o.length : Nat); omega⟩
 · obtain ⟨h1, h2, _⟩ := listedL_mem.1 hs
   exact ⟨h1, h2⟩
 · obtain ⟨i, s, n, r, h1, h2, rfl⟩ := mem_movesT hmm
   have h3 : i < rows.length := lt_of_get h1
   have h4 := lt_of_get h2
   have h5 : r.length = t.m := h.ok.len r (List.mem_of_getElem? h1)
   obtain ⟨x, hx⟩ := get_some (show i < o.length by rw [← h.len]; exact h3)
   have h6 := (h.ok.to i x r s n hx h1 h2).1
   have h7 := h.len
   refine ⟨by show (0 : Int) ≤ (i : Nat); omega, by show ((i : Nat) : Int) < (o.length : Nat); omega, by show (0 : Int) ≤ (n : Nat); omega, by show ((n : Nat) : Int) < (o.length : Nat); omega, by show (-1 : Int) ≤ (s : Nat); omega, by show ((s : Nat) : Int) < (t.m : Nat); omega⟩
theorem redX_ok {a A : Aut} (h : AOk a) (hr : redX a = .ok A) : ∃ t o rows, subT a = some t ∧ TOk t ∧ (minW t).all 0 = some (o, rows) ∧ Fin t o rows ∧ A = autQ t (o, rows) ∧ (movesT rows).length ≤ 20000 := by
 unfold redX at hr
 split at hr
 · rename_i t ht
   cases hl : leastT t with
   | none => rw [hl] at hr; cases hr
   | some B =>
     rw [hl] at hr; cases hr
     obtain ⟨o, rows, h1, h2, h3⟩ := leastT_some hl
     have hT := sub_tok h ht
     exact ⟨t, o, rows, ht, hT, h1, fin_of hT h1, h2, h3⟩
 · cases hr
theorem rr_rawZ (e : Int) : Rr (.tup [rawZ, pInt e]) (.tup [pAut autZ, pInt e]) := Rr.tup2 (Rr.agg rfl fun i p p' h1 h2 => by
 match i with
 | 0 => cases h1; cases h2; exact Rr.rfl' _
 | 1 => cases h1; cases h2; exact Rr.rfl' _
 | 2 => cases h1; cases h2; exact Rr.nil
 | 3 => cases h1; cases h2; exact Rr.nil
 | 4 => cases h1; cases h2; exact Rr.nil
 | i + 5 => simp at h1)
theorem resW_A {P : Program} {f : Nat} {ps : List PV} {x : Except Int Aut} (h : AF P f ps (· = resW x)) : AF P f ps (· = resA x) := by
 cases x with
 | ok A => exact h
 | error e => exact h.reread rfl (rr_rawZ e)
theorem aMinimalW_bad (a : Aut) (hv : autOk a = false) : AF Tryz.prog 26 [pAut a] (· = .tup [rawZ, pInt 1]) := by
 refine AF.of_body 12 Tryz.func26 rfl Tryz.ntmps26 (Nat.le_of_ble_eq_true rfl) ?_
 intro w0 M0 vs hl hv
 obtain ⟨v0, rfl⟩ := len1 hl
 clear hl hv
 refine nav ?_
 (refine aC_region ?_ <;> refine s_boxa 1 5 fun h1 => ?_ <;> refine s_alloc [(.int .i64 0), (.int .i64 0), (.slice none 0 0), (.slice none 0 0), (.slice none 0 0)] 5 2 tZr25_LfD fun h2 => ?_ <;> refine xL 3 q_assign ?_ <;> refine aL_end (nav ?_) <;> try dsimp only)
 (refine aC_region ?_ <;> (refine yL 4 (q_ldao 1 tAgg25_LdS) fun v4 hv4 => ?_; cases hv4) <;> (refine cS 5 (cA Tryz.call24 (aValid_e a)) fun v5 hv5 => ?_; cases hv5) <;> refine xL 6 q_not ?_ <;> refine aL_end (nav ?_) <;> try dsimp only)
 (first | refine cCd ?_ ?_ | refine cC ?_ ?_) <;> intro hb6
 · refine nav ?_
   (refine aC_region ?_ <;> refine xL 7 (q_build tSt25_LfD) ?_ <;> refine s_sta 2 tAgg25_LdS ?_ <;> refine xL 3 q_assign ?_ <;> refine aL_end (nav ?_) <;> try dsimp only)
   exact ret_cs (k := 5) 2 (by kernel_rfl) (Tryz.results26) rfl rfl rfl (Nat.le_of_ble_eq_true rfl) (by decide) rfl rfl
 · rw [hv] at hb6; simp at hb6
theorem aMinimalW_ok (a : Aut) (hv : autOk a = true) {A : Aut} (hm : AF Tryz.prog 83 [pAut a] (· = .tup [pAut A, pInt 0])) : AF Tryz.prog 26 [pAut a] (· = .tup [pAut A, pInt 0]) := by
 refine AF.of_body 12 Tryz.func26 rfl Tryz.ntmps26 (Nat.le_of_ble_eq_true rfl) ?_
 intro w0 M0 vs hl hv
 obtain ⟨v0, rfl⟩ := len1 hl
 clear hl hv
 refine nav ?_
 (refine aC_region ?_ <;> refine s_boxa 1 5 fun h1 => ?_ <;> refine s_alloc [(.int .i64 0), (.int .i64 0), (.slice none 0 0), (.slice none 0 0), (.slice none 0 0)] 5 2 tZr25_LfD fun h2 => ?_ <;> refine xL 3 q_assign ?_ <;> refine aL_end (nav ?_) <;> try dsimp only)
 (refine aC_region ?_ <;> (refine yL 4 (q_ldao 1 tAgg25_LdS) fun v4 hv4 => ?_; cases hv4) <;> (refine cS 5 (cA Tryz.call24 (aValid_e a)) fun v5 hv5 => ?_; cases hv5) <;> refine xL 6 q_not ?_ <;> refine aL_end (nav ?_) <;> try dsimp only)
 (first | refine cCd ?_ ?_ | refine cC ?_ ?_) <;> intro hb6
 · rw [hv] at hb6; simp at hb6
 · refine nav ?_
   (refine aC_region ?_ <;> (refine yL 8 (q_ldao 1 tAgg25_LdS) fun v8 hv8 => ?_; cases hv8) <;> (refine cP 9 (cA Tryz.call83 (hm)) fun va9 vb9 hva9 hvb9 => ?_; cases hvb9) <;> refine xL 10 q_extract ?_ <;> refine xL 11 q_extract ?_ <;> refine s_sta 2 tAgg25_LdS ?_ <;> refine xL 3 q_assign ?_ <;> refine aL_end (nav ?_) <;> try dsimp only)
   exact ret_cs (k := 5) 2 (by kernel_rfl) (Tryz.results26) rfl rfl rfl (Nat.le_of_ble_eq_true rfl) (by decide) rfl rfl
theorem aMinimalW_err (a : Aut) (hv : autOk a = true) {e : Int} (hm : AF Tryz.prog 83 [pAut a] (· = .tup [rawZ, pInt e])) : AF Tryz.prog 26 [pAut a] (· = .tup [rawZ, pInt e]) := by
 refine AF.of_body 12 Tryz.func26 rfl Tryz.ntmps26 (Nat.le_of_ble_eq_true rfl) ?_
 intro w0 M0 vs hl hv
 obtain ⟨v0, rfl⟩ := len1 hl
 clear hl hv
 refine nav ?_
 (refine aC_region ?_ <;> refine s_boxa 1 5 fun h1 => ?_ <;> refine s_alloc [(.int .i64 0), (.int .i64 0), (.slice none 0 0), (.slice none 0 0), (.slice none 0 0)] 5 2 tZr25_LfD fun h2 => ?_ <;> refine xL 3 q_assign ?_ <;> refine aL_end (nav ?_) <;> try dsimp only)
 (refine aC_region ?_ <;> (refine yL 4 (q_ldao 1 tAgg25_LdS) fun v4 hv4 => ?_; cases hv4) <;> (refine cS 5 (cA Tryz.call24 (aValid_e a)) fun v5 hv5 => ?_; cases hv5) <;> refine xL 6 q_not ?_ <;> refine aL_end (nav ?_) <;> try dsimp only)
 (first | refine cCd ?_ ?_ | refine cC ?_ ?_) <;> intro hb6
 · rw [hv] at hb6; simp at hb6
 · refine nav ?_
   (refine aC_region ?_ <;> (refine yL 8 (q_ldao 1 tAgg25_LdS) fun v8 hv8 => ?_; cases hv8) <;> (refine cP 9 (cA Tryz.call83 (hm)) fun va9 vb9 hva9 hvb9 => ?_; cases hvb9) <;> refine xL 10 q_extract ?_ <;> refine xL 11 q_extract ?_ <;> refine s_sta 2 tAgg25_LdS ?_ <;> refine xL 3 q_assign ?_ <;> refine aL_end (nav ?_) <;> try dsimp only)
   exact ret_cs (k := 5) 2 (by kernel_rfl) (Tryz.results26) rfl rfl rfl (Nat.le_of_ble_eq_true rfl) (by decide) rfl rfl
theorem aMinimalW_e (a : Aut) : AF Tryz.prog 26 [pAut a] (· = resW (minX a)) := by
 unfold minX
 cases hv : autOk a with
 | false => rw [if_neg (by simp)]; exact aMinimalW_bad a hv
 | true =>
   rw [if_pos rfl]
   have hm := aReduced_x a (aok_of hv)
   rcases res_cases (redX a) with ⟨A, _, h2⟩ | ⟨e, _, h2⟩
   · rw [h2] at hm ⊢; exact aMinimalW_ok a hv hm
   · rw [h2] at hm ⊢; exact aMinimalW_err a hv hm
end Go.Proofs.YtgigclnaicbiaaaGreatDoor
namespace Go.En
open Go.RowKit Go.Cb
set_option linter.all false
section
variable {P : Program} {st : St} {o : Oper} {x y : Operand} {q q' : PV} {t t' : TypeId}
theorem q_quo {a b : Int} (c : Int) (hc : a.tdiv b = c) (h0 : -9223372036854775808 ≤ c) (h1 : c ≤ 9223372036854775807) (ho : o.op = .binOp .quo t x y t' := by exact rfl) (hx : ev st.slots x = some (.int .i64 a, q) := by exact rfl) (hy : ev st.slots y = some (.int .i64 b, q') := by exact rfl) (hb : b ≠ 0 := by first | decide | omega) : YE P st o (· = .int .i64 c) (.val (.int .i64 c)) :=
 y2 hx hy fun ρ w h3 h4 => by
  have hw : IntKind.i64.wrap c = c := IntWalk.i64_in _ ⟨h0, h1⟩
  simp [execOp, ho, h3, h4, eqGuard, binOp, Op.intDiv, hb, hc, hw]
end
section
variable {P : Program} {c : Ctx} {sL hP : List (Nat × Ent)}
theorem ret_hcs {fn : Func} {R : Value → PV → List (Nat × Ent) → Prop} {t ty s k e k' n : Nat} {h u : Value} {q p : PV} {cs : List PV} (l : Nat) (H' : List (Nat × Ent)) (hT : AggT P ty k = true) (hr : fn.results = #[.cell t ty, .tmp s]) (ht : lk sL t = some (padd (sbase h) 0, q)) (hl : lk hP l = some (h, .own e k' n cs)) (hs : lk sL s = some (u, p)) (hp : k ≤ cs.length) (hk : 0 < k) (hsh : (cs.take k).all isSh = true) (hsub : Sub H' hP) (hR : ∀ V : Value, R (.tuple [V, u].toArray) (.tup [.agg (cs.take k), p]) H') : aR c (bodyPost P fn (RetH c R)) (⟨sL, hP⟩ : St) := fun a w ⟨F, H⟩ => by
 obtain ⟨V, A, h0, h1, h2⟩ := cell_run H hT ht hl hp hk hsh
 obtain ⟨h3, h4⟩ := H.sl s _ _ hs
 have H2 : HoldsF c (⟨sL, H'⟩ : St) F a w := H.less (fun _ _ h => h) fun t x hx => hsub.lk hx
 have hM : ∀ b, b < w.heap.size → mof c H' F b → mof c hP F b := fun b _ hb => by
  rcases hb with hb | ⟨l, x, h1, h2⟩
  · exact .inl hb
  · exact .inr ⟨l, x, hsub.lk h1, h2⟩
 refine ⟨H.df, .tuple #[V, u], ?_, .tuple #[V, u], .tup [.agg (cs.take k), p], H', F, rfl, hR _, H2.toHeapF, .tup [V, u] _ rfl fun i v q' hv hq' => ?_⟩
 · simp only [results, hr]
   simp at h0
   simp [h0, h1, Array.getD_eq_getD_getElem?, h3]
 · match i with
   | 0 => simp at hv hq'; subst hv hq'; exact h2.anti hM
   | 1 => simp at hv hq'; subst hv hq'; exact h4.anti hM
   | i + 2 => simp at hv
end
end Go.En
namespace Go.Proofs.YtgigclnaicbiaaaGreatDoor
open Go.RowKit Go.Cb Go.En
set_option linter.all false
set_option maxRecDepth 100000
theorem digL_snoc {l : List Int} {k : Nat} {x : Int} (h : l[k]? = some x) : digL (l.take (k + 1)) = digL (l.take k) ++ [UInt8.ofNat (x.toNat % 250 + 1), UInt8.ofNat (x.toNat / 250 + 1), 0] := by
 unfold digL; rw [take_snoc h, List.flatMap_append]; simp
theorem digL_len : ∀ l : List Int, (digL l).length = l.length * 3
 | [] => rfl
 | x :: l => by
   have : digL (x :: l) = [UInt8.ofNat (x.toNat % 250 + 1), UInt8.ofNat (x.toNat / 250 + 1), 0] ++ digL l := rfl
   rw [this, List.length_append, digL_len l]
   simp only [List.length_cons, List.length_nil]; omega
theorem dig_step (e : Nat) {l : List Int} {k : Nat} {x : Int} (h : l[k]? = some x) (h0 : 0 ≤ x) (h1 : x ≤ 2000) : PV.own e 1 ((digL (l.take k)).length + 3) ((digL (l.take k)).map pByte ++ [PV.val (.int .u8 (x.tmod 250 + 1)), PV.val (.int .u8 (x.tdiv 250 + 1)), PV.val (.int .u8 0)]) = .own e 1 (digL (l.take (k + 1))).length ((digL (l.take (k + 1))).map pByte) := by
 rw [digL_snoc h, List.map_append, List.length_append]
 have e1 : (((UInt8.ofNat (x.toNat % 250 + 1)).toNat : Nat) : Int) = x.tmod 250 + 1 := by
  rw [UInt8.toNat_ofNat', Int.tmod_eq_emod_of_nonneg h0]; omega
 have e2 : (((UInt8.ofNat (x.toNat / 250 + 1)).toNat : Nat) : Int) = x.tdiv 250 + 1 := by
  rw [UInt8.toNat_ofNat', Int.tdiv_eq_ediv_of_nonneg h0]; omega
 simp only [List.map_cons, List.map_nil, pByte, e1, e2]
 rfl
theorem u8_in {a : Int} (h0 : 0 ≤ a) (h1 : a ≤ 255) : IntKind.u8.wrap a = a := by
 rw [IntKind.wrap_u8]; omega
theorem r07digits_e (l : List Int) (hl : l.length ≤ 1000000) (h0 : ∀ x ∈ l, 0 ≤ x ∧ x ≤ 2000) : AF Tryz.prog 107 [pInts l] (· = .val (.string (digB l))) := by
 refine AF.of_body 31 Tryz.func107 rfl Tryz.ntmps107 (Nat.le_of_ble_eq_true rfl) ?_
 intro w0 M0 vs hl hv
 obtain ⟨v0, rfl⟩ := len1 hl
 clear hl hv
 refine nav ?_
 (refine aC_region ?_ <;> refine xL 2 q_assign ?_ <;> refine aL_end (nav ?_) <;> try dsimp only)
 (refine aC_region ?_ <;> refine s_lit0 5 tEl154_LfA fun h5 ho5 => ?_ <;> refine xL 3 q_assign ?_ <;> refine aL_end (nav ?_) <;> try dsimp only)
 refine aC_ent (relabel (l := 5) 200 rfl rfl) fun _ => ?_
 refine aC_slen 0 rfl fun hlen => ?_
 (refine aC_region ?_ <;> refine xL 4 q_assign ?_ <;> refine aL_end (nav ?_) <;> try dsimp only)
 refine aC_loop (ι := { q : Nat × Value // q.1 ≤ l.length ∧ q.2.oneCell' = true }) (fun k => ⟨[(0, _, _), (3, k.1.2, .val k.1.2), (4, .int .i64 k.1.1, pInt k.1.1)], [(200, k.1.2, .own 5 1 (digL (l.take k.1.1)).length ((digL (l.take k.1.1)).map pByte))]⟩) (fun k => l.length - k.1.1) ⟨(0, h5), Nat.zero_le _, ho5⟩ (fun a w H => H.weaken ⟨rfl, rfl, rfl, trivial⟩ ⟨rfl, trivial⟩) ?_
 rintro ⟨⟨k, r⟩, hk, hr⟩
 dsimp only
 dsimp only at hk hr
 have hkl := digL_len (l.take k)
 rw [List.length_take] at hkl
 refine nav ?_
 (refine aC_region ?_ <;> refine xL 6 q_move ?_ <;> refine xL 7 q_move ?_ <;> refine xL 8 (q_len tSl22_LbB) ?_ <;> refine xL 9 q_lss ?_ <;> refine aL_end (nav ?_) <;> try dsimp only)
 (first | refine cCd ?_ ?_ | refine cC ?_ ?_) <;> intro hb9
 · first
   | exact Bool.noConfusion hb9
   | (
    obtain ⟨x, hx⟩ := get_some (show k < l.length by omega)
    have e1 := map_at (f := pInt) hx
    have hx0 := h0 x (List.mem_of_getElem? hx)
    have t1 : 0 ≤ x.tmod 250 ∧ x.tmod 250 < 250 := by rw [Int.tmod_eq_emod_of_nonneg hx0.1]; omega
    have t2 : 0 ≤ x.tdiv 250 ∧ x.tdiv 250 ≤ 8 := by rw [Int.tdiv_eq_ediv_of_nonneg hx0.1]; omega
    refine nav ?_
    (refine aC_draw (fun i => ([] : List Nat).elem i) [] (by kernel_rfl) ?_ <;> refine xD 0 12 rfl q_move ?_ <;> refine xD 1 13 rfl q_move ?_ <;> refine xD 2 14 rfl q_move ?_ <;> refine xD 3 15 rfl (q_idxN tSl22_LbB) ?_ <;> (refine yD 4 16 rfl (q_ld tNa3_LbB) fun v16 hv16 => ?_; cases hv16) <;> refine xD 5 17 rfl q_rem ?_ <;> refine xD 6 18 rfl q_add ?_ <;> refine xD 7 19 rfl (q_conv (hs := Tryz.underlying3) (hd := Tryz.underlying5) (hw := u8_in (by omega) (by omega))) ?_ <;> refine xD 8 20 rfl q_move ?_ <;> refine xE 9 21 rfl q_move ?_ <;> refine xE 10 22 rfl (q_idxN tSl22_LbB) ?_ <;> (refine yE 11 23 rfl (q_ld tNa3_LbB) fun v23 hv23 => ?_; cases hv23) <;> refine xE 12 24 rfl (q_quo (x.tdiv 250) rfl (by omega) (by omega)) ?_ <;> refine xE 13 25 rfl q_add ?_ <;> refine xE 14 26 rfl (q_conv (hs := Tryz.underlying3) (hd := Tryz.underlying5) (hw := u8_in (by omega) (by omega))) ?_ <;> (refine aD_one 15 (by kernel_rfl) ?_) <;> (refine aW_run rfl fun w9 M9 N9 DQ back => ?_) <;> refine s_litn (xs := [_, _, _]) 27 tEl154_LfA fun h27 ho27 => ?_ <;> refine aL_end (back _ (nrm ?_)) <;> (refine aD_one 16 (by kernel_rfl) ?_) <;> (refine aW_run rfl fun w9 M9 N9 DQ back => ?_) <;> refine s_app 200 27 28 tEl154_LfA fun h28 ho28 => ?_ <;> refine aL_end (back _ (nrm ?_)) <;> refine xE 17 3 rfl q_assign ?_ <;> refine aD_end (by kernel_rfl) (nav ?_) <;> try dsimp only)
    refine aC_ent (relabel (l := 28) 200 rfl rfl) fun _ => ?_
    refine aC_ent (recast (l := 200) rfl (dig_step _ hx hx0.1 hx0.2)) fun _ => ?_
    (refine aC_region ?_ <;> refine xL 10 q_move ?_ <;> refine xL 11 q_add ?_ <;> refine xL 4 q_assign ?_ <;> refine aL_end (nav ?_) <;> try dsimp only)
    refine aN_again (
     ⟨(k + 1, h28), lt_of_get hx, ho28⟩
     ) (by dsimp only; omega) ⟨rfl, rfl, rfl, trivial⟩ ⟨rfl, trivial⟩)
 · first
   | exact Bool.noConfusion hb9
   | (
    refine nav ?_
    (refine aC_region ?_ <;> refine xL 29 q_move ?_ <;> refine xL 30 (q_bstr 200 Tryz.underlying154 Tryz.underlying5 Tryz.underlying9) ?_ <;> refine xL 2 q_assign ?_ <;> refine aL_end (nav ?_) <;> try dsimp only)
    refine ret_shr (Tryz.results107) rfl ?_
    rw [List.take_of_length_le (by omega)]; rfl)
theorem tAgg100_LfH : AggT Tryz.prog 100 3 = true := by kernel_rfl
theorem tFl100_1_LfH : FldT Tryz.prog 100 1 1 = true := by kernel_rfl
theorem tFl100_2_LfH : FldT Tryz.prog 100 2 2 = true := by kernel_rfl
theorem tSt100_LfH : stInfo Tryz.prog 100 = some ((.agg #[(.int .i64 0), (.slice none 0 0), (.slice none 0 0)]), ([0, 1, 2] : List Nat).map fun o => (o, 1)) := by kernel_rfl
theorem tZr100_LfH : ZeroT Tryz.prog 100 (.agg #[(.int .i64 0), (.slice none 0 0), (.slice none 0 0)]) := by unfold ZeroT; kernel_rfl
section
variable {α : Type}
def num1 (f : α → ByteArray) (o : List α) (x : α) : Nat := if posK f o (f x) < o.length then posK f o (f x) + 1 else 0
theorem num1_look (f : α → ByteArray) (o : List α) (x : α) : (mget (skv (numE f 1 o)) (.string (f x))).getD (.int .i64 0) = .int .i64 (num1 f o x : Nat) := by
 rw [mget_skv, numE_get]
 unfold num1
 by_cases h : posK f o (f x) < o.length
 · rw [if_pos h, if_pos h, Nat.add_comm]; rfl
 · rw [if_neg h, if_neg h]; rfl
theorem num1_put {f : α → ByteArray} {o : List α} {x : α} (h : ¬ posK f o (f x) < o.length) : mput (skv (numE f 1 o)) (.string (f x)) (.int .i64 ((o.length + 1 : Nat) : Int)) = skv (numE f 1 (o ++ [x])) := by
 have := numE_put f x o 1 h
 rw [Nat.add_comm] at this
 rw [mput_skv, this]
end
theorem dig_id {o : List (List Int)} {x : List Int} (h : ∀ l ∈ o, ∀ s ∈ l, 0 ≤ s ∧ s ≤ 2000) (hx : ∀ s ∈ x, 0 ≤ s ∧ s ≤ 2000) : posK digB o (digB x) = posK id o x := posK_inj fun l hl => digB_inj (h l hl) hx
theorem SetOk.bd2 {a : Aut} (ha : AOk a) {l : List Int} (h : SetOk a l) : ∀ s ∈ l, 0 ≤ s ∧ s ≤ 2000 := fun s hs => by have := h.1 s hs; have := ha.n1; omega
def RSubH (a : Aut) (v : Value) (q : PV) (h : List (Nat × Ent)) : Prop :=
 (∃ (t : Tab) (hF V1 : Value), hF.oneCell' = true ∧ subT a = some t ∧ v = .tuple [V1, .bool true].toArray ∧ q = .tup [.agg [pInt (t.m : Nat), .val hF, .sl t.rows.length (t.rows.map pNats)], pBool true] ∧ h = [(1000, hF, .own 4 1 t.fin.length (t.fin.map pBool))]) ∨
 (subT a = none ∧ (∃ V1 : Value, v = .tuple [V1, .bool false].toArray) ∧ q = .tup [.agg [pInt 0, .val (.slice none 0 0), .val (.slice none 0 0)], pBool false] ∧ h = [])
set_option maxHeartbeats 4000000 in
theorem r07Subsets_e (a : Aut) (h : AOk a) (V : Value) : AFh False Tryz.prog 84 [(0, V, pAut a)] [] (RSubH a) := by
 have hn1 := h.n1
 have hs0 := h.s0
 have hs1 := h.s1
 have hsN : ((a.syms.toNat : Nat) : Int) = a.syms := by omega
 have hst := set_start h
 refine AFh.of_body 89 Tryz.func84 rfl Tryz.ntmps84 (Nat.le_of_ble_eq_true rfl) rfl ?_
 intro w0 M0 N0
 refine nav ?_
 (refine aC_region ?_ <;> refine s_boxa 1 5 fun h1 => ?_ <;> refine s_alloc [(.int .i64 0), (.slice none 0 0), (.slice none 0 0)] 3 2 tZr100_LfH fun h2 => ?_ <;> refine xL 3 q_assign ?_ <;> refine aL_end (nav ?_) <;> try dsimp only)
 (refine aC_region ?_ <;> refine xL 12 (q_fldo 1 tFl25_1_LdI) ?_ <;> (refine yL 13 (q_ldo 1 tNa3_LbB) fun v13 hv13 => ?_; cases hv13) <;> refine xL 14 (q_build tSt100_LfH) ?_ <;> refine s_alloc [(.int .i64 0), (.slice none 0 0), (.slice none 0 0)] 3 4 tZr100_LfH fun h4 => ?_ <;> refine s_sta 4 tAgg100_LfH ?_ <;> refine aL_end (nav ?_) <;> try dsimp only)
 refine aC_ent (nilCells (l := 4) [pInt a.syms, .own 4 1 0 [], .own 22 1 0 []] rfl rfl (fun i p p' h1 h2 => by
  match i with
  | 0 => cases h1; cases h2; exact .inl rfl
  | 1 => cases h1; cases h2; exact .inr ⟨rfl, _, _, rfl⟩
  | 2 => cases h1; cases h2; exact .inr ⟨rfl, _, _, rfl⟩
  | i + 3 => simp at h2)) fun _ => ?_
 refine aC_ent (focusO (l := 4) (l' := 302) (j := 1) rfl rfl rfl rfl) fun i => ?_
 obtain ⟨v302, ho302⟩ := i
 refine aC_ent (focusO (l := 4) (l' := 301) (j := 2) rfl rfl rfl rfl) fun i => ?_
 obtain ⟨v301, ho301⟩ := i
 dsimp only [List.set]
 (refine aC_region ?_ <;> (refine yL 15 (q_ldao 1 tAgg25_LdS) fun v15 hv15 => ?_; cases hv15) <;> refine xL 16 (q_fldo 1 tFl25_2_LdI) ?_ <;> (refine yL 17 (q_ldo 1 tNa22_LdI) fun v17 hv17 => ?_; cases hv17) <;> (refine cO 18 (cA Tryz.call65 (r07Closed_e a a.start h h.st)) fun v18 ho18 => ?_; refine aL_ent (En.freeze (l := 18) (t := 18) rfl rfl) fun _ => ?_; rw [share_ints _ _ _ rfl]) <;> refine s_lit1 (kk := 1) 19 tEl28_LdS fun h19 ho19 => ?_ <;> refine xL 5 q_assign ?_ <;> refine aL_end (nav ?_) <;> try dsimp only)
 refine aC_ent (relabel (l := 19) 303 rfl rfl) fun _ => ?_
 obtain ⟨x0, hx0⟩ : ∃ x0, x0 = closL a a.start := ⟨_, rfl⟩
 rw [← hx0] at hst ⊢
 have hst2 := hst.len h
 (refine aC_region ?_ <;> refine s_mkmap 20 fun h20 ho20 => ?_ <;> refine xL 6 q_assign ?_ <;> refine aL_end (nav ?_) <;> try dsimp only)
 (refine aC_region ?_ <;> refine xL 21 q_move ?_ <;> refine xL 22 q_move ?_ <;> refine xL 23 (q_idxoN (i := 0) 303 tSl28_LdS) ?_ <;> (refine yL 24 (q_ldo 303 tNa22_LdI) fun v24 hv24 => ?_; cases hv24) <;> (refine cS 25 (cA Tryz.call107 (r07digits_e x0 (by omega) (hst.bd2 h))) fun v25 hv25 => ?_; cases hv25) <;> (refine s_mput 20 tMp135_LfB ?_; rw [show mput [] (.string (digB x0)) (.int .i64 1) = skv (numE digB 1 [x0]) from rfl]) <;> refine aL_end (nav ?_) <;> try dsimp only)
 refine aC_ent (relabel (l := 20) 304 rfl rfl) fun _ => ?_
 (refine aC_region ?_ <;> refine xL 7 q_assign ?_ <;> refine aL_end (nav ?_) <;> try dsimp only)
 refine aC_loop (ι := { q : Nat × Value × Value × Value × List (List Int) × List (List Nat) // (subW a).upto x0 q.1 = some (q.2.2.2.2.1, q.2.2.2.2.2) ∧ q.1 ≤ q.2.2.2.2.1.length ∧ q.2.1.oneCell' = true ∧ q.2.2.1.oneCell' = true ∧ q.2.2.2.1.oneCell' = true }) (fun k => ⟨[(1, _, _), (2, _, _), (3, _, _), (4, _, _), (6, _, _), (5, k.1.2.2.2.1, .val k.1.2.2.2.1), (7, .int .i64 k.1.1, pInt k.1.1)], [(1, _, _), (2, _, _), (304, h20, .omap (skv (numE digB 1 k.1.2.2.2.2.1))), (4, h4, .own 100 3 1 [pInt a.syms, .val k.1.2.2.1, .val k.1.2.1]), (301, k.1.2.1, .own 22 1 k.1.2.2.2.2.2.length (k.1.2.2.2.2.2.map pNats)), (302, k.1.2.2.1, .own 4 1 ((k.1.2.2.2.2.1.take k.1.1).map (accB a)).length (((k.1.2.2.2.2.1.take k.1.1).map (accB a)).map pBool)), (303, k.1.2.2.2.1, .own 22 1 k.1.2.2.2.2.1.length (k.1.2.2.2.2.1.map pInts))]⟩) (fun k => 2000 - k.1.1) ⟨(0, v301, v302, h19, [x0], []), rfl, Nat.zero_le _, ho301, ho302, ho19⟩ (fun a w H => H.weaken ⟨rfl, rfl, rfl, rfl, rfl, rfl, rfl, trivial⟩ ⟨rfl, rfl, rfl, rfl, rfl, rfl, rfl, trivial⟩) ?_
 rintro ⟨⟨i, r1, r2, r3, o, rows⟩, hU, hi, hr1, hr2, hr3⟩
 dsimp only
 dsimp only at hU hi hr1 hr2 hr3
 have hU' := hU
 rw [hx0] at hU'
 obtain ⟨hOk, hRl, _⟩ := sub_ok h hU'
 have hRl := hRl hi
 have hcap : o.length ≤ 2000 := hOk.cap
 have hOp := hOk.p
 have hfl : ((o.take i).map (accB a)).length ≤ 2000 := by rw [List.length_map, List.length_take]; omega
 refine nav ?_
 (refine aC_region ?_ <;> refine xL 26 q_move ?_ <;> refine xL 27 q_move ?_ <;> refine xL 28 (q_leno 303 tSl28_LdS) ?_ <;> refine xL 29 q_lss ?_ <;> refine aL_end (nav ?_) <;> try dsimp only)
 (first | refine cCd ?_ ?_ | refine cC ?_ ?_) <;> intro hb29
 · first
   | exact Bool.noConfusion hb29
   | (
    obtain ⟨x, hx⟩ := get_some (show i < o.length by omega)
    have hxs := hOp x (List.mem_of_getElem? hx)
    have hxl := hxs.len h
    refine nav ?_
    (refine aC_region ?_ <;> refine s_lit0 32 tEl22_LdI fun h32 ho32 => ?_ <;> refine xL 8 q_assign ?_ <;> refine aL_end (nav ?_) <;> try dsimp only)
    refine aC_ent (relabel (l := 32) 305 rfl rfl) fun _ => ?_
    refine aC_ent (recast (l := 305) (p' := .own 3 1 ([] : List Nat).length ((toI []).map pInt)) rfl rfl) fun _ => ?_
    (refine aC_region ?_ <;> refine xL 9 q_assign ?_ <;> refine aL_end (nav ?_) <;> try dsimp only)
    refine aC_loop (ι := { q : Nat × Value × Value × List (List Int) × List Nat // (subW a).row i x o q.1 = some (q.2.2.2.1, q.2.2.2.2) ∧ q.1 ≤ a.syms.toNat ∧ q.2.1.oneCell' = true ∧ q.2.2.1.oneCell' = true }) (fun k => ⟨[(1, _, _), (2, _, _), (3, _, _), (4, _, _), (6, _, _), (7, _, _), (5, k.1.2.1, .val k.1.2.1), (8, k.1.2.2.1, .val k.1.2.2.1), (9, .int .i64 k.1.1, pInt k.1.1)], [(1, _, _), (2, _, _), (4, _, _), (301, _, _), (302, _, _), (303, k.1.2.1, .own 22 1 k.1.2.2.2.1.length (k.1.2.2.2.1.map pInts)), (304, h20, .omap (skv (numE digB 1 k.1.2.2.2.1))), (305, k.1.2.2.1, .own 3 1 k.1.2.2.2.2.length ((toI k.1.2.2.2.2).map pInt))]⟩) (fun k => a.syms.toNat - k.1.1) ⟨(0, r3, h32, o, []), rfl, Nat.zero_le _, hr3, ho32⟩ (fun a w H => H.weaken ⟨rfl, rfl, rfl, rfl, rfl, rfl, rfl, rfl, rfl, trivial⟩ ⟨rfl, rfl, rfl, rfl, rfl, rfl, rfl, rfl, trivial⟩) ?_
    rintro ⟨⟨s, r3', hR, o', r⟩, hW, hs, hr3', hRo⟩
    dsimp only
    dsimp only at hW hs hr3' hRo
    obtain ⟨hMt, hpr, hrl, _⟩ := hOk.toMet.row (fun s _ => set_next h s x) (show s ≤ (subW a).m from hs) hW
    have hcap' : o'.length ≤ 2000 := hMt.cap
    have hx' := preG_get hpr hx
    have hil := lt_of_get hx'
    have hrtl := toI_len r
    refine nav ?_
    (refine aC_region ?_ <;> refine xL 33 q_move ?_ <;> refine xL 34 (q_fldo 1 tFl25_1_LdI) ?_ <;> (refine yL 35 (q_ldo 1 tNa3_LbB) fun v35 hv35 => ?_; cases hv35) <;> refine xL 36 q_lss ?_ <;> refine aL_end (nav ?_) <;> try dsimp only)
    (first | refine cCd ?_ ?_ | refine cC ?_ ?_) <;> intro hb36
    · first
      | exact Bool.noConfusion hb36
      | (
       have hset := set_next h (s : Nat) x
       obtain ⟨set, hse⟩ : ∃ set, set = nextL a (s : Nat) x := ⟨_, rfl⟩
       rw [← hse] at hset
       have hsl := hset.len h
       have hkid := dig_id (fun l hl => (hMt.p l hl).bd2 h) (hset.bd2 h)
       have e1 := map_at (f := pInts) hx'
       have hlook := num1_look digB o' set
       refine nav ?_
       (refine aC_draw (fun i => ([] : List Nat).elem i) [1, 303] (by kernel_rfl) ?_ <;> (refine yD 0 39 rfl (q_ldao 1 tAgg25_LdS) fun v39 hv39 => ?_; cases hv39) <;> refine xD 1 40 rfl q_move ?_ <;> refine xD 2 41 rfl q_move ?_ <;> refine xD 3 42 rfl (q_idxoN 303 tSl28_LdS) ?_ <;> (refine yD 4 43 rfl (q_ldo 303 tNa22_LdI) fun v43 hv43 => ?_; cases hv43) <;> refine xE 5 44 rfl q_move ?_ <;> (refine aD_one 6 (by kernel_rfl) ?_) <;> (refine aW_run rfl fun w9 M9 N9 DQ back => ?_) <;> (refine cO 45 (cA Tryz.call67 (r07After_e a x s h hxs.1)) fun v45 ho45 => ?_; refine aL_ent (En.freeze (l := 45) (t := 45) rfl rfl) fun _ => ?_; rw [share_ints _ _ _ rfl, ← hse]) <;> refine aL_end (back _ (nrm ?_)) <;> refine xE 7 10 rfl q_assign ?_ <;> refine aD_end (by kernel_rfl) (nav ?_) <;> try dsimp only)
       (refine aC_region ?_ <;> refine xL 46 q_move ?_ <;> refine xL 47 q_move ?_ <;> (refine cS 48 (cA Tryz.call107 (r07digits_e set (by omega) (hset.bd2 h))) fun v48 hv48 => ?_; cases hv48) <;> refine xL 49 (q_lookoE 304 tMp135_LfB (hk := kok_skv _ _) (hu := hlook)) ?_ <;> refine xL 11 q_assign ?_ <;> refine aL_end (nav ?_) <;> try dsimp only)
       (refine aC_region ?_ <;> refine xL 50 q_move ?_ <;> refine xL 51 q_eql ?_ <;> refine aL_end (nav ?_) <;> try dsimp only)
       (first | refine cCd ?_ ?_ | refine cC ?_ ?_) <;> intro hb51
       · first
         | exact Bool.noConfusion hb51
         | (
          have hnew : ¬ posK digB o' (digB set) < o'.length := fun hh => by
           unfold num1 at hb51
           rw [if_pos hh] at hb51; omega
          have hnew2 : ¬ posK (subW a).key o' ((subW a).key ((subW a).step i x s)) < o'.length := by
           show ¬ posK id o' (nextL a (s : Nat) x) < o'.length
           rw [← hse, ← hkid]; exact hnew
          refine nav ?_
          (refine aC_region ?_ <;> refine xL 52 q_move ?_ <;> refine xL 53 (q_leno 303 tSl28_LdS) ?_ <;> refine xL 54 q_geq ?_ <;> refine aL_end (nav ?_) <;> try dsimp only)
          (first | refine cCd ?_ ?_ | refine cC ?_ ?_) <;> intro hb54
          · first
            | exact Bool.noConfusion hb54
            | (
             refine nav ?_
             (refine aC_region ?_ <;> refine xL 55 (q_build tSt100_LfH) ?_ <;> refine s_sta 2 tAgg100_LfH ?_ <;> refine xL 3 q_assign ?_ <;> refine aL_end (nav ?_) <;> try dsimp only)
             refine ret_hcs (k := 3) 2 [] (by kernel_rfl) (Tryz.results84) rfl rfl rfl (Nat.le_of_ble_eq_true rfl) (by decide) rfl trivial fun V => .inr ⟨?_, ⟨V, rfl⟩, rfl, rfl⟩
             have hv := visit_no hnew2 (show (subW a).cap ≤ o'.length by show 2000 ≤ o'.length; omega)
             have h1 := Srch.row_fails (Srch.row_out hW hv) (show s + 1 ≤ (subW a).m by show s + 1 ≤ a.syms.toNat; omega)
             have h2 := Srch.all_none (Srch.upto_out hU hx h1) (show i + 1 ≤ (subW a).cap by show i + 1 ≤ 2000; omega)
             unfold subT
             rw [← hx0, h2]; rfl)
          · first
            | exact Bool.noConfusion hb54
            | (
             refine nav ?_
             (refine aC_region ?_ <;> refine xL 56 q_move ?_ <;> refine xL 57 q_move ?_ <;> refine s_lit1 (kk := 1) 58 tEl28_LdS fun h58 ho58 => ?_ <;> (refine s_app 303 58 59 tEl28_LdS fun h59 ho59 => ?_; refine aL_ent (relabel (l := 59) 303 rfl rfl) fun _ => ?_; refine aL_ent (recast (l := 303) rfl (snoc_w _ o' set)) fun _ => ?_) <;> refine xL 5 q_assign ?_ <;> refine aL_end (nav ?_) <;> try dsimp only)
             (refine aC_region ?_ <;> refine xL 60 q_move ?_ <;> refine xL 61 (q_leno 303 tSl28_LdS) ?_ <;> refine xL 11 q_assign ?_ <;> refine aL_end (nav ?_) <;> try dsimp only)
             (refine aC_region ?_ <;> refine xL 62 q_move ?_ <;> refine xL 63 q_move ?_ <;> (refine cS 64 (cA Tryz.call107 (r07digits_e set (by omega) (hset.bd2 h))) fun v64 hv64 => ?_; cases hv64) <;> refine xL 65 q_move ?_ <;> (refine s_mput 304 tMp135_LfB ?_; rw [show (((o' ++ [set]).length : Nat) : Int) = ((o'.length + 1 : Nat) : Int) by rw [List.length_append]; rfl, num1_put hnew]) <;> refine aL_end (nav ?_) <;> try dsimp only)
             (refine aC_region ?_ <;> refine xL 66 q_move ?_ <;> refine xL 67 q_move ?_ <;> refine xL 68 q_sub ?_ <;> refine s_lit1 (kk := 1) 69 tEl22_LdI fun h69 ho69 => ?_ <;> (refine s_app 305 69 70 tEl22_LdI fun h70 ho70 => ?_; refine aL_ent (relabel (l := 70) 305 rfl rfl) fun _ => ?_; first | refine aL_ent (recast (l := 305) rfl ((congrArg (fun z : Int => PV.own 3 1 (r.length + 1) ((toI r).map pInt ++ [pInt z])) (show ((o'.length + 1 : Nat) : Int) - 1 = (o'.length : Nat) by omega)).trans (own_nats _ r o'.length))) fun _ => ?_ | refine aL_ent (recast (l := 305) rfl ((congrArg (fun z : Int => PV.own 3 1 (r.length + 1) ((toI r).map pInt ++ [pInt z])) (show ((posK id o' set + 1 : Nat) : Int) - 1 = (posK id o' set : Nat) by omega)).trans (own_nats _ r (posK id o' set)))) fun _ => ?_) <;> refine xL 8 q_assign ?_ <;> refine aL_end (nav ?_) <;> try dsimp only)
             (refine aC_region ?_ <;> refine xL 37 q_move ?_ <;> refine xL 38 q_add ?_ <;> refine xL 9 q_assign ?_ <;> refine aL_end (nav ?_) <;> try dsimp only)
             first
              | (exact aN_again (
                  ⟨(s + 1, h59, h70, o' ++ [set], r ++ [o'.length]), (by dsimp only; rw [hse]; exact Srch.row_snoc hW (visit_new hnew2 (show o'.length < 2000 by omega))), (by dsimp only; omega), ho59, ho70⟩
                  ) (by dsimp only; omega) ⟨rfl, rfl, rfl, rfl, rfl, rfl, rfl, rfl, rfl, trivial⟩ ⟨rfl, rfl, rfl, rfl, rfl, rfl, rfl, rfl, trivial⟩)
              | (exact aN_again (
                  ⟨(s + 1, r3', h70, o', r ++ [posK id o' set]), (by dsimp only; rw [hnum2]; exact Srch.row_snoc hW (visit_old hold2)), (by dsimp only; omega), hr3', ho70⟩
                  ) (by dsimp only; omega) ⟨rfl, rfl, rfl, rfl, rfl, rfl, rfl, rfl, rfl, trivial⟩ ⟨rfl, rfl, rfl, rfl, rfl, rfl, rfl, rfl, trivial⟩)))
       · first
         | exact Bool.noConfusion hb51
         | (
          have hold : posK digB o' (digB set) < o'.length := by
           rcases Nat.lt_or_ge (posK digB o' (digB set)) o'.length with hh | hh
           · exact hh
           · unfold num1 at hb51
             rw [if_neg (by omega)] at hb51; exact absurd rfl hb51
          have hold2 : posK (subW a).key o' ((subW a).key ((subW a).step i x s)) < o'.length := by
           show posK id o' (nextL a (s : Nat) x) < o'.length
           rw [← hse, ← hkid]; exact hold
          have hnum : ((num1 digB o' set : Nat) : Int) - 1 = (posK (subW a).key o' ((subW a).key ((subW a).step i x s)) : Nat) := by
           show ((num1 digB o' set : Nat) : Int) - 1 = (posK id o' (nextL a (s : Nat) x) : Nat)
           unfold num1
           rw [if_pos hold, hkid, hse]; omega
          rw [show ((num1 digB o' set : Nat) : Int) = ((posK id o' set + 1 : Nat) : Int) by unfold num1; rw [if_pos hold, hkid]]
          have hnum2 : posK id o' set = posK (subW a).key o' ((subW a).key ((subW a).step i x s)) := by rw [hse]; rfl
          refine nav ?_
          (refine aC_region ?_ <;> refine xL 66 q_move ?_ <;> refine xL 67 q_move ?_ <;> refine xL 68 q_sub ?_ <;> refine s_lit1 (kk := 1) 69 tEl22_LdI fun h69 ho69 => ?_ <;> (refine s_app 305 69 70 tEl22_LdI fun h70 ho70 => ?_; refine aL_ent (relabel (l := 70) 305 rfl rfl) fun _ => ?_; first | refine aL_ent (recast (l := 305) rfl ((congrArg (fun z : Int => PV.own 3 1 (r.length + 1) ((toI r).map pInt ++ [pInt z])) (show ((o'.length + 1 : Nat) : Int) - 1 = (o'.length : Nat) by omega)).trans (own_nats _ r o'.length))) fun _ => ?_ | refine aL_ent (recast (l := 305) rfl ((congrArg (fun z : Int => PV.own 3 1 (r.length + 1) ((toI r).map pInt ++ [pInt z])) (show ((posK id o' set + 1 : Nat) : Int) - 1 = (posK id o' set : Nat) by omega)).trans (own_nats _ r (posK id o' set)))) fun _ => ?_) <;> refine xL 8 q_assign ?_ <;> refine aL_end (nav ?_) <;> try dsimp only)
          (refine aC_region ?_ <;> refine xL 37 q_move ?_ <;> refine xL 38 q_add ?_ <;> refine xL 9 q_assign ?_ <;> refine aL_end (nav ?_) <;> try dsimp only)
          first
           | (exact aN_again (
               ⟨(s + 1, h59, h70, o' ++ [set], r ++ [o'.length]), (by dsimp only; rw [hse]; exact Srch.row_snoc hW (visit_new hnew2 (show o'.length < 2000 by omega))), (by dsimp only; omega), ho59, ho70⟩
               ) (by dsimp only; omega) ⟨rfl, rfl, rfl, rfl, rfl, rfl, rfl, rfl, rfl, trivial⟩ ⟨rfl, rfl, rfl, rfl, rfl, rfl, rfl, rfl, trivial⟩)
           | (exact aN_again (
               ⟨(s + 1, r3', h70, o', r ++ [posK id o' set]), (by dsimp only; rw [hnum2]; exact Srch.row_snoc hW (visit_old hold2)), (by dsimp only; omega), hr3', ho70⟩
               ) (by dsimp only; omega) ⟨rfl, rfl, rfl, rfl, rfl, rfl, rfl, rfl, rfl, trivial⟩ ⟨rfl, rfl, rfl, rfl, rfl, rfl, rfl, rfl, trivial⟩)))
    · first
      | exact Bool.noConfusion hb36
      | (
       have hsm : s = a.syms.toNat := by omega
       subst hsm
       have hU2 := Srch.upto_snoc hU hx hW
       have e1 := map_at (f := pInts) hx'
       have htk : o'.take (i + 1) = (o.take i) ++ [x] := by
        rw [take_snoc hx']
        obtain ⟨e, rfl⟩ := hpr
        rw [List.take_append_of_le_length hi]
       refine nav ?_
       refine aC_ent (En.freeze (l := 305) (t := 8) rfl rfl) fun _ => ?_
       rw [share_ints _ _ _ (by rw [toI_len])]
       (refine aC_region ?_ <;> refine xL 71 (q_fldo 4 tFl100_2_LfH) ?_ <;> (refine yL 72 (q_ldo 4 tNa28_LfB) fun v72 hv72 => ?_; cases hv72) <;> refine xL 73 q_move ?_ <;> refine s_lit1 (kk := 1) 74 tEl28_LdS fun h74 ho74 => ?_ <;> (refine s_app 301 74 75 tEl28_LdS fun h75 ho75 => ?_; refine aL_ent (relabel (l := 75) 301 rfl rfl) fun _ => ?_; refine aL_ent (recast (l := 301) rfl (snoc_nats _ rows r)) fun _ => ?_) <;> refine xL 76 (q_fldo 4 tFl100_2_LfH) ?_ <;> refine s_st 4 tNa28_LfB tSz28_LfB ?_ <;> refine aL_end (nav ?_) <;> try dsimp only)
       (refine aC_draw (fun i => ([11] : List Nat).elem i) [1, 4, 303] (by kernel_rfl) ?_ <;> refine xD 0 77 rfl (q_fldo 4 tFl100_1_LfH) ?_ <;> (refine yD 1 78 rfl (q_ldo 4 tNa66_LdJ) fun v78 hv78 => ?_; cases hv78) <;> (refine yD 2 79 rfl (q_ldao 1 tAgg25_LdS) fun v79 hv79 => ?_; cases hv79) <;> refine xD 3 80 rfl q_move ?_ <;> refine xE 4 81 rfl q_move ?_ <;> refine xE 5 82 rfl (q_idxoN 303 tSl28_LdS) ?_ <;> (refine yE 6 83 rfl (q_ldo 303 tNa22_LdI) fun v83 hv83 => ?_; cases hv83) <;> (refine aD_one 7 (by kernel_rfl) ?_) <;> (refine aW_call (d := 84) rfl (cA Tryz.call66 (r07final_e a x)) fun v84 hv84 => ?_; cases hv84) <;> (refine aD_one 8 (by kernel_rfl) ?_) <;> (refine aW_run rfl fun w9 M9 N9 DQ back => ?_) <;> refine s_lit1 (kk := 1) 85 tEl66_LdR fun h85 ho85 => ?_ <;> refine aL_end (back _ (nrm ?_)) <;> (refine aD_one 9 (by kernel_rfl) ?_) <;> (refine aW_run rfl fun w9 M9 N9 DQ back => ?_) <;> refine s_app 302 85 86 tEl66_LdR fun h86 ho86 => ?_ <;> refine aL_end (back _ (nrm ?_)) <;> refine xE 10 87 rfl (q_fldo 4 tFl100_1_LfH) ?_ <;> (refine aD_one 11 (by kernel_rfl) ?_) <;> (refine aW_last rfl rfl (by kernel_rfl) fun DQ back => ?_) <;> refine s_st 4 tNa66_LdJ tSz66_LfB ?_ <;> refine aL_end (back _ (nav ?_)) <;> try dsimp only)
       refine aC_ent (relabel (l := 86) 302 rfl rfl) fun _ => ?_
       refine aC_ent (recast (l := 302) rfl (snoc_bools _ ((o.take i).map (accB a)) (accB a x))) fun _ => ?_
       rw [show ((o.take i).map (accB a)) ++ [accB a x] = (o'.take (i + 1)).map (accB a) by rw [htk, List.map_append]; rfl]
       (refine aC_region ?_ <;> refine xL 30 q_move ?_ <;> refine xL 31 q_add ?_ <;> refine xL 7 q_assign ?_ <;> refine aL_end (nav ?_) <;> try dsimp only)
       refine aN_again (
        ⟨(i + 1, h75, h86, r3', o', rows ++ [r]), hU2, (by dsimp only; omega), ho75, ho86, hr3'⟩
        ) (by dsimp only; omega) ⟨rfl, rfl, rfl, rfl, rfl, rfl, rfl, trivial⟩ ⟨rfl, rfl, rfl, rfl, rfl, rfl, rfl, trivial⟩))
 · first
   | exact Bool.noConfusion hb29
   | (
    have hio : i = o.length := by omega
    subst hio
    have hone2 : En.one (PV.val r2) = true := hr2
    refine nav ?_
    refine aC_ent (freezeCell (l := 4) (l' := 301) (j := 2) rfl rfl rfl rfl) fun _ => ?_
    rw [share_natss _ _ _ rfl]
    refine aC_ent (relabel (l := 302) 1000 rfl rfl) fun _ => ?_
    rw [List.take_length]
    (refine aC_region ?_ <;> (refine yL 88 (q_ldao (k := 3) (ps := [pInt a.syms, PV.val r2, PV.sl rows.length (rows.map pNats)]) 4 (by kernel_rfl)) fun v88 hv88 => ?_; cases hv88) <;> refine s_sta 2 tAgg100_LfH ?_ <;> refine xL 3 q_assign ?_ <;> refine aL_end (nav ?_) <;> try dsimp only)
    refine ret_hcs (k := 3) 2 [(1000, r2, PV.own 4 1 (o.map (accB a)).length ((o.map (accB a)).map pBool))] (by kernel_rfl) (Tryz.results84) rfl rfl rfl (Nat.le_of_ble_eq_true rfl) (by decide) rfl ⟨rfl, trivial⟩ fun V => .inl ⟨⟨a.syms.toNat, rows, o.map (accB a)⟩, r2, V, hr2, ?_, rfl, ?_, rfl⟩
    · unfold subT
      rw [← hx0, Srch.all_some hU (Nat.le_refl _) (show o.length ≤ (subW a).cap from hcap)]; rfl
    · dsimp only
      rw [hsN]; rfl)
end Go.Proofs.YtgigclnaicbiaaaGreatDoor
