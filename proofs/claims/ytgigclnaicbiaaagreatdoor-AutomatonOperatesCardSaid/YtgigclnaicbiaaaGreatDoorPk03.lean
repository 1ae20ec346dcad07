/-
  Walks: automata: the closure of states: what 'add' does.
  Walks: automata: the closure of states.
  Walks: automata: where a symbol leads.
  Plain laws: automata: what silent moves reach, and how far it is to the end. No program in sight.
  Plain laws: automata: the words up to a length, as the program finds them and as the reference does. No program in sight.
  Plain functions, more: a word is split by a cut, as the program does it. No program in sight.
  Plain functions, more: pieces whose parts are told at the end. No program in sight.
  Plain laws: rows and squares of truths; what is reached, by two ways. No program in sight.
  Plain laws: a square of truths is closed by passes over all triples. No program in sight.
  Plain laws: classes of what is linked, found one after the other. No program in sight.
  Plain laws: the classes are one list; lists of classes in the order of their least elements. No program in sight.
  Plain laws: labels that are pushed along links until nothing changes. No program in sight.
  Plain laws: lists in the order of a relation; a part as an ascending list; the least of a list. No program in sight.
  Plain laws: which automata are in order. No program in sight.
  Walks: automata: distances.
  Walks: automata: the graph of an automaton.
  The engine: structs of plain values are compared. No program in sight.
  The engine: what an owned thing reads as, written otherwise. No program in sight.
  Walks: automata: the words up to a length.
  The engine: literals of structs. No program in sight.
  The engine: a contract's result, read otherwise. No program in sight.
  The engine: fields of struct values, elements of arrays that are shared. No program in sight.
  The engine: remainders, bits. No program in sight.
  Walks: which words an automaton accepts.
  Plain laws: numbering things in the order in which they are met. No program in sight.
  Walks: the relation of a graph (package cut): squares, of, at, reach.
  Walks: reach, loops, fits, begin (package cut).
  Walks: the reference's automata: comparing moves, which are valid, sets of states.
-/
import Derived.Laws.StructEq
import Derived.Test.YtgigclnaicbiaaaGreatDoorPk02
import Derived.Test.YtgigclnaicbiaaaGreatDoorMShelfD
import Derived.Test.YtgigclnaicbiaaaGreatDoorPk01
namespace Go.Proofs.YtgigclnaicbiaaaGreatDoor
open Go.RowKit Go.Cb Go.En
set_option linter.all false
set_option maxRecDepth 100000
theorem tMp113_LdK : MpT Tryz.prog 113 3 4 (.int .i64) (.bool false) := ⟨Tryz.underlying113, Tryz.underlying3, .inr ⟨_, rfl⟩, by show ZeroT _ _ _; unfold ZeroT; kernel_rfl⟩
theorem tNa113_LdK : NoAgg Tryz.prog 113 = true := by kernel_rfl
theorem tSz22_LdK : (Tryz.prog.info? 22).map (·.size) = some 1 := by kernel_rfl
def seenKV (out : List Int) : List (Int × Value) := out.map fun s => (s, .bool true)
theorem seen_get (out : List Int) (s : Int) : (mget (ikv (seenKV out)) (.int .i64 s)).getD (.bool false) = .bool (out.elem s) := by
 rw [mget_ikv]
 induction out with
 | nil => rfl
 | cons x l ih =>
   unfold seenKV at ih ⊢
   rw [List.map_cons, aget, List.elem_cons]
   by_cases h : s = x
   · subst h; simp
   · have h1 : (s == x) = false := by simpa using h
     rw [h1]
     simp [h, Ne.symm h]
     simpa using ih
theorem seen_put {out : List Int} {s : Int} (h : out.elem s = false) : mput (ikv (seenKV out)) (.int .i64 s) (.bool true) = ikv (seenKV (out ++ [s])) := by
 rw [mput_ikv]
 congr 1
 induction out with
 | nil => rfl
 | cons x l ih =>
   rw [List.elem_cons] at h
   have h1 : (s == x) = false := by cases h2 : (s == x) <;> simp_all
   have h2 : l.elem s = false := by simp_all
   have h3 : ¬ s = x := by simpa using h1
   unfold seenKV at ih ⊢
   rw [List.map_cons, aput]
   simp [h3, Ne.symm h3]
   simpa using ih h2
def addSt (out : List Int) (s : Int) : List Int := if out.elem s then out else out ++ [s]
def clH (h5 h6 m r : Value) (out : List Int) : List (Nat × Ent) := [(1001, h5, .own 113 1 1 [.val m]), (1002, h6, .own 22 1 1 [.val r]), (1003, m, .omap (ikv (seenKV out))), (1004, r, .own 3 1 out.length (out.map pInt))]
theorem aClosure1_e (s : Int) (h5 h6 m r : Value) (out : List Int) (hl : out.length ≤ 1000000) (hm : m.oneCell' = true) (hr : r.oneCell' = true) : AFh False Tryz.prog 100 [(0, .int .i64 s, pInt s), (1, padd (sbase h5) 0, .val (padd (sbase h5) 0)), (2, padd (sbase h6) 0, .val (padd (sbase h6) 0))]
 (clH h5 h6 m r out) (fun v q h => q = .val v ∧ ∃ r' : Value, r'.oneCell' = true ∧ h = clH h5 h6 m r' (addSt out s)) := by
 have hu := seen_get out s
 refine AFh.of_body 14 Tryz.func100 rfl Tryz.ntmps100 (Nat.le_of_ble_eq_true rfl) rfl ?_
 intro w0 M0 N0
 refine nav ?_
 (refine aC_region ?_ <;> (refine yL 4 (q_ldo 1001 tNa113_LdK) fun v4 hv4 => ?_; cases hv4) <;> refine xL 5 q_move ?_ <;> refine xL 6 (q_lookoE 1003 tMp113_LdK) ?_ <;> refine xL 7 q_not ?_ <;> refine aL_end (nav ?_) <;> try dsimp only)
 (first | refine cCd ?_ ?_ | refine cC ?_ ?_) <;> intro hb7
 · first
   | exact Bool.noConfusion hb7
   | (
    have hn : out.elem s = false := by simpa using hb7
    have hp := seen_put hn
    refine nav ?_
    (refine aC_region ?_ <;> (refine yL 8 (q_ldo 1001 tNa113_LdK) fun v8 hv8 => ?_; cases hv8) <;> refine xL 9 q_move ?_ <;> (refine s_mput 1003 tMp113_LdK ?_; rw [hp]) <;> refine aL_end (nav ?_) <;> try dsimp only)
    (refine aC_region ?_ <;> (refine yL 10 (q_ldo 1002 tNa22_LdI) fun v10 hv10 => ?_; cases hv10) <;> refine xL 11 q_move ?_ <;> refine s_lit1 (kk := 1) 12 tEl22_LdI fun h12 ho12 => ?_ <;> refine s_app 1004 12 13 tEl22_LdI fun h13 ho13 => ?_ <;> refine s_st 1002 tNa22_LdI tSz22_LdK ?_ <;> refine aL_end (nav ?_) <;> try dsimp only)
    first
     | (refine aN_ent (relabel (l := 13) 1004 rfl rfl) fun _ => ?_
        refine end_h0 (clH h5 h6 m _ (out ++ [s])) (Tryz.results100) ⟨rfl, rfl, rfl, ?_, trivial⟩ ⟨rfl, _, ho13, ?_⟩
        · rw [List.map_append, List.length_append]; rfl
        · unfold addSt; rw [hn]; rfl)
     | (refine end_h0 (clH h5 h6 m r out) (Tryz.results100) ⟨rfl, rfl, rfl, rfl, trivial⟩ ⟨rfl, r, hr, ?_⟩
        unfold addSt; rw [if_pos (by simpa using hb7)]))
 · first
   | exact Bool.noConfusion hb7
   | (
    refine nav ?_
    first
     | (refine aN_ent (relabel (l := 13) 1004 rfl rfl) fun _ => ?_
        refine end_h0 (clH h5 h6 m _ (out ++ [s])) (Tryz.results100) ⟨rfl, rfl, rfl, ?_, trivial⟩ ⟨rfl, _, ho13, ?_⟩
        · rw [List.map_append, List.length_append]; rfl
        · unfold addSt; rw [hn]; rfl)
     | (refine end_h0 (clH h5 h6 m r out) (Tryz.results100) ⟨rfl, rfl, rfl, rfl, trivial⟩ ⟨rfl, r, hr, ?_⟩
        unfold addSt; rw [if_pos (by simpa using hb7)]))
theorem tFl125_1_LdL : FldT Tryz.prog 125 1 1 = true := by kernel_rfl
theorem tNa123_LdL : NoAgg Tryz.prog 123 = true := by kernel_rfl
theorem tSl123_LdL : SlT Tryz.prog 123 23 1 = true := by kernel_rfl
theorem tSz113_LdL : (Tryz.prog.info? 113).map (·.size) = some 1 := by kernel_rfl
theorem tZr113_LdL : ZeroT Tryz.prog 113 (.map none) := by unfold ZeroT; kernel_rfl
theorem tZr22_LdL : ZeroT Tryz.prog 22 (.slice none 0 0) := by unfold ZeroT; kernel_rfl
theorem nodup_len : ∀ (n : Nat) (L : List Int), L.Nodup → (∀ s ∈ L, 0 ≤ s ∧ s < n) → L.length ≤ n
 | 0, [], _, _ => Nat.le_refl _
 | 0, x :: _, _, h => by have := h x (List.mem_cons_self ..); omega
 | n + 1, L, hn, h => by
   have h1 := nodup_len n (L.erase (n : Int)) (hn.erase _) fun s hs => by
    have h2 := (hn.mem_erase_iff).1 hs
    have h3 := h s h2.2
    have := h2.1
    omega
   have h2 := List.length_erase (a := (n : Int)) (l := L)
   split at h2 <;> omega
def OutOk (n : Int) (out : List Int) : Prop := out.Nodup ∧ ∀ s ∈ out, 0 ≤ s ∧ s < n
theorem OutOk.len {n : Int} {out : List Int} (h : OutOk n out) : out.length ≤ n.toNat := nodup_len _ _ h.1 fun s hs => by have := h.2 s hs; omega
theorem OutOk.add {n : Int} {out : List Int} {s : Int} (h : OutOk n out) (hs : 0 ≤ s ∧ s < n) : OutOk n (addSt out s) := by
 unfold addSt
 split
 · exact h
 · rename_i h1
   refine ⟨?_, fun t ht => ?_⟩
   · rw [List.nodup_append]
     refine ⟨h.1, by simp, fun a ha b hb => ?_⟩
     simp only [List.mem_singleton] at hb
     subst hb
     intro e
     subst e
     exact h1 (by simpa using ha)
   · rw [List.mem_append, List.mem_singleton] at ht
     rcases ht with ht | rfl
     · exact h.2 t ht
     · exact hs
def addSts (l : List Int) (out : List Int) : List Int := l.foldl addSt out
theorem OutOk.all {n : Int} : ∀ (l : List Int) {out : List Int}, OutOk n out → (∀ s ∈ l, 0 ≤ s ∧ s < n) → OutOk n (addSts l out)
 | [], _, h, _ => h
 | x :: l, _, h, hl => OutOk.all l (h.add (hl x (List.mem_cons_self ..))) fun s hs => hl s (List.mem_cons_of_mem _ hs)
theorem addSts_snoc {l : List Int} {k : Nat} {x : Int} (h : l[k]? = some x) (out : List Int) : addSts (l.take (k + 1)) out = addSt (addSts (l.take k) out) x := by
 unfold addSts; rw [take_snoc h, List.foldl_append]; rfl
def silent (ms : List Mv) : List Int := (ms.filter fun m => decide (m.sym = -1)).map (·.dst)
theorem silent_yes {ms : List Mv} {k : Nat} {m : Mv} (h : ms[k]? = some m) (hs : m.sym = -1) : silent (ms.take (k + 1)) = silent (ms.take k) ++ [m.dst] := by
 unfold silent; rw [take_snoc h, List.filter_append, List.map_append]; simp [hs]
theorem silent_no {ms : List Mv} {k : Nat} {m : Mv} (h : ms[k]? = some m) (hs : ¬ m.sym = -1) : silent (ms.take (k + 1)) = silent (ms.take k) := by
 unfold silent; rw [take_snoc h, List.filter_append, List.map_append]; simp [hs]
def clStep (a : Aut) (out : List Int) (i : Nat) : List Int := match out[i]? with
 | some s => addSts (silent (movesOf a s.toNat)) out
 | none => out
def clAt (a : Aut) (l : List Int) : Nat → List Int
 | 0 => addSts l []
 | i + 1 => clStep a (clAt a l i) i
def closL (a : Aut) (l : List Int) : List Int := (clAt a l a.n.toNat).mergeSort fun x y => decide (x ≤ y)
def MvIn (a : Aut) : Prop := ∀ m ∈ a.moves, 0 ≤ m.dst ∧ m.dst < a.n
theorem silent_in {a : Aut} (h : MvIn a) (s : Nat) : ∀ t ∈ silent (movesOf a s), 0 ≤ t ∧ t < a.n := fun t ht => by
 unfold silent movesOf at ht
 simp only [List.mem_map, List.mem_filter] at ht
 obtain ⟨m, ⟨⟨h1, _⟩, _⟩, rfl⟩ := ht
 exact h m h1
theorem clAt_ok {a : Aut} {l : List Int} (h : MvIn a) (hl : ∀ s ∈ l, 0 ≤ s ∧ s < a.n) : ∀ i, OutOk a.n (clAt a l i)
 | 0 => OutOk.all l ⟨List.nodup_nil, by simp⟩ hl
 | i + 1 => by
   rw [clAt, clStep]
   split
   · exact OutOk.all _ (clAt_ok h hl i) (silent_in h _)
   · exact clAt_ok h hl i
theorem clAt_stop {a : Aut} {l : List Int} {i : Nat} (h : (clAt a l i).length ≤ i) : ∀ j, clAt a l (i + j) = clAt a l i
 | 0 => rfl
 | j + 1 => by
   rw [← Nat.add_assoc, clAt, clAt_stop h j, clStep, List.getElem?_eq_none (by omega)]
theorem clAt_end {a : Aut} {l : List Int} {i n : Nat} (h : (clAt a l i).length ≤ i) (hi : i ≤ n) : clAt a l n = clAt a l i := by
 have := clAt_stop h (n - i)
 rwa [show i + (n - i) = n by omega] at this
theorem sil_add {ms : List Mv} {k : Nat} {m : Mv} (h : ms[k]? = some m) (hs : m.sym = -1) (out : List Int) : addSt (addSts (silent (ms.take k)) out) m.dst = addSts (silent (ms.take (k + 1))) out := by
 rw [silent_yes h hs]; unfold addSts; rw [List.foldl_append]; rfl
theorem sil_take {a : Aut} (h : MvIn a) (s k : Nat) : ∀ t ∈ silent ((movesOf a s).take k), 0 ≤ t ∧ t < a.n := fun t ht => by
 refine silent_in h s t ?_
 unfold silent at ht ⊢
 simp only [List.mem_map, List.mem_filter] at ht ⊢
 obtain ⟨m, ⟨h1, h2⟩, h3⟩ := ht
 exact ⟨m, ⟨List.mem_of_mem_take h1, h2⟩, h3⟩
theorem sortInt_cD : SortI Tryz.prog 101 := fun blk cap zs w hH hb hn => Tryz.slices_Sort_int blk 0 cap zs w hH hb hn
theorem sortInt0_cD : SortI0 Tryz.prog 101 := fun p cap w => Tryz.slices_Sort_int_none p cap w
set_option maxHeartbeats 2000000 in
theorem aClosure_e (a : Aut) (l : List Int) (hn : a.n ≤ 2000) (hm : MvIn a) (hl : ∀ s ∈ l, 0 ≤ s ∧ s < a.n) : AF Tryz.prog 61 [pGr a, pInts l] (· = .own 3 1 (closL a l).length ((closL a l).map pInt)) := by
 refine AF.of_body 57 Tryz.func61 rfl Tryz.ntmps61 (Nat.le_of_ble_eq_true rfl) ?_
 intro w0 M0 vs hl hv
 obtain ⟨v0, v1, rfl⟩ := len2 hl
 clear hl hv
 refine aC_slen 1 rfl fun hlen => ?_
 refine nav ?_
 (refine aC_region ?_ <;> refine xL 4 q_assign ?_ <;> refine aL_end (nav ?_) <;> try dsimp only)
 (refine aC_region ?_ <;> refine s_mkmap 13 fun h13 ho13 => ?_ <;> refine s_alloc [(.map none)] 1 5 tZr113_LdL fun h5 => ?_ <;> refine s_st 5 tNa113_LdK tSz113_LdL ?_ <;> refine aL_end (nav ?_) <;> try dsimp only)
 (refine aC_region ?_ <;> refine s_alloc [(.slice none 0 0)] 1 6 tZr22_LdL fun h6 => ?_ <;> refine aL_end (nav ?_) <;> try dsimp only)
 (refine aC_region ?_ <;> refine xL 14 q_mkfn ?_ <;> refine xL 7 q_assign ?_ <;> refine aL_end (nav ?_) <;> try dsimp only)
 refine aC_ent (nilOwn 200 3 1 rfl) fun _ => ?_
 refine aC_ent (relabel (l := 5) 1001 rfl rfl) fun _ => ?_
 refine aC_ent (relabel (l := 6) 1002 rfl rfl) fun _ => ?_
 refine aC_ent (relabel (l := 13) 1003 rfl rfl) fun _ => ?_
 refine aC_ent (relabel (l := 200) 1004 rfl rfl) fun _ => ?_
 (refine aC_region ?_ <;> refine xL 15 q_move ?_ <;> refine xL 16 (q_len tSl22_LbB) ?_ <;> refine xL 17 q_move ?_ <;> refine aL_end (nav ?_) <;> try dsimp only)
 refine aC_loop (ι := { q : Nat × Value // q.1 ≤ l.length ∧ q.2.oneCell' = true }) (fun k => ⟨[(0, _, _), (5, _, _), (6, _, _), (7, _, _), (15, _, _), (16, _, _), (17, .int .i64 k.1.1, pInt k.1.1)], [(1001, h5, .own 113 1 1 [.val h13]), (1002, h6, .own 22 1 1 [.val k.1.2]), (1003, h13, .omap (ikv (seenKV (addSts (l.take k.1.1) [])))), (1004, k.1.2, .own 3 1 (addSts (l.take k.1.1) []).length ((addSts (l.take k.1.1) []).map pInt))]⟩) (fun k => l.length - k.1.1) ⟨(0, .slice none 0 0), Nat.zero_le _, rfl⟩ (fun a w H => H.weaken ⟨rfl, rfl, rfl, rfl, rfl, rfl, rfl, trivial⟩ ⟨rfl, rfl, rfl, rfl, trivial⟩) ?_
 rintro ⟨⟨k, r⟩, hk, hr⟩
 dsimp only
 dsimp only at hk hr
 have hok : OutOk a.n (addSts (l.take k) []) := OutOk.all _ ⟨List.nodup_nil, by simp⟩ (fun s hs => hl s (List.mem_of_mem_take hs))
 have hol : (addSts (l.take k) []).length ≤ 1000000 := by have := hok.len; omega
 refine nav ?_
 (refine aC_region ?_ <;> refine xL 18 q_lss ?_ <;> refine aL_end (nav ?_) <;> try dsimp only)
 (first | refine cCd ?_ ?_ | refine cC ?_ ?_) <;> intro hb18
 · first
   | exact Bool.noConfusion hb18
   | (
    obtain ⟨x, hx⟩ := get_some (show k < l.length by omega)
    have e1 := map_at (f := pInt) hx
    refine nav ?_
    (refine aC_region ?_ <;> refine xL 19 (q_idxN tSl22_LbB) ?_ <;> (refine yL 20 (q_ld tNa3_LbB) fun v20 hv20 => ?_; cases hv20) <;> refine xL 9 q_assign ?_ <;> refine aL_end (nav ?_) <;> try dsimp only)
    (refine aC_region ?_ <;> refine xL 21 q_move ?_ <;> refine xL 22 q_move ?_ <;> (refine aL_heap (clH h5 h6 h13 r (addSts (l.take k) [])) ⟨rfl, rfl, rfl, rfl, trivial⟩ ?_; refine aL_chF [] 23 (Tryz.call100) (aClosure1_e x h5 h6 h13 r (addSts (l.take k) []) hol ho13 hr) ?_; rintro v23 _ _ ⟨rfl, r2, hr2, rfl⟩; rw [← addSts_snoc hx]) <;> refine aL_end (nav ?_) <;> try dsimp only)
    (refine aC_region ?_ <;> refine xL 24 q_add ?_ <;> refine xL 17 q_move ?_ <;> refine aL_end (nav ?_) <;> try dsimp only)
    refine aN_again (
     ⟨(k + 1, r2), lt_of_get hx, hr2⟩
     ) (by dsimp only; omega) ⟨rfl, rfl, rfl, rfl, rfl, rfl, rfl, trivial⟩ ⟨rfl, rfl, rfl, rfl, trivial⟩)
 · first
   | exact Bool.noConfusion hb18
   | (
    rw [show addSts (l.take k) [] = clAt a l 0 by rw [List.take_of_length_le (by omega)]; rfl]
    refine nav ?_
    (refine aC_region ?_ <;> refine xL 10 q_assign ?_ <;> refine aL_end (nav ?_) <;> try dsimp only)
    refine aC_loop (ι := { q : Nat × Value // q.1 ≤ a.n.toNat ∧ q.2.oneCell' = true }) (fun k => ⟨[(0, _, _), (5, _, _), (6, _, _), (7, _, _), (10, .int .i64 k.1.1, pInt k.1.1)], [(1001, h5, .own 113 1 1 [.val h13]), (1002, h6, .own 22 1 1 [.val k.1.2]), (1003, h13, .omap (ikv (seenKV (clAt a l k.1.1)))), (1004, k.1.2, .own 3 1 (clAt a l k.1.1).length ((clAt a l k.1.1).map pInt))]⟩) (fun k => a.n.toNat - k.1.1) ⟨(0, r), Nat.zero_le _, hr⟩ (fun a w H => H.weaken ⟨rfl, rfl, rfl, rfl, rfl, trivial⟩ ⟨rfl, rfl, rfl, rfl, trivial⟩) ?_
    rintro ⟨⟨i, r3⟩, hi, hr3⟩
    dsimp only
    dsimp only at hi hr3
    have hok3 := clAt_ok hm hl i
    have hlen3 := hok3.len
    refine nav ?_
    (refine aC_region ?_ <;> refine xL 25 q_move ?_ <;> (refine yL 26 (q_ldo 1002 tNa22_LdI) fun v26 hv26 => ?_; cases hv26) <;> refine xL 27 (q_leno 1004 tSl22_LbB) ?_ <;> refine xL 28 q_lss ?_ <;> refine aL_end (nav ?_) <;> try dsimp only)
    (first | refine cCd ?_ ?_ | refine cC ?_ ?_) <;> intro hb28
    · first
      | exact Bool.noConfusion hb28
      | (
       obtain ⟨s, hs⟩ := get_some (show i < (clAt a l i).length by omega)
       have hsr := hok3.2 s (List.mem_of_getElem? hs)
       have e1 := map_at (f := pInt) hs
       have e2 : ((List.range a.n.toNat).map fun s => pMvs (movesOf a s))[s.toNat * 1]? = some (pMvs (movesOf a s.toNat)) := by rw [Nat.mul_one, range_at (by omega)]
       have e2' : s.toNat < a.n.toNat := by omega
       refine nav ?_
       (refine aC_draw (fun i => ([] : List Nat).elem i) [1001, 1002, 1003, 1004] (by kernel_rfl) ?_ <;> refine xD 0 31 rfl q_move ?_ <;> refine xD 1 32 rfl q_nilp ?_ <;> refine xD 2 33 rfl (q_fld tFl125_1_LdL) ?_ <;> (refine yD 3 34 rfl (q_ld tNa123_LdL) fun v34 hv34 => ?_; cases hv34) <;> (refine yD 4 35 rfl (q_ldo 1002 tNa22_LdI) fun v35 hv35 => ?_; cases hv35) <;> refine xD 5 36 rfl q_move ?_ <;> refine xD 6 37 rfl (q_idxoN 1004 tSl22_LbB) ?_ <;> (refine yD 7 38 rfl (q_ldo 1004 tNa3_LbB) fun v38 hv38 => ?_; cases hv38) <;> refine xD 8 39 rfl (q_idx tSl123_LdL) ?_ <;> (refine yD 9 40 rfl (q_ld tNa23_LdI) fun v40 hv40 => ?_; cases hv40) <;> refine xD 10 41 rfl (q_len tSl23_LdI) ?_ <;> refine xE 11 42 rfl q_move ?_ <;> refine aD_end (by kernel_rfl) (nav ?_) <;> try dsimp only)
       refine aC_slen 40 rfl fun hlen40 => ?_
       refine aC_loop (ι := { q : Nat × Value // q.1 ≤ (movesOf a s.toNat).length ∧ q.2.oneCell' = true }) (fun k => ⟨[(0, _, _), (5, _, _), (6, _, _), (7, _, _), (10, _, _), (40, _, _), (41, _, _), (42, .int .i64 k.1.1, pInt k.1.1)], [(1001, h5, .own 113 1 1 [.val h13]), (1002, h6, .own 22 1 1 [.val k.1.2]), (1003, h13, .omap (ikv (seenKV (addSts (silent ((movesOf a s.toNat).take k.1.1)) (clAt a l i))))), (1004, k.1.2, .own 3 1 (addSts (silent ((movesOf a s.toNat).take k.1.1)) (clAt a l i)).length ((addSts (silent ((movesOf a s.toNat).take k.1.1)) (clAt a l i)).map pInt))]⟩) (fun k => (movesOf a s.toNat).length - k.1.1) ⟨(0, r3), Nat.zero_le _, hr3⟩ (fun a w H => H.weaken ⟨rfl, rfl, rfl, rfl, rfl, rfl, rfl, rfl, trivial⟩ ⟨rfl, rfl, rfl, rfl, trivial⟩) ?_
       rintro ⟨⟨k, r4⟩, hk4, hr4⟩
       dsimp only
       dsimp only at hk4 hr4
       have hok4 : OutOk a.n (addSts (silent ((movesOf a s.toNat).take k)) (clAt a l i)) := OutOk.all _ hok3 (sil_take hm _ _)
       have hol4 : (addSts (silent ((movesOf a s.toNat).take k)) (clAt a l i)).length ≤ 1000000 := by have := hok4.len; omega
       refine nav ?_
       (refine aC_region ?_ <;> refine xL 43 q_lss ?_ <;> refine aL_end (nav ?_) <;> try dsimp only)
       (first | refine cCd ?_ ?_ | refine cC ?_ ?_) <;> intro hb43
       · first
         | exact Bool.noConfusion hb43
         | (
          obtain ⟨mv, hmv⟩ := get_some (show k < (movesOf a s.toNat).length by omega)
          have e3 := flat_drop cMv_len (movesOf a s.toNat) k mv hmv
          have e4 := flat_fit cMv_len hmv
          refine nav ?_
          (refine aC_region ?_ <;> refine xL 44 (q_idxN tSl23_LdI) ?_ <;> (refine yL 45 (q_lda tAgg72_LdI) fun v45 hv45 => ?_; cases hv45) <;> refine s_alloc [(.int .i64 0), (.int .i64 0), (.int .i64 0)] 3 12 tZr72_LdI fun h12 => ?_ <;> refine s_sta 12 tAgg72_LdI ?_ <;> refine aL_end (nav ?_) <;> try dsimp only)
          (refine aC_region ?_ <;> refine xL 46 (q_fldo 12 tFl72_2_LdI) ?_ <;> (refine yL 47 (q_ldo 12 tNa3_LbB) fun v47 hv47 => ?_; cases hv47) <;> refine xL 48 q_eql ?_ <;> refine aL_end (nav ?_) <;> try dsimp only)
          (first | refine cCd ?_ ?_ | refine cC ?_ ?_) <;> intro hb48
          · first
            | exact Bool.noConfusion hb48
            | (
             refine nav ?_
             (refine aC_region ?_ <;> refine xL 49 q_move ?_ <;> refine xL 50 (q_fldo 12 tFl72_1_LdI) ?_ <;> (refine yL 51 (q_ldo 12 tNa3_LbB) fun v51 hv51 => ?_; cases hv51) <;> (refine aL_heap (clH h5 h6 h13 r4 (addSts (silent ((movesOf a s.toNat).take k)) (clAt a l i))) ⟨rfl, rfl, rfl, rfl, trivial⟩ ?_; refine aL_chF [] 52 (Tryz.call100) (aClosure1_e mv.dst h5 h6 h13 r4 (addSts (silent ((movesOf a s.toNat).take k)) (clAt a l i)) hol4 ho13 hr4) ?_; rintro v52 _ _ ⟨rfl, r5, hr5, rfl⟩; rw [sil_add hmv hb48]) <;> refine aL_end (nav ?_) <;> try dsimp only)
             (refine aC_region ?_ <;> refine xL 53 q_add ?_ <;> refine xL 42 q_move ?_ <;> refine aL_end (nav ?_) <;> try dsimp only)
             try rw [← silent_no hmv (by assumption)]
             first
              | (exact aN_again (
                  ⟨(k + 1, r5), lt_of_get hmv, hr5⟩
                  ) (by dsimp only; omega) ⟨rfl, rfl, rfl, rfl, rfl, rfl, rfl, rfl, trivial⟩ ⟨rfl, rfl, rfl, rfl, trivial⟩)
              | (exact aN_again (
                  ⟨(k + 1, r4), lt_of_get hmv, hr4⟩
                  ) (by dsimp only; omega) ⟨rfl, rfl, rfl, rfl, rfl, rfl, rfl, rfl, trivial⟩ ⟨rfl, rfl, rfl, rfl, trivial⟩))
          · first
            | exact Bool.noConfusion hb48
            | (
             refine nav ?_
             (refine aC_region ?_ <;> refine xL 53 q_add ?_ <;> refine xL 42 q_move ?_ <;> refine aL_end (nav ?_) <;> try dsimp only)
             try rw [← silent_no hmv (by assumption)]
             first
              | (exact aN_again (
                  ⟨(k + 1, r5), lt_of_get hmv, hr5⟩
                  ) (by dsimp only; omega) ⟨rfl, rfl, rfl, rfl, rfl, rfl, rfl, rfl, trivial⟩ ⟨rfl, rfl, rfl, rfl, trivial⟩)
              | (exact aN_again (
                  ⟨(k + 1, r4), lt_of_get hmv, hr4⟩
                  ) (by dsimp only; omega) ⟨rfl, rfl, rfl, rfl, rfl, rfl, rfl, rfl, trivial⟩ ⟨rfl, rfl, rfl, rfl, trivial⟩)))
       · first
         | exact Bool.noConfusion hb43
         | (
          rw [show addSts (silent ((movesOf a s.toNat).take k)) (clAt a l i) = clAt a l (i + 1) by rw [clAt, clStep, hs, List.take_of_length_le (by omega)]]
          refine nav ?_
          (refine aC_region ?_ <;> refine xL 29 q_move ?_ <;> refine xL 30 q_add ?_ <;> refine xL 10 q_assign ?_ <;> refine aL_end (nav ?_) <;> try dsimp only)
          refine aN_again (
           ⟨(i + 1, r4), by dsimp only; omega, hr4⟩
           ) (by dsimp only; omega) ⟨rfl, rfl, rfl, rfl, rfl, trivial⟩ ⟨rfl, rfl, rfl, rfl, trivial⟩))
    · first
      | exact Bool.noConfusion hb28
      | (
       have hE : clAt a l a.n.toNat = clAt a l i := clAt_end (by omega) hi
       refine nav ?_
       (refine aC_region ?_ <;> (refine yL 54 (q_ldo 1002 tNa22_LdI) fun v54 hv54 => ?_; cases hv54) <;> (rcases Nat.eq_zero_or_pos (clAt a l i).length with h0 | h0 <;> first | (refine s_sortI (zs := clAt a l i) 1004 sortInt_cD (Tryz.call101) ?_ h0) | (rw [List.eq_nil_of_length_eq_zero h0]; refine s_sortI0 1004 sortInt0_cD (Tryz.call101) ?_)) <;> refine aL_end (nav ?_) <;> try dsimp only) <;> (
        (refine aC_region ?_ <;> (refine yL 56 (q_ldo 1002 tNa22_LdI) fun v56 hv56 => ?_; cases hv56) <;> refine xL 4 q_assign ?_ <;> refine aL_end (nav ?_) <;> try dsimp only)
        refine ret_own 1004 (Tryz.results61) rfl rfl ?_
        unfold closL
        rw [hE, List.length_mergeSort]
        all_goals first
         | rfl
         | (rw [List.eq_nil_of_length_eq_zero h0, List.mergeSort_nil]))))
def bySym (c : Int) (ms : List Mv) : List Int := (ms.filter fun m => decide (m.sym = c)).map (·.dst)
theorem bySym_yes {c : Int} {ms : List Mv} {k : Nat} {m : Mv} (h : ms[k]? = some m) (hs : m.sym = c) : bySym c (ms.take (k + 1)) = bySym c (ms.take k) ++ [m.dst] := by
 unfold bySym; rw [take_snoc h, List.filter_append, List.map_append]; simp [hs]
theorem bySym_no {c : Int} {ms : List Mv} {k : Nat} {m : Mv} (h : ms[k]? = some m) (hs : ¬ m.sym = c) : bySym c (ms.take (k + 1)) = bySym c (ms.take k) := by
 unfold bySym; rw [take_snoc h, List.filter_append, List.map_append]; simp [hs]
def leads (a : Aut) (c : Int) (l : List Int) : List Int := l.flatMap fun s => bySym c (movesOf a s.toNat)
theorem leads_snoc (a : Aut) (c : Int) {l : List Int} {k : Nat} {s : Int} (h : l[k]? = some s) : leads a c (l.take (k + 1)) = leads a c (l.take k) ++ bySym c (movesOf a s.toNat) := by
 unfold leads; rw [take_snoc h, List.flatMap_append]; simp
theorem bySym_len (c : Int) (ms : List Mv) : (bySym c ms).length ≤ ms.length := by unfold bySym; rw [List.length_map]; exact List.length_filter_le _ _
theorem movesOf_len (a : Aut) (s : Nat) : (movesOf a s).length ≤ a.moves.length := List.length_filter_le _ _
theorem leads_len (a : Aut) (c : Int) : ∀ l : List Int, (leads a c l).length ≤ l.length * a.moves.length
 | [] => by simp [leads]
 | x :: l => by
   have h1 := leads_len a c l
   have h2 := bySym_len c (movesOf a x.toNat)
   have h3 := movesOf_len a x.toNat
   have h4 : leads a c (x :: l) = bySym c (movesOf a x.toNat) ++ leads a c l := rfl
   rw [h4, List.length_append, List.length_cons, Nat.succ_mul]
   omega
theorem leads_in {a : Aut} (h : MvIn a) (c : Int) (l : List Int) : ∀ t ∈ leads a c l, 0 ≤ t ∧ t < a.n := fun t ht => by
 unfold leads bySym movesOf at ht
 simp only [List.mem_flatMap, List.mem_map, List.mem_filter] at ht
 obtain ⟨s, _, m, ⟨⟨h1, _⟩, _⟩, rfl⟩ := ht
 exact h m h1
theorem own_snoc (e : Nat) (L : List Int) (x : Int) : PV.own e 1 (L.length + 1) (L.map pInt ++ [pInt x]) = .own e 1 (L ++ [x]).length ((L ++ [x]).map pInt) := by simp
def nextL (a : Aut) (c : Int) (l : List Int) : List Int := closL a (leads a c l)
set_option maxHeartbeats 2000000 in
theorem aNext_e (a : Aut) (l : List Int) (c : Int) (hn : a.n ≤ 2000) (hmv : a.moves.length ≤ 20000) (hm : MvIn a) (hl : ∀ s ∈ l, 0 ≤ s ∧ s < a.n) (hll : l.length ≤ 2000) : AF Tryz.prog 63 [pGr a, pInts l, pInt c] (· = .own 3 1 (nextL a c l).length ((nextL a c l).map pInt)) := by
 refine AF.of_body 44 Tryz.func63 rfl Tryz.ntmps63 (Nat.le_of_ble_eq_true rfl) ?_
 intro w0 M0 vs hl hv
 obtain ⟨v0, v1, v2, rfl⟩ := len3 hl
 obtain rfl := hv 2 _ _ rfl rfl
 clear hl hv
 refine nav ?_
 (refine aC_region ?_ <;> refine xL 6 q_assign ?_ <;> refine aL_end (nav ?_) <;> try dsimp only)
 (refine aC_region ?_ <;> refine xL 7 q_assign ?_ <;> refine aL_end (nav ?_) <;> try dsimp only)
 refine aC_ent (nilOwn 200 3 1 rfl) fun _ => ?_
 (refine aC_region ?_ <;> refine xL 12 q_move ?_ <;> refine xL 13 (q_len tSl22_LbB) ?_ <;> refine xL 14 q_move ?_ <;> refine aL_end (nav ?_) <;> try dsimp only)
 refine aC_loop (ι := { q : Nat × Value // q.1 ≤ l.length ∧ q.2.oneCell' = true }) (fun k => ⟨[(0, _, _), (2, _, _), (12, _, _), (13, _, _), (7, k.1.2, .val k.1.2), (14, .int .i64 k.1.1, pInt k.1.1)], [(200, k.1.2, .own 3 1 (leads a c (l.take k.1.1)).length ((leads a c (l.take k.1.1)).map pInt))]⟩) (fun k => l.length - k.1.1) ⟨(0, .slice none 0 0), Nat.zero_le _, rfl⟩ (fun a w H => H.weaken ⟨rfl, rfl, rfl, rfl, rfl, rfl, trivial⟩ ⟨rfl, trivial⟩) ?_
 rintro ⟨⟨k, r⟩, hk, hr⟩
 dsimp only
 dsimp only at hk hr
 have hlk := leads_len a c (l.take k)
 refine nav ?_
 (refine aC_region ?_ <;> refine xL 15 q_lss ?_ <;> refine aL_end (nav ?_) <;> try dsimp only)
 (first | refine cCd ?_ ?_ | refine cC ?_ ?_) <;> intro hb15
 · first
   | exact Bool.noConfusion hb15
   | (
    obtain ⟨s, hs⟩ := get_some (show k < l.length by omega)
    have hsr := hl s (List.mem_of_getElem? hs)
    have e1 := map_at (f := pInt) hs
    have e2 : ((List.range a.n.toNat).map fun s => pMvs (movesOf a s))[s.toNat * 1]? = some (pMvs (movesOf a s.toNat)) := by rw [Nat.mul_one, range_at (by omega)]
    have e2' : s.toNat < a.n.toNat := by omega
    have hml := movesOf_len a s.toNat
    have hlk2 : (leads a c (l.take k)).length ≤ 40000000 := by
     refine Nat.le_trans hlk ?_
     have h5 : (l.take k).length ≤ 2000 := by rw [List.length_take]; omega
     exact Nat.le_trans (Nat.mul_le_mul h5 hmv) (by decide)
    obtain ⟨A, hA⟩ : ∃ A, A = leads a c (l.take k) := ⟨_, rfl⟩
    rw [← hA] at hlk2 ⊢
    refine nav ?_
    (refine aC_region ?_ <;> refine xL 16 (q_idxN tSl22_LbB) ?_ <;> (refine yL 17 (q_ld tNa3_LbB) fun v17 hv17 => ?_; cases hv17) <;> refine xL 9 q_assign ?_ <;> refine aL_end (nav ?_) <;> try dsimp only)
    (refine aC_region ?_ <;> refine xL 18 q_move ?_ <;> refine xL 19 q_nilp ?_ <;> refine xL 20 (q_fld tFl125_1_LdL) ?_ <;> (refine yL 21 (q_ld tNa123_LdL) fun v21 hv21 => ?_; cases hv21) <;> refine xL 22 q_move ?_ <;> refine xL 23 (q_idx tSl123_LdL) ?_ <;> (refine yL 24 (q_ld tNa23_LdI) fun v24 hv24 => ?_; cases hv24) <;> refine xL 25 (q_len tSl23_LdI) ?_ <;> refine xL 26 q_move ?_ <;> refine aL_end (nav ?_) <;> try dsimp only)
    rw [show A = A ++ bySym c ((movesOf a s.toNat).take 0) from (List.append_nil A).symm]
    refine aC_loop (ι := { q : Nat × Value // q.1 ≤ (movesOf a s.toNat).length ∧ q.2.oneCell' = true }) (fun k => ⟨[(0, _, _), (2, _, _), (12, _, _), (13, _, _), (14, _, _), (24, _, _), (25, _, _), (7, k.1.2, .val k.1.2), (26, .int .i64 k.1.1, pInt k.1.1)], [(200, k.1.2, .own 3 1 (A ++ bySym c ((movesOf a s.toNat).take k.1.1)).length ((A ++ bySym c ((movesOf a s.toNat).take k.1.1)).map pInt))]⟩) (fun k => (movesOf a s.toNat).length - k.1.1) ⟨(0, r), Nat.zero_le _, hr⟩ (fun a w H => H.weaken ⟨rfl, rfl, rfl, rfl, rfl, rfl, rfl, rfl, rfl, trivial⟩ ⟨rfl, trivial⟩) ?_
    rintro ⟨⟨j, r4⟩, hj4, hr4⟩
    dsimp only
    dsimp only at hj4 hr4
    have hbl := bySym_len c ((movesOf a s.toNat).take j)
    rw [List.length_take] at hbl
    have hol : (A ++ bySym c ((movesOf a s.toNat).take j)).length ≤ 41000000 := by rw [List.length_append]; omega
    refine nav ?_
    (refine aC_region ?_ <;> refine xL 27 q_lss ?_ <;> refine aL_end (nav ?_) <;> try dsimp only)
    (first | refine cCd ?_ ?_ | refine cC ?_ ?_) <;> intro hb27
    · first
      | exact Bool.noConfusion hb27
      | (
       obtain ⟨mv, hmv2⟩ := get_some (show j < (movesOf a s.toNat).length by omega)
       have e3 := flat_drop cMv_len (movesOf a s.toNat) j mv hmv2
       have e4 := flat_fit cMv_len hmv2
       refine nav ?_
       (refine aC_region ?_ <;> refine xL 28 (q_idxN tSl23_LdI) ?_ <;> (refine yL 29 (q_lda tAgg72_LdI) fun v29 hv29 => ?_; cases hv29) <;> refine s_alloc [(.int .i64 0), (.int .i64 0), (.int .i64 0)] 3 11 tZr72_LdI fun h11 => ?_ <;> refine s_sta 11 tAgg72_LdI ?_ <;> refine aL_end (nav ?_) <;> try dsimp only)
       (refine aC_region ?_ <;> refine xL 30 (q_fldo 11 tFl72_2_LdI) ?_ <;> (refine yL 31 (q_ldo 11 tNa3_LbB) fun v31 hv31 => ?_; cases hv31) <;> refine xL 32 q_move ?_ <;> refine xL 33 q_eql ?_ <;> refine aL_end (nav ?_) <;> try dsimp only)
       (first | refine cCd ?_ ?_ | refine cC ?_ ?_) <;> intro hb33
       · first
         | exact Bool.noConfusion hb33
         | (
          refine nav ?_
          (refine aC_region ?_ <;> refine xL 34 q_move ?_ <;> refine xL 35 (q_fldo 11 tFl72_1_LdI) ?_ <;> (refine yL 36 (q_ldo 11 tNa3_LbB) fun v36 hv36 => ?_; cases hv36) <;> refine s_lit1 (kk := 1) 37 tEl22_LdI fun h37 ho37 => ?_ <;> (refine aL_heap [(200, _, _), (37, _, _)] ⟨rfl, rfl, trivial⟩ ?_; refine s_app 200 37 38 tEl22_LdI fun h38 ho38 => ?_; refine aL_ent (relabel (l := 38) 200 rfl rfl) fun _ => ?_; refine aL_heap [(200, h38, PV.own 3 1 (A ++ bySym c ((movesOf a s.toNat).take (j + 1))).length ((A ++ bySym c ((movesOf a s.toNat).take (j + 1))).map pInt))] ⟨(by rw [bySym_yes hmv2 hb33, ← List.append_assoc, ← own_snoc]; rfl), trivial⟩ ?_) <;> refine xL 7 q_assign ?_ <;> refine aL_end (nav ?_) <;> try dsimp only)
          (refine aC_region ?_ <;> refine xL 39 q_add ?_ <;> refine xL 26 q_move ?_ <;> refine aL_end (nav ?_) <;> try dsimp only)
          try rw [← bySym_no hmv2 (by assumption)]
          first
           | (exact aN_again (
               ⟨(j + 1, h38), lt_of_get hmv2, ho38⟩
               ) (by dsimp only; omega) ⟨rfl, rfl, rfl, rfl, rfl, rfl, rfl, rfl, rfl, trivial⟩ ⟨rfl, trivial⟩)
           | (exact aN_again (
               ⟨(j + 1, r4), lt_of_get hmv2, hr4⟩
               ) (by dsimp only; omega) ⟨rfl, rfl, rfl, rfl, rfl, rfl, rfl, rfl, rfl, trivial⟩ ⟨rfl, trivial⟩))
       · first
         | exact Bool.noConfusion hb33
         | (
          refine nav ?_
          (refine aC_region ?_ <;> refine xL 39 q_add ?_ <;> refine xL 26 q_move ?_ <;> refine aL_end (nav ?_) <;> try dsimp only)
          try rw [← bySym_no hmv2 (by assumption)]
          first
           | (exact aN_again (
               ⟨(j + 1, h38), lt_of_get hmv2, ho38⟩
               ) (by dsimp only; omega) ⟨rfl, rfl, rfl, rfl, rfl, rfl, rfl, rfl, rfl, trivial⟩ ⟨rfl, trivial⟩)
           | (exact aN_again (
               ⟨(j + 1, r4), lt_of_get hmv2, hr4⟩
               ) (by dsimp only; omega) ⟨rfl, rfl, rfl, rfl, rfl, rfl, rfl, rfl, rfl, trivial⟩ ⟨rfl, trivial⟩)))
    · first
      | exact Bool.noConfusion hb27
      | (
       rw [show A ++ bySym c ((movesOf a s.toNat).take j) = leads a c (l.take (k + 1)) by rw [List.take_of_length_le (by omega), leads_snoc a c hs, hA]]
       refine nav ?_
       (refine aC_region ?_ <;> refine xL 40 q_add ?_ <;> refine xL 14 q_move ?_ <;> refine aL_end (nav ?_) <;> try dsimp only)
       refine aN_again (
        ⟨(k + 1, r4), lt_of_get hs, hr4⟩
        ) (by dsimp only; omega) ⟨rfl, rfl, rfl, rfl, rfl, rfl, trivial⟩ ⟨rfl, trivial⟩))
 · first
   | exact Bool.noConfusion hb15
   | (
    refine nav ?_
    (refine aC_region ?_ <;> refine xL 41 q_move ?_ <;> refine xL 42 q_move ?_ <;> (refine aL_ent (En.freeze (l := 200) (t := 42) rfl rfl) fun _ => ?_; rw [share_ints _ _ _ rfl]; refine cO 43 (cA Tryz.call61 (aClosure_e a (leads a c (l.take k)) hn hm (leads_in hm c _))) fun v43 ho43 => ?_) <;> refine xL 6 q_assign ?_ <;> refine aL_end (nav ?_) <;> try dsimp only)
    refine ret_own 43 (Tryz.results63) rfl rfl ?_
    rw [List.take_of_length_le (by omega)]; rfl)
def Srt (l : List Int) : Prop := l.Pairwise (· < ·)
theorem srt_ext : ∀ {l m : List Int}, Srt l → Srt m → (∀ x, x ∈ l ↔ x ∈ m) → l = m
 | [], [], _, _, _ => rfl
 | [], y :: m, _, _, h => absurd ((h y).2 (List.mem_cons_self ..)) (by simp)
 | x :: l, [], _, _, h => absurd ((h x).1 (List.mem_cons_self ..)) (by simp)
 | x :: l, y :: m, hl, hm, h => by
   have hl' := List.pairwise_cons.1 hl
   have hm' := List.pairwise_cons.1 hm
   have hxy : x = y := by
    have h1 := (h x).1 (List.mem_cons_self ..)
    have h2 := (h y).2 (List.mem_cons_self ..)
    rcases List.mem_cons.1 h1 with e | h1
    · exact e
    · rcases List.mem_cons.1 h2 with e | h2
      · exact e.symm
      · have := hm'.1 x h1; have := hl'.1 y h2; omega
   subst hxy
   congr 1
   refine srt_ext hl'.2 hm'.2 fun z => ⟨fun hz => ?_, fun hz => ?_⟩
   · rcases List.mem_cons.1 ((h z).1 (List.mem_cons_of_mem _ hz)) with e | h1
     · have := hl'.1 z hz; omega
     · exact h1
   · rcases List.mem_cons.1 ((h z).2 (List.mem_cons_of_mem _ hz)) with e | h1
     · have := hm'.1 z hz; omega
     · exact h1
theorem Srt.filter {l : List Int} (h : Srt l) (p : Int → Bool) : Srt (l.filter p) := List.Pairwise.filter p h
inductive Rch (a : Aut) (l : List Int) : Int → Prop
 | base {s : Int} (h : s ∈ l) : Rch a l s
 | step {s : Int} {m : Mv} (h : Rch a l s) (hm : m ∈ a.moves) (hs : m.src = s) (hc : m.sym = -1) : Rch a l m.dst
theorem addSt_mem {out : List Int} {s t : Int} : t ∈ addSt out s ↔ t ∈ out ∨ t = s := by
 unfold addSt; split
 · rename_i h
   constructor
   · exact .inl
   · rintro (h1 | rfl)
     · exact h1
     · simpa using h
 · simp
theorem addSts_mem : ∀ (l : List Int) {out : List Int} {t : Int}, t ∈ addSts l out ↔ t ∈ out ∨ t ∈ l
 | [], out, t => by simp [addSts]
 | x :: l, out, t => by
   show t ∈ addSts l (addSt out x) ↔ _
   rw [addSts_mem l, addSt_mem, List.mem_cons]; exact or_assoc
theorem addSt_pre (out : List Int) (s : Int) : out <+: addSt out s := by
 unfold addSt; split
 · exact List.prefix_refl _
 · exact List.prefix_append _ _
theorem addSts_pre : ∀ (l out : List Int), out <+: addSts l out
 | [], out => List.prefix_refl _
 | x :: l, out => (addSt_pre out x).trans (addSts_pre l (addSt out x))
theorem clAt_pre1 (a : Aut) (l : List Int) (i : Nat) : clAt a l i <+: clAt a l (i + 1) := by
 rw [clAt, clStep]; split
 · exact addSts_pre _ _
 · exact List.prefix_refl _
theorem clAt_pre (a : Aut) (l : List Int) (i : Nat) : ∀ j, clAt a l i <+: clAt a l (i + j)
 | 0 => List.prefix_refl _
 | j + 1 => (clAt_pre a l i j).trans (clAt_pre1 a l (i + j))
theorem pre_get {l m : List Int} (h : l <+: m) {i : Nat} {x : Int} (hx : l[i]? = some x) : m[i]? = some x := by
 obtain ⟨r, rfl⟩ := h
 rw [List.getElem?_append_left (lt_of_get hx)]; exact hx
theorem silent_mem {a : Aut} {s : Int} (h0 : 0 ≤ s) {t : Int} : t ∈ silent (movesOf a s.toNat) ↔ ∃ m ∈ a.moves, m.src = s ∧ m.sym = -1 ∧ m.dst = t := by
 unfold silent movesOf
 simp only [List.mem_map, List.mem_filter, decide_eq_true_eq]
 constructor
 · rintro ⟨m, ⟨⟨h1, h2⟩, h3⟩, h4⟩
   exact ⟨m, h1, by omega, h3, h4⟩
 · rintro ⟨m, h1, h2, h3, h4⟩
   exact ⟨m, ⟨⟨h1, by omega⟩, h3⟩, h4⟩
theorem clAt_sound {a : Aut} {l : List Int} (h : MvIn a) (hl : ∀ s ∈ l, 0 ≤ s ∧ s < a.n) : ∀ i t, t ∈ clAt a l i → Rch a l t
 | 0, t, ht => by
   rw [clAt, addSts_mem] at ht
   exact .base (by simpa using ht)
 | i + 1, t, ht => by
   rw [clAt, clStep] at ht
   split at ht
   · rename_i s hs
     rcases (addSts_mem _).1 ht with h1 | h1
     · exact clAt_sound h hl i t h1
     · have hsm := List.mem_of_getElem? hs
       obtain ⟨m, h2, h3, h4, rfl⟩ := (silent_mem ((clAt_ok h hl i).2 s hsm).1).1 h1
       exact .step (clAt_sound h hl i s hsm) h2 h3 h4
   · exact clAt_sound h hl i t ht
theorem clAt_full {a : Aut} {l : List Int} (h : MvIn a) (hl : ∀ s ∈ l, 0 ≤ s ∧ s < a.n) {t : Int} (ht : Rch a l t) : t ∈ clAt a l a.n.toNat := by
 induction ht with
 | base h1 =>
   have h2 : clAt a l 0 <+: clAt a l (0 + a.n.toNat) := clAt_pre a l 0 a.n.toNat
   rw [Nat.zero_add] at h2
   refine h2.subset ?_
   rw [clAt, addSts_mem]; exact .inr h1
 | @step s m h1 hm hs hc ih =>
   obtain ⟨i, hi⟩ := List.getElem?_of_mem ih
   have hil := lt_of_get hi
   have hok := clAt_ok h hl a.n.toNat
   have hlen := hok.len
   have h3 : i < (clAt a l i).length := by
    rcases Nat.lt_or_ge i (clAt a l i).length with h4 | h4
    · exact h4
    · have h5 := clAt_end h4 (show i ≤ a.n.toNat by omega)
      rw [h5] at hil; omega
   have h4 : (clAt a l i)[i]? = some s := by
    have h5 := clAt_pre a l i (a.n.toNat - i)
    rw [show i + (a.n.toNat - i) = a.n.toNat by omega] at h5
    obtain ⟨x, hx⟩ := get_some h3
    rw [hx, ← hi]; exact (pre_get h5 hx).symm
   have h5 : m.dst ∈ clAt a l (i + 1) := by
    rw [clAt, clStep, h4]
    refine (addSts_mem _).2 (.inr ((silent_mem (hok.2 s ih).1).2 ⟨m, hm, hs, hc, rfl⟩))
   have h6 := clAt_pre a l (i + 1) (a.n.toNat - (i + 1))
   rw [show i + 1 + (a.n.toNat - (i + 1)) = a.n.toNat by omega] at h6
   exact h6.subset h5
theorem closL_mem {a : Aut} {l : List Int} (h : MvIn a) (hl : ∀ s ∈ l, 0 ≤ s ∧ s < a.n) (t : Int) : t ∈ closL a l ↔ Rch a l t := by
 unfold closL
 rw [List.mem_mergeSort]
 exact ⟨clAt_sound h hl _ t, clAt_full h hl⟩
theorem closL_srt {a : Aut} {l : List Int} (h : MvIn a) (hl : ∀ s ∈ l, 0 ≤ s ∧ s < a.n) : Srt (closL a l) := by
 have h1 : (closL a l).Pairwise (fun x y => decide (x ≤ y) = true) := List.pairwise_mergeSort (fun a b c h1 h2 => by simp only [decide_eq_true_eq] at *; omega) (fun a b => by simp only [Bool.or_eq_true, decide_eq_true_eq]; omega) _
 have h2 : (closL a l).Nodup := (List.mergeSort_perm _ _).nodup_iff.2 (clAt_ok h hl _).1
 unfold Srt
 exact (h1.and h2).imp fun {x y} ⟨h3, h4⟩ => by simp only [decide_eq_true_eq] at h3; omega
theorem rch_in {a : Aut} {l : List Int} (h : MvIn a) (hl : ∀ s ∈ l, 0 ≤ s ∧ s < a.n) {t : Int} (ht : Rch a l t) : 0 ≤ t ∧ t < a.n := by
 cases ht with
 | base h1 => exact hl t h1
 | step _ hm _ _ => exact h _ hm
theorem closL_in {a : Aut} {l : List Int} (h : MvIn a) (hl : ∀ s ∈ l, 0 ≤ s ∧ s < a.n) : ∀ t ∈ closL a l, 0 ≤ t ∧ t < a.n := fun t ht => rch_in h hl ((closL_mem h hl t).1 ht)
theorem closL_len {a : Aut} {l : List Int} (h : MvIn a) (hl : ∀ s ∈ l, 0 ≤ s ∧ s < a.n) : (closL a l).length ≤ a.n.toNat := by
 unfold closL
 rw [List.length_mergeSort]; exact (clAt_ok h hl _).len
theorem leads_mem {a : Aut} {c : Int} {l : List Int} (hl : ∀ s ∈ l, 0 ≤ s ∧ s < a.n) {t : Int} : t ∈ leads a c l ↔ ∃ m ∈ a.moves, m.src ∈ l ∧ m.sym = c ∧ m.dst = t := by
 unfold leads bySym movesOf
 simp only [List.mem_flatMap, List.mem_map, List.mem_filter, decide_eq_true_eq]
 constructor
 · rintro ⟨s, hs, m, ⟨⟨h1, h2⟩, h3⟩, h4⟩
   have := hl s hs
   exact ⟨m, h1, by rw [h2, show ((s.toNat : Nat) : Int) = s by omega]; exact hs, h3, h4⟩
 · rintro ⟨m, h1, h2, h3, h4⟩
   have := hl _ h2
   exact ⟨m.src, h2, m, ⟨⟨h1, by omega⟩, h3⟩, h4⟩
def stepD (m : Mv) (d : Int) : Int := if 0 ≤ m.sym then d + 1 else d
def relax (far : List Int) (m : Mv) : List Int :=
 match far[m.dst.toNat]?, far[m.src.toNat]? with
 | some d, some e => if 0 ≤ d ∧ (e < 0 ∨ stepD m d < e) then far.set m.src.toNat (stepD m d) else far
 | _, _ => far
def passF (ms : List Mv) (far : List Int) : List Int := ms.foldl relax far
def farInit (a : Aut) : List Int := (List.range a.n.toNat).map fun s => if finB a (s : Nat) then 0 else -1
def farAt (a : Aut) : Nat → List Int
 | 0 => farInit a
 | k + 1 => passF a.moves (farAt a k)
def farL (a : Aut) : List Int := farAt a (a.n.toNat * a.n.toNat + 1)
def cntD (far : List Int) : Nat := far.countP fun d => decide (0 ≤ d)
def wgt (n : Nat) (d : Int) : Nat := if 0 ≤ d then d.toNat else n
def sumF (n : Nat) (far : List Int) : Nat := (far.map (wgt n)).sum
structure FarOk (n : Nat) (far : List Int) : Prop where
 len : far.length = n
 lo : ∀ d ∈ far, -1 ≤ d
 hi : ∀ d ∈ far, d < cntD far
theorem cntD_le (far : List Int) : cntD far ≤ far.length := List.countP_le_length
theorem cntD_set : ∀ (far : List Int) (i : Nat) (e d : Int), far[i]? = some e → 0 ≤ d → cntD (far.set i d) = cntD far + (if 0 ≤ e then 0 else 1)
 | [], i, e, d, h, _ => by simp at h
 | x :: far, 0, e, d, h, hd => by
   simp only [List.getElem?_cons_zero, Option.some.injEq] at h
   subst h
   unfold cntD
   rw [List.set_cons_zero, List.countP_cons, List.countP_cons, decide_eq_true hd]
   by_cases hx : 0 ≤ x <;> simp [hx]
 | x :: far, i + 1, e, d, h, hd => by
   simp only [List.getElem?_cons_succ] at h
   have := cntD_set far i e d h hd
   unfold cntD at this ⊢
   rw [List.set_cons_succ, List.countP_cons, List.countP_cons, this]; omega
theorem sumF_set : ∀ (n : Nat) (far : List Int) (i : Nat) (e d : Int), far[i]? = some e → sumF n (far.set i d) + wgt n e = sumF n far + wgt n d
 | n, [], i, e, d, h => by simp at h
 | n, x :: far, 0, e, d, h => by
   simp only [List.getElem?_cons_zero, Option.some.injEq] at h
   subst h
   unfold sumF
   rw [List.set_cons_zero, List.map_cons, List.map_cons, List.sum_cons, List.sum_cons]; omega
 | n, x :: far, i + 1, e, d, h => by
   simp only [List.getElem?_cons_succ] at h
   have := sumF_set n far i e d h
   unfold sumF at this ⊢
   rw [List.set_cons_succ, List.map_cons, List.map_cons, List.sum_cons, List.sum_cons]; omega
theorem stepD_le (m : Mv) (d : Int) : d ≤ stepD m d ∧ stepD m d ≤ d + 1 := by unfold stepD; split <;> omega
theorem relax_set {n : Nat} {far : List Int} (h : FarOk n far) {m : Mv} {d e : Int} (hd : far[m.dst.toNat]? = some d) (he : far[m.src.toNat]? = some e) (h0 : 0 ≤ d) (h1 : e < 0 ∨ stepD m d < e) :
 FarOk n (far.set m.src.toNat (stepD m d)) ∧ sumF n (far.set m.src.toNat (stepD m d)) < sumF n far := by
 have hs := stepD_le m d
 have hdc := h.hi d (List.mem_of_getElem? hd)
 have hec := h.hi e (List.mem_of_getElem? he)
 have hc := cntD_set far m.src.toNat e (stepD m d) he (by omega)
 have hsum := sumF_set n far m.src.toNat e (stepD m d) he
 have hcl := cntD_le (far.set m.src.toNat (stepD m d))
 rw [List.length_set, h.len] at hcl
 refine ⟨⟨by rw [List.length_set]; exact h.len, fun x hx => ?_, fun x hx => ?_⟩, ?_⟩
 · rcases List.mem_or_eq_of_mem_set hx with h2 | rfl
   · exact h.lo x h2
   · omega
 · rw [hc]
   rcases List.mem_or_eq_of_mem_set hx with h2 | rfl
   · have := h.hi x h2; split <;> omega
   · split <;> omega
 · unfold wgt at hsum
   rw [if_pos (show 0 ≤ stepD m d by omega)] at hsum
   rcases h1 with h1 | h1
   · rw [if_neg (by omega)] at hsum hc; omega
   · rw [if_pos (by omega)] at hsum; omega
theorem relax_cases {n : Nat} {far : List Int} (h : FarOk n far) (m : Mv) : FarOk n (relax far m) ∧ (relax far m = far ∨ sumF n (relax far m) < sumF n far) := by
 unfold relax
 split
 · rename_i d e hd he
   split
   · rename_i h1
     have := relax_set h hd he h1.1 h1.2
     exact ⟨this.1, .inr this.2⟩
   · exact ⟨h, .inl rfl⟩
 · exact ⟨h, .inl rfl⟩
theorem passF_cases {n : Nat} : ∀ (ms : List Mv) {far : List Int}, FarOk n far → FarOk n (passF ms far) ∧ (passF ms far = far ∨ sumF n (passF ms far) < sumF n far)
 | [], far, h => ⟨h, .inl rfl⟩
 | m :: ms, far, h => by
   obtain ⟨h1, h2⟩ := relax_cases h m
   obtain ⟨h3, h4⟩ := passF_cases ms h1
   refine ⟨h3, ?_⟩
   show passF ms (relax far m) = far ∨ _
   rcases h2 with h2 | h2
   · rw [h2] at h4
     show passF ms (relax far m) = far ∨ sumF n (passF ms (relax far m)) < sumF n far
     rw [h2]; exact h4
   · right
     show sumF n (passF ms (relax far m)) < sumF n far
     rcases h4 with h4 | h4
     · rw [h4]; exact h2
     · omega
theorem passF_still {n : Nat} : ∀ (ms : List Mv) {far : List Int}, FarOk n far → passF ms far = far → ∀ m ∈ ms, relax far m = far
 | [], far, h, _, m, hm => by simp at hm
 | x :: ms, far, h, he, m, hm => by
   obtain ⟨h1, h2⟩ := relax_cases h x
   obtain ⟨h3, h4⟩ := passF_cases ms h1
   have he' : passF ms (relax far x) = far := he
   have hx : relax far x = far := by
    rcases h2 with h2 | h2
    · exact h2
    · rcases h4 with h4 | h4
      · rw [he'] at h4; exact h4.symm
      · rw [he'] at h4; omega
   rcases List.mem_cons.1 hm with rfl | hm
   · exact hx
   · rw [hx] at he'; exact passF_still ms h he' m hm
theorem farInit_at {a : Aut} {s : Nat} (h : s < a.n.toNat) : (farInit a)[s]? = some (if finB a (s : Nat) then 0 else -1) := by
 unfold farInit; rw [List.getElem?_map, List.getElem?_range h]; rfl
theorem farInit_ok (a : Aut) : FarOk a.n.toNat (farInit a) := by
 refine ⟨by unfold farInit; simp, fun d hd => ?_, fun d hd => ?_⟩
 · unfold farInit at hd
   obtain ⟨s, _, rfl⟩ := List.mem_map.1 hd
   split <;> omega
 · have hd2 := hd
   unfold farInit at hd2
   obtain ⟨s, _, hs⟩ := List.mem_map.1 hd2
   by_cases h0 : 0 ≤ d
   · have h1 : 0 < cntD (farInit a) := List.countP_pos_iff.2 ⟨d, hd, decide_eq_true h0⟩
     split at hs <;> omega
   · omega
theorem farAt_ok (a : Aut) : ∀ k, FarOk a.n.toNat (farAt a k)
 | 0 => farInit_ok a
 | k + 1 => (passF_cases a.moves (farAt_ok a k)).1
theorem sumF_le {n : Nat} {far : List Int} (h : FarOk n far) : sumF n far ≤ n * n := by
 have hc := cntD_le far
 rw [h.len] at hc
 have key : ∀ (l : List Int), (∀ d ∈ l, d < (n : Int)) → (l.map (wgt n)).sum ≤ l.length * n := fun l => by
  induction l with
  | nil => intro _; simp
  | cons x l ih =>
    intro hx
    have h1 := ih fun d hd => hx d (List.mem_cons_of_mem _ hd)
    have h2 := hx x (List.mem_cons_self ..)
    rw [List.map_cons, List.sum_cons, List.length_cons, Nat.succ_mul]
    have h3 : wgt n x ≤ n := by unfold wgt; split <;> omega
    omega
 have := key far fun d hd => by have := h.hi d hd; omega
 rw [h.len] at this; exact this
theorem farAt_stop {a : Aut} {k : Nat} (h : passF a.moves (farAt a k) = farAt a k) : ∀ j, farAt a (k + j) = farAt a k
 | 0 => rfl
 | j + 1 => by rw [← Nat.add_assoc, farAt, farAt_stop h j, h]
theorem farAt_fix (a : Aut) : passF a.moves (farL a) = farL a := by
 have key : ∀ k, (∃ j, j ≤ k ∧ passF a.moves (farAt a j) = farAt a j) ∨ sumF a.n.toNat (farAt a k) + k ≤ a.n.toNat * a.n.toNat := fun k => by
  induction k with
  | zero => exact .inr (sumF_le (farAt_ok a 0))
  | succ k ih =>
    rcases ih with ⟨j, h1, h2⟩ | h
    · exact .inl ⟨j, by omega, h2⟩
    · rcases (passF_cases a.moves (farAt_ok a k)).2 with h1 | h1
      · exact .inl ⟨k, by omega, h1⟩
      · right; rw [farAt]; omega
 rcases key (a.n.toNat * a.n.toNat + 1) with ⟨j, h1, h2⟩ | h
 · have h3 := farAt_stop h2 (a.n.toNat * a.n.toNat + 1 - j)
   rw [show j + (a.n.toNat * a.n.toNat + 1 - j) = a.n.toNat * a.n.toNat + 1 by omega] at h3
   unfold farL; rw [h3, h2]
 · omega
theorem farL_eq {a : Aut} {k : Nat} (h : passF a.moves (farAt a k) = farAt a k) : farL a = farAt a k := by
 have h1 := farAt_fix a
 unfold farL at h1 ⊢
 rcases Nat.le_total k (a.n.toNat * a.n.toNat + 1) with h2 | h2
 · have h3 := farAt_stop h (a.n.toNat * a.n.toNat + 1 - k)
   rwa [show k + (a.n.toNat * a.n.toNat + 1 - k) = a.n.toNat * a.n.toNat + 1 by omega] at h3
 · have h3 := farAt_stop h1 (k - (a.n.toNat * a.n.toNat + 1))
   rw [show a.n.toNat * a.n.toNat + 1 + (k - (a.n.toNat * a.n.toNat + 1)) = k by omega] at h3
   exact h3.symm
theorem farL_ok (a : Aut) : FarOk a.n.toNat (farL a) := farAt_ok a _
theorem farL_tri {a : Aut} {m : Mv} (hm : m ∈ a.moves) {d e : Int} (hd : (farL a)[m.dst.toNat]? = some d) (he : (farL a)[m.src.toNat]? = some e) (h0 : 0 ≤ d) : 0 ≤ e ∧ e ≤ stepD m d := by
 have h1 := passF_still a.moves (farL_ok a) (farAt_fix a) m hm
 unfold relax at h1
 rw [hd, he] at h1
 dsimp only at h1
 split at h1
 · rename_i h2
   have h3 := relax_set (farL_ok a) hd he h2.1 h2.2
   rw [h1] at h3
   omega
 · rename_i h2
   omega
abbrev Pf := List Int × List Int
def accB (a : Aut) (S : List Int) : Bool := S.any (finB a)
def InS (a : Aut) (S : List Int) : Prop := ∀ s ∈ S, 0 ≤ s ∧ s < a.n
def kidP (a : Aut) (n : Int) (p : Pf) (c : Nat) : List Pf := if (nearL (nextL a c p.2) (farL a) (n - 1)).length = 0 then [] else [(p.1 ++ [(c : Int)], nearL (nextL a c p.2) (farL a) (n - 1))]
def kidsP (a : Aut) (n : Int) (p : Pf) : List Pf := (List.range a.syms.toNat).flatMap (kidP a n p)
def lvP (a : Aut) (n : Nat) : Nat → List Pf
 | 0 => [([], nearL (closL a a.start) (farL a) n)]
 | k + 1 => (lvP a n k).flatMap (kidsP a ((n : Int) - k))
def outP (a : Aut) (l : List Pf) : List (List Int) := (l.filter fun p => accB a p.2).map (·.1)
def sumP (a : Aut) (n k : Nat) : List (List Int) := (List.range k).flatMap fun i => outP a (lvP a n i)
def bigP (a : Aut) (n : Nat) : Prop := (∃ k, k ≤ n ∧ 2000 < (lvP a n (k + 1)).length) ∨ 2000 < (sumP a n (n + 1)).length
def bestF (far : List Int) (b s : Int) : Int := match far[s.toNat]? with
 | some d => if 0 ≤ d ∧ (b < 0 ∨ d < b) then d else b
 | none => b
def leastL (far S : List Int) : Int := S.foldl (bestF far) (-1)
def kidR (a : Aut) (n : Int) (p : Pf) (c : Nat) : List Pf := if 0 ≤ leastL (farL a) (nextL a c p.2) ∧ leastL (farL a) (nextL a c p.2) ≤ n - 1 then [(p.1 ++ [(c : Int)], nextL a c p.2)] else []
def kidsR (a : Aut) (n : Int) (p : Pf) : List Pf := (List.range a.syms.toNat).flatMap (kidR a n p)
def lvR (a : Aut) (n : Nat) : Nat → List Pf
 | 0 => [([], closL a a.start)]
 | k + 1 => (lvR a n k).flatMap (kidsR a ((n : Int) - k))
theorem far_some {a : Aut} {s : Int} (h : 0 ≤ s ∧ s < a.n) : ∃ d, (farL a)[s.toNat]? = some d := get_some (by rw [(farL_ok a).len]; omega)
theorem near_mem {a : Aut} {S : List Int} (hS : InS a S) {n : Int} {s : Int} : s ∈ nearL S (farL a) n ↔ s ∈ S ∧ ∃ d, (farL a)[s.toNat]? = some d ∧ 0 ≤ d ∧ d ≤ n := by
 unfold nearL farB
 rw [List.mem_filter]
 constructor
 · rintro ⟨h1, h2⟩
   obtain ⟨d, hd⟩ := far_some (hS s h1)
   rw [hd] at h2
   simp only [Bool.not_eq_true', Bool.or_eq_false_iff, decide_eq_false_iff_not] at h2
   exact ⟨h1, d, hd, by omega, by omega⟩
 · rintro ⟨h1, d, hd, h2, h3⟩
   rw [hd]
   simp only [Bool.not_eq_true', Bool.or_eq_false_iff, decide_eq_false_iff_not]
   exact ⟨h1, by omega, by omega⟩
theorem near_in {a : Aut} {S : List Int} (hS : InS a S) (far : List Int) (n : Int) : InS a (nearL S far n) := fun s hs => hS s ((List.mem_filter.1 hs).1)
theorem next_in {a : Aut} (h : MvIn a) (c : Int) (S : List Int) : InS a (nextL a c S) := closL_in h (leads_in h c S)
theorem next_mem {a : Aut} (h : MvIn a) {c : Int} {S : List Int} {t : Int} : t ∈ nextL a c S ↔ Rch a (leads a c S) t := closL_mem h (leads_in h c S) t
theorem near_srt {a : Aut} {S : List Int} (h : Srt S) (far : List Int) (n : Int) : Srt (nearL S far n) := h.filter _
theorem near_next {a : Aut} (h : MvIn a) {S : List Int} (hS : InS a S) {c : Int} (hc : 0 ≤ c) (n : Int) : nearL (nextL a c (nearL S (farL a) n)) (farL a) (n - 1) = nearL (nextL a c S) (farL a) (n - 1) := by
 refine srt_ext (near_srt (a := a) (closL_srt h (leads_in h c _)) _ _) (near_srt (a := a) (closL_srt h (leads_in h c _)) _ _) fun t => ?_
 rw [near_mem (next_in h c _), near_mem (next_in h c _), next_mem h, next_mem h]
 constructor
 · rintro ⟨h1, h2⟩
   refine ⟨?_, h2⟩
   clear h2
   induction h1 with
   | base h3 =>
     obtain ⟨m, h4, h5, h6, h7⟩ := (leads_mem (near_in hS _ _)).1 h3
     exact .base ((leads_mem hS).2 ⟨m, h4, (List.mem_filter.1 h5).1, h6, h7⟩)
   | step _ hm hs hc ih => exact .step ih hm hs hc
 · rintro ⟨h1, d, hd, h2, h3⟩
   refine ⟨?_, d, hd, h2, h3⟩
   induction h1 generalizing d with
   | base h3' =>
     obtain ⟨m, h4, h5, h6, rfl⟩ := (leads_mem hS).1 h3'
     obtain ⟨e, he⟩ := far_some (hS _ h5)
     have h8 := farL_tri h4 hd he h2
     unfold stepD at h8
     rw [if_pos (by omega)] at h8
     exact .base ((leads_mem (near_in hS _ _)).2 ⟨m, h4, (near_mem hS).2 ⟨h5, e, he, h8.1, by omega⟩, h6, rfl⟩)
   | @step s m hr hm hs hcc ih =>
     subst hs
     obtain ⟨e, he⟩ := far_some (rch_in h (leads_in h c _) hr)
     have h8 := farL_tri hm hd he h2
     unfold stepD at h8
     rw [if_neg (by omega)] at h8
     exact .step (ih e he h8.1 (by omega)) hm rfl hcc
theorem least_spec (far : List Int) : ∀ (S : List Int) (b : Int), -1 ≤ b →
 (S.foldl (bestF far) b = b ∨ ∃ s ∈ S, far[s.toNat]? = some (S.foldl (bestF far) b) ∧ 0 ≤ S.foldl (bestF far) b) ∧
 (0 ≤ b → 0 ≤ S.foldl (bestF far) b ∧ S.foldl (bestF far) b ≤ b) ∧
 (∀ s ∈ S, ∀ d, far[s.toNat]? = some d → 0 ≤ d → 0 ≤ S.foldl (bestF far) b ∧ S.foldl (bestF far) b ≤ d)
 | [], b, _ => ⟨.inl rfl, fun h => ⟨h, by simp⟩, fun s hs => by simp at hs⟩
 | x :: S, b, hb => by
   have hb' : -1 ≤ bestF far b x ∧ (bestF far b x = b ∨ (far[x.toNat]? = some (bestF far b x) ∧ 0 ≤ bestF far b x)) ∧ (0 ≤ b → 0 ≤ bestF far b x ∧ bestF far b x ≤ b) ∧ (∀ d, far[x.toNat]? = some d → 0 ≤ d → 0 ≤ bestF far b x ∧ bestF far b x ≤ d) := by
    unfold bestF
    split
    · rename_i d hd
      split
      · rename_i h1
        refine ⟨by omega, .inr ⟨by first | exact hd | rfl, h1.1⟩, fun h => by omega, fun d' hd' h => ?_⟩
        first
         | (rw [hd] at hd'; cases hd'; omega)
         | (cases hd'; omega)
      · rename_i h1
        refine ⟨hb, .inl rfl, fun h => by omega, fun d' hd' h => ?_⟩
        first
         | (rw [hd] at hd'; cases hd'; omega)
         | (cases hd'; omega)
    · rename_i hd
      refine ⟨hb, .inl rfl, fun h => by omega, fun d' hd' h => ?_⟩
      first
       | (rw [hd] at hd'; cases hd')
       | cases hd'
   obtain ⟨h1, h2, h3⟩ := least_spec far S (bestF far b x) hb'.1
   simp only [List.foldl_cons]
   refine ⟨?_, fun h => ?_, fun s hs d hd h => ?_⟩
   · rcases h1 with h1 | ⟨s, hs, h4⟩
     · rcases hb'.2.1 with h5 | h5
       · exact .inl (by rw [h1, h5])
       · exact .inr ⟨x, List.mem_cons_self .., by rw [h1]; exact h5⟩
     · exact .inr ⟨s, List.mem_cons_of_mem _ hs, h4⟩
   · have h4 := hb'.2.2.1 h
     have h5 := h2 h4.1
     omega
   · rcases List.mem_cons.1 hs with rfl | hs
     · have h4 := hb'.2.2.2 d hd h
       have h5 := h2 h4.1
       omega
     · exact h3 s hs d hd h
theorem least_near {a : Aut} {S : List Int} (hS : InS a S) (n : Int) : (nearL S (farL a) n).length = 0 ↔ ¬ (0 ≤ leastL (farL a) S ∧ leastL (farL a) S ≤ n) := by
 obtain ⟨h1, _, h3⟩ := least_spec (farL a) S (-1) (by omega)
 unfold leastL
 constructor
 · rintro h ⟨h4, h5⟩
   rcases h1 with h1 | ⟨s, hs, h6, h7⟩
   · omega
   · have : s ∈ nearL S (farL a) n := (near_mem hS).2 ⟨hs, _, h6, h7, h5⟩
     rw [List.eq_nil_of_length_eq_zero h] at this
     simp at this
 · intro h
   rcases Nat.eq_zero_or_pos (nearL S (farL a) n).length with h4 | h4
   · exact h4
   · exfalso
     obtain ⟨s, hs⟩ := List.exists_mem_of_length_pos h4
     obtain ⟨h5, d, hd, h6, h7⟩ := (near_mem hS).1 hs
     have := h3 s h5 d hd h6
     exact h ⟨this.1, by omega⟩
def prune (a : Aut) (n : Int) (p : Pf) : Pf := (p.1, nearL p.2 (farL a) n)
theorem kid_same {a : Aut} (h : MvIn a) {p : Pf} (hp : InS a p.2) (n : Int) (c : Nat) : kidP a n (prune a n p) c = (kidR a n p c).map (prune a (n - 1)) := by
 unfold kidP kidR prune
 dsimp only
 rw [near_next h hp (by omega)]
 have h1 := least_near (next_in h c p.2) (n - 1)
 by_cases h2 : (nearL (nextL a c p.2) (farL a) (n - 1)).length = 0
 · rw [if_pos h2, if_neg (h1.1 h2)]; rfl
 · rw [if_neg h2, if_pos (by rcases Classical.em (0 ≤ leastL (farL a) (nextL a c p.2) ∧ leastL (farL a) (nextL a c p.2) ≤ n - 1) with h3 | h3; exact h3; exact absurd (h1.2 h3) h2)]; rfl
theorem lvR_in {a : Aut} (h : MvIn a) (hs : InS a a.start) (n : Nat) : ∀ k, ∀ p ∈ lvR a n k, InS a p.2
 | 0, p, hp => by
   simp only [lvR, List.mem_singleton] at hp
   subst hp
   exact closL_in h hs
 | k + 1, p, hp => by
   rw [lvR] at hp
   obtain ⟨q, _, hq⟩ := List.mem_flatMap.1 hp
   obtain ⟨c, _, hc⟩ := List.mem_flatMap.1 hq
   unfold kidR at hc
   split at hc
   · simp only [List.mem_singleton] at hc
     subst hc
     exact next_in h c _
   · simp at hc
theorem flatMap_ext {α β : Type} {l : List α} {f g : α → List β} (h : ∀ x ∈ l, f x = g x) : l.flatMap f = l.flatMap g := by
 induction l with
 | nil => rfl
 | cons x l ih => rw [List.flatMap_cons, List.flatMap_cons, h x (List.mem_cons_self ..), ih fun y hy => h y (List.mem_cons_of_mem _ hy)]
theorem lv_same {a : Aut} (h : MvIn a) (hs : InS a a.start) (n : Nat) : ∀ k, lvP a n k = (lvR a n k).map (prune a ((n : Int) - k))
 | 0 => by
   show [_] = [_]
   unfold prune
   simp
 | k + 1 => by
   rw [lvP, lvR, lv_same h hs n k, List.flatMap_map, List.map_flatMap]
   refine flatMap_ext fun p hp => ?_
   unfold kidsP kidsR
   rw [List.map_flatMap]
   refine flatMap_ext fun c _ => ?_
   rw [kid_same h (lvR_in h hs n k p hp)]
   congr 2
   omega
theorem sumP_snoc (a : Aut) (n k : Nat) : sumP a n (k + 1) = sumP a n k ++ outP a (lvP a n k) := by
 unfold sumP; rw [List.range_succ, List.flatMap_append]; simp
theorem sumP_mono (a : Aut) (n : Nat) {j k : Nat} (h : j ≤ k) : (sumP a n j).length ≤ (sumP a n k).length := by
 obtain ⟨i, rfl⟩ : ∃ i, k = j + i := ⟨k - j, by omega⟩
 clear h
 induction i with
 | zero => exact Nat.le_refl _
 | succ i ih => rw [← Nat.add_assoc, sumP_snoc, List.length_append]; omega
theorem outP_take {a : Aut} {l : List Pf} {i : Nat} {p : Pf} (h : l[i]? = some p) : outP a (l.take (i + 1)) = outP a (l.take i) ++ (if accB a p.2 then [p.1] else []) := by
 unfold outP
 rw [take_snoc h, List.filter_append, List.map_append]
 congr 1
 cases hb : accB a p.2 <;> simp [hb]
theorem outP_len (a : Aut) (l : List Pf) : (outP a l).length ≤ l.length := by unfold outP; rw [List.length_map]; exact List.length_filter_le _ _
theorem outP_pre (a : Aut) (l : List Pf) (i : Nat) : (outP a (l.take i)).length ≤ (outP a l).length := by
 unfold outP
 rw [List.length_map, List.length_map]
 exact (List.Sublist.filter _ (List.take_sublist i l)).length_le
theorem flat_take_len {α β : Type} (f : α → List β) (l : List α) (i : Nat) : ((l.take i).flatMap f).length ≤ (l.flatMap f).length := by
 have : l.flatMap f = (l.take i).flatMap f ++ (l.drop i).flatMap f := by rw [← List.flatMap_append, List.take_append_drop]
 rw [this, List.length_append]; omega
theorem flat_take_snoc {α β : Type} (f : α → List β) {l : List α} {i : Nat} {x : α} (h : l[i]? = some x) : (l.take (i + 1)).flatMap f = (l.take i).flatMap f ++ f x := by
 rw [take_snoc h, List.flatMap_append]; simp
theorem range_snoc {β : Type} (f : Nat → List β) (k : Nat) : (List.range (k + 1)).flatMap f = (List.range k).flatMap f ++ f k := by
 rw [List.range_succ, List.flatMap_append]; simp
end Go.Proofs.YtgigclnaicbiaaaGreatDoor
namespace Go.Cb
set_option linter.all false
def InPlace (ps : List Piece) : Prop := ∀ (i : Nat) (q : Piece), ps[i]? = some q → q.part = (i : Int)
theorem InPlace.add {ps : List Piece} (h : InPlace ps) (i : Nat) (s : ByteArray) : InPlace (addAt ps i s) := fun j q hq => by
 unfold addAt at hq
 split at hq
 · rename_i p hp
   by_cases hji : j = i
   · subst hji
     have hl := (List.getElem?_eq_some_iff.1 hp).1
     rw [List.getElem?_set_self hl] at hq
     cases hq
     exact h j p hp
   · rw [List.getElem?_set_ne (Ne.symm hji)] at hq
     exact h j q hq
 · exact h j q hq
open Go.En
def vec {α : Type} (n : Nat) (f : Nat → α) : List α := (List.range n).map f
theorem vec_len {α : Type} (n : Nat) (f : Nat → α) : (vec n f).length = n := by simp [vec]
theorem vec_get {α : Type} {n i : Nat} (f : Nat → α) (h : i < n) : (vec n f)[i]? = some (f i) := by simp [vec, h]
theorem vec_ext {α : Type} {n : Nat} {l : List α} {f : Nat → α} (hl : l.length = n) (h : ∀ i x, l[i]? = some x → x = f i) : l = vec n f := by
 apply List.ext_getElem?
 intro i
 rcases Nat.lt_or_ge i n with hi | hi
 · obtain ⟨x, hx⟩ := get_of_lt (show i < l.length by omega)
   rw [hx, vec_get f hi, h i x hx]
 · rw [List.getElem?_eq_none (by omega), List.getElem?_eq_none (by rw [vec_len]; exact hi)]
theorem vec_set {α : Type} {n a : Nat} (f : Nat → α) (b : α) : (vec n f).set a b = vec n (fun i => if i = a then b else f i) := by
 refine vec_ext (by simp [vec]) fun i x hx => ?_
 have hi := lt_of_get hx
 rw [List.length_set, vec_len] at hi
 rw [List.getElem?_set] at hx
 split at hx
 · rename_i e; subst e
   split at hx
   · cases hx; simp
   · cases hx
 · rename_i e
   rw [vec_get f hi] at hx
   cases hx
   rw [if_neg (fun h => e h.symm)]
theorem vec_congr {α : Type} {n : Nat} {f g : Nat → α} (h : ∀ i, i < n → f i = g i) : vec n f = vec n g :=
 List.map_congr_left fun i hi => h i (List.mem_range.1 hi)
theorem vec_const {α : Type} (n : Nat) (x : α) : List.replicate n x = vec n (fun _ => x) := by
 refine vec_ext (by simp) fun i y hy => ?_
 rw [List.getElem?_replicate] at hy
 split at hy
 · cases hy; rfl
 · cases hy
theorem vec_map {α β : Type} (n : Nat) (f : Nat → α) (g : α → β) : (vec n f).map g = vec n (fun i => g (f i)) := by simp [vec, Function.comp_def]
def Closed (n : Nat) (f T : Nat → Nat → Bool) : Prop := (∀ i j, i < n → j < n → f i j = true → T i j = true) ∧ ∀ i j k, i < n → j < n → k < n → T i j = true → T j k = true → T i k = true
def cntF (n : Nat) (f : Nat → Bool) : Nat := ((List.range n).filter fun i => !f i).length
theorem cntF_snoc (n : Nat) (f : Nat → Bool) : cntF (n + 1) f = cntF n f + (if f n then 0 else 1) := by
 unfold cntF
 rw [List.range_succ, List.filter_append, List.length_append]
 cases h : f n <;> simp [h]
theorem cntF_congr {n : Nat} {f g : Nat → Bool} (h : ∀ i, i < n → f i = g i) : cntF n f = cntF n g := by
 unfold cntF
 rw [List.filter_congr fun i hi => by rw [h i (List.mem_range.1 hi)]]
theorem cntF_set {f : Nat → Bool} {a : Nat} (hf : f a = false) : ∀ {n : Nat}, a < n → cntF n (fun i => if i = a then true else f i) + 1 = cntF n f
 | 0, h => by omega
 | n + 1, h => by
   rw [cntF_snoc, cntF_snoc]
   by_cases e : n = a
   · subst e
     rw [if_pos rfl, hf]
     rw [cntF_congr (f := fun i => if i = n then true else f i) (g := f) fun i hi => by rw [if_neg (by omega)]]
     simp
   · rw [if_neg e]
     have := cntF_set hf (n := n) (by omega)
     omega
def cntM (n : Nat) (f : Nat → Nat → Bool) : Nat := ((List.range n).map fun i => cntF n (f i)).sum
structure Grows (n : Nat) (E R : Nat → Nat → Bool) : Prop where
 lo : ∀ i j, i < n → j < n → E i j = true → R i j = true
 hi : ∀ T, Closed n E T → ∀ i j, i < n → j < n → R i j = true → T i j = true
def setM (R : Nat → Nat → Bool) (a c : Nat) : Nat → Nat → Bool := fun i => if i = a then (fun j => if j = c then true else R a j) else R i
theorem setM_at (R : Nat → Nat → Bool) (a c i j : Nat) : setM R a c i j = (if i = a ∧ j = c then true else R i j) := by
 unfold setM
 by_cases h : i = a
 · subst h
   rw [if_pos rfl]
   by_cases h2 : j = c
   · rw [if_pos h2, if_pos ⟨rfl, h2⟩]
   · rw [if_neg h2, if_neg (fun h => h2 h.2)]
 · rw [if_neg h, if_neg (fun h' => h h'.1)]
theorem Grows.set {n : Nat} {E R : Nat → Nat → Bool} (h : Grows n E R) {a b c : Nat} (ha : a < n) (hb : b < n) (hc : c < n) (h1 : R a b = true) (h2 : R b c = true) : Grows n E (setM R a c) := by
 refine ⟨fun i j hi hj he => ?_, fun T hT i j hi hj hs => ?_⟩
 · rw [setM_at]; split
   · rfl
   · exact h.lo i j hi hj he
 · rw [setM_at] at hs
   split at hs
   · rename_i hx
     rw [hx.1, hx.2]
     exact hT.2 a b c ha hb hc (h.hi T hT a b ha hb h1) (h.hi T hT b c hb hc h2)
   · exact h.hi T hT i j hi hj hs
def Before (a b c a' b' c' : Nat) : Prop := a' < a ∨ (a' = a ∧ (b' < b ∨ (b' = b ∧ c' < c)))
structure Pass (n : Nat) (E R0 R : Nat → Nat → Bool) (ag : Bool) (a b c : Nat) : Prop where
 gr : Grows n E R
 dn : ag = true → cntM n R < cntM n R0
 st : ag = false → R = R0 ∧ ∀ a' b' c', a' < n → b' < n → c' < n → Before a b c a' b' c' → R0 a' b' = true → R0 b' c' = true → R0 a' c' = true
theorem Pass.start {n : Nat} {E R0 : Nat → Nat → Bool} (h : Grows n E R0) : Pass n E R0 R0 false 0 0 0 := ⟨h, by simp, fun _ => ⟨rfl, fun a' b' c' _ _ _ hB => by unfold Before at hB; omega⟩⟩
theorem Pass.to {n : Nat} {E R0 R : Nat → Nat → Bool} {ag : Bool} {a b c a1 b1 c1 : Nat} (h : Pass n E R0 R ag a b c) (hB : ∀ a' b' c', a' < n → b' < n → c' < n → Before a1 b1 c1 a' b' c' → Before a b c a' b' c' ∨ (ag = false → R0 a' b' = true → R0 b' c' = true → R0 a' c' = true)) : Pass n E R0 R ag a1 b1 c1 :=
 ⟨h.gr, h.dn, fun hg => ⟨(h.st hg).1, fun a' b' c' h1 h2 h3 h4 => by
  rcases hB a' b' c' h1 h2 h3 h4 with h5 | h5
  · exact (h.st hg).2 a' b' c' h1 h2 h3 h5
  · exact h5 hg⟩⟩
theorem Pass.skip {n : Nat} {E R0 R : Nat → Nat → Bool} {ag : Bool} {a b c : Nat} (h : Pass n E R0 R ag a b c) (hx : R a b = true → R b c = true → R a c = true) : Pass n E R0 R ag a b (c + 1) :=
 h.to fun a' b' c' _ _ _ hB => by
  by_cases e : a' = a ∧ b' = b ∧ c' = c
  · obtain ⟨rfl, rfl, rfl⟩ := e
    exact .inr fun hg => by rw [← (h.st hg).1]; exact hx
  · exact .inl (by unfold Before at hB ⊢; omega)
theorem Pass.row {n : Nat} {E R0 R : Nat → Nat → Bool} {ag : Bool} {a b c : Nat} (h : Pass n E R0 R ag a b c) (hc : n ≤ c) : Pass n E R0 R ag a (b + 1) 0 := h.to fun a' b' c' _ _ _ hB => .inl (by unfold Before at hB ⊢; omega)
theorem Pass.less {n : Nat} {E R0 R : Nat → Nat → Bool} {ag : Bool} {a b c : Nat} (h : Pass n E R0 R ag a b c) : cntM n R + (if ag then 1 else 0) < cntM n R0 + 1 := by
 cases hg : ag with
 | true => have := h.dn hg; simp; omega
 | false => rw [(h.st hg).1]; simp
def Conn (l : List Int) (r : Int → Int → Bool) (x y : Int) : Prop := ∀ P : Int → Prop, (∀ a b, a ∈ l → b ∈ l → (r a b = true ∨ r b a = true) → P a → P b) → P x → P y
theorem Conn.refl (l : List Int) (r : Int → Int → Bool) (x : Int) : Conn l r x x := fun _ _ h => h
theorem Conn.trans {l : List Int} {r : Int → Int → Bool} {x y z : Int} (h : Conn l r x y) (k : Conn l r y z) : Conn l r x z := fun P hP hx => k P hP (h P hP hx)
theorem Conn.step {l : List Int} {r : Int → Int → Bool} {x y : Int} (hx : x ∈ l) (hy : y ∈ l) (h : r x y = true ∨ r y x = true) : Conn l r x y := fun P hP hx' => hP x y hx hy h hx'
theorem Conn.symm {l : List Int} {r : Int → Int → Bool} {x y : Int} (h : Conn l r x y) : Conn l r y x :=
 h (fun z => Conn l r z x) (fun a b ha hb hr hax => (Conn.step hb ha hr.symm).trans hax) (Conn.refl l r x)
theorem nodup_len {α : Type} [BEq α] [LawfulBEq α] : ∀ {l m : List α}, l.Nodup → (∀ x ∈ l, x ∈ m) → l.length ≤ m.length
 | [], m, _, _ => Nat.zero_le _
 | x :: l, m, h, hs => by
   rw [List.nodup_cons] at h
   have hx := hs x (by simp)
   have h1 := nodup_len (l := l) (m := m.erase x) h.2 fun y hy => by
    have hne : y ≠ x := fun e => h.1 (e ▸ hy)
    exact (List.mem_erase_of_ne hne).2 (hs y (by simp [hy]))
   rw [List.length_erase_of_mem hx] at h1
   have := List.length_pos_of_mem hx
   simp only [List.length_cons]
   omega
structure Comps (l : List Int) (r : Int → Int → Bool) (cs : List (List Int)) : Prop where
 mem : ∀ x, x ∈ cs.flatten ↔ x ∈ l
 nd : cs.flatten.Nodup
 ne : ∀ c ∈ cs, c ≠ []
 asc : ∀ c ∈ cs, c.Pairwise (· < ·)
 conn : ∀ c ∈ cs, ∀ x ∈ c, ∀ y ∈ c, Conn l r x y
 clos : ∀ c ∈ cs, ∀ x ∈ c, ∀ y ∈ l, (r x y = true ∨ r y x = true) → y ∈ c
 ord : cs.Pairwise fun c d => ∀ x y, c.head? = some x → d.head? = some y → x < y
structure Part (l : List Int) (r : Int → Int → Bool) (cs : List (List Int)) (k : Nat) : Prop where
 sub : ∀ x ∈ cs.flatten, x ∈ l
 did : ∀ j x, j < k → l[j]? = some x → x ∈ cs.flatten
 nd : cs.flatten.Nodup
 ne : ∀ c ∈ cs, c ≠ []
 asc : ∀ c ∈ cs, c.Pairwise (· < ·)
 conn : ∀ c ∈ cs, ∀ x ∈ c, ∀ y ∈ c, Conn l r x y
 clos : ∀ c ∈ cs, ∀ x ∈ c, ∀ y ∈ l, (r x y = true ∨ r y x = true) → y ∈ c
 ord : cs.Pairwise fun c d => ∀ x y, c.head? = some x → d.head? = some y → x < y
 hd : ∀ c ∈ cs, ∀ x, c.head? = some x → ∃ j, j < k ∧ l[j]? = some x
theorem Part.start (l : List Int) (r : Int → Int → Bool) : Part l r [] 0 := ⟨by simp, by omega, by simp, by simp, by simp, by simp, by simp, by simp, by simp⟩
theorem Part.skip {l : List Int} {r : Int → Int → Bool} {cs : List (List Int)} {k : Nat} {x : Int} (h : Part l r cs k) (hx : l[k]? = some x) (hin : x ∈ cs.flatten) : Part l r cs (k + 1) :=
 ⟨h.sub, fun j y hj hy => by
  by_cases e : j = k
  · subst e; rw [hx] at hy; cases hy; exact hin
  · exact h.did j y (by omega) hy, h.nd, h.ne, h.asc, h.conn, h.clos, h.ord, fun c hc x hx => let ⟨j, hj, e⟩ := h.hd c hc x hx; ⟨j, by omega, e⟩⟩
structure Mk (l : List Int) (r : Int → Int → Bool) (cs : List (List Int)) (first : Int) (tk cl : List Int) (i q : Nat) : Prop where
 tkm : ∀ z, z ∈ tk ↔ z ∈ cs.flatten ∨ z ∈ cl
 nd : (cs.flatten ++ cl).Nodup
 sub : ∀ z ∈ cl, z ∈ l
 con : ∀ z ∈ cl, Conn l r first z
 fst : first ∈ cl
 il : i ≤ cl.length
 did : ∀ j x, j < i → cl[j]? = some x → ∀ y ∈ l, (r x y = true ∨ r y x = true) → y ∈ tk
 now : ∀ x, cl[i]? = some x → ∀ p y, p < q → l[p]? = some y → (r x y = true ∨ r y x = true) → y ∈ tk
theorem Mk.start {l : List Int} {r : Int → Int → Bool} {cs : List (List Int)} {k : Nat} {x : Int} {tk : List Int} (h : Part l r cs k) (hx : l[k]? = some x) (ht : ∀ z, z ∈ tk ↔ z ∈ cs.flatten) (hn : x ∉ cs.flatten) : Mk l r cs x (tk ++ [x]) [x] 0 0 :=
 ⟨fun z => by simp [ht], by
  rw [List.nodup_append]
  exact ⟨h.nd, by simp, fun a ha b hb => by simp at hb; subst hb; exact fun e => hn (e ▸ ha)⟩, fun z hz => by simp at hz; subst hz; exact List.mem_of_getElem? hx, fun z hz => by simp at hz; subst hz; exact Conn.refl _ _ _, by simp, by simp, by omega, by omega⟩
theorem Mk.len {l : List Int} {r : Int → Int → Bool} {cs : List (List Int)} {first : Int} {tk cl : List Int} {i q : Nat} (h : Mk l r cs first tk cl i q) : cl.length ≤ l.length := nodup_len (List.nodup_append.1 h.nd).2.1 h.sub
theorem Mk.take {l : List Int} {r : Int → Int → Bool} {cs : List (List Int)} {first : Int} {tk cl : List Int} {i q : Nat} {x y : Int} (h : Mk l r cs first tk cl i q) (hx : cl[i]? = some x) (hy : l[q]? = some y) (hn : y ∉ tk) (hr : r x y = true ∨ r y x = true) : Mk l r cs first (tk ++ [y]) (cl ++ [y]) i (q + 1) := by
 have hyl := List.mem_of_getElem? hy
 have hxc := List.mem_of_getElem? hx
 have hn' : y ∉ cs.flatten ∧ y ∉ cl := by
  have := fun hh => hn ((h.tkm y).2 hh)
  exact ⟨fun hh => this (.inl hh), fun hh => this (.inr hh)⟩
 refine ⟨fun z => ?_, ?_, fun z hz => ?_, fun z hz => ?_, by simp [h.fst], by have := h.il; simp; omega, fun j u hj hu v hv hrr => ?_, fun u hu p v hp hv hrr => ?_⟩
 · simp only [List.mem_append, List.mem_singleton, h.tkm z]; exact or_assoc
 · rw [← List.append_assoc, List.nodup_append]
   refine ⟨h.nd, by simp, fun a ha b hb => ?_⟩
   simp at hb; subst hb
   intro e
   rw [List.mem_append] at ha
   rcases ha with ha | ha
   · exact hn'.1 (e ▸ ha)
   · exact hn'.2 (e ▸ ha)
 · simp only [List.mem_append, List.mem_singleton] at hz
   rcases hz with hz | rfl
   · exact h.sub z hz
   · exact hyl
 · simp only [List.mem_append, List.mem_singleton] at hz
   rcases hz with hz | rfl
   · exact h.con z hz
   · exact (h.con x hxc).trans (Conn.step (h.sub x hxc) hyl hr)
 · have hl : j < cl.length := by have := h.il; omega
   rw [List.getElem?_append_left hl] at hu
   rw [List.mem_append]; exact .inl (h.did j u hj hu v hv hrr)
 · have hl := lt_of_get hx
   rw [List.getElem?_append_left hl, hx] at hu; cases hu
   rw [List.mem_append]
   by_cases e : p = q
   · subst e; rw [hy] at hv; cases hv; simp
   · exact .inl (h.now x hx p v (by omega) hv hrr)
theorem Mk.next {l : List Int} {r : Int → Int → Bool} {cs : List (List Int)} {first : Int} {tk cl : List Int} {i q : Nat} (h : Mk l r cs first tk cl i q) (hq : l.length ≤ q) (hi : i < cl.length) : Mk l r cs first tk cl (i + 1) 0 :=
 ⟨h.tkm, h.nd, h.sub, h.con, h.fst, hi, fun j x hj hx y hy hr => by
  by_cases e : j = i
  · subst e
    obtain ⟨p, hp⟩ := List.getElem?_of_mem hy
    exact h.now x hx p y (by have := lt_of_get hp; omega) hp hr
  · exact h.did j x (by omega) hx y hy hr, by omega⟩
theorem sort_mem {cl : List Int} {z : Int} : z ∈ cl.mergeSort (fun x y => decide (x ≤ y)) ↔ z ∈ cl := (List.mergeSort_perm cl _).mem_iff
theorem sort_asc {cl : List Int} (h : cl.Nodup) : (cl.mergeSort fun x y => decide (x ≤ y)).Pairwise (· < ·) := by
 have h1 := List.pairwise_mergeSort (le := fun x y : Int => decide (x ≤ y)) (fun a b c h1 h2 => by simp at *; omega) (fun a b => by simp; omega) cl
 have h2 : (cl.mergeSort fun x y => decide (x ≤ y)).Nodup := (List.mergeSort_perm cl _).nodup_iff.2 h
 exact (h1.and h2).imp fun {a b} ⟨h3, h4⟩ => by simp at h3; have : a ≠ b := h4; omega
theorem Mk.done {l : List Int} {r : Int → Int → Bool} {cs : List (List Int)} {first : Int} {tk cl : List Int} {i k : Nat} (h : Mk l r cs first tk cl i 0) (hP : Part l r cs k) (hl : l.Pairwise (· < ·)) (hk : l[k]? = some first) (hi : cl.length ≤ i) : Part l r (cs ++ [cl.mergeSort fun x y => decide (x ≤ y)]) (k + 1) := by
 have hnd := List.nodup_append.1 h.nd
 have hflat : (cs ++ [cl.mergeSort fun x y => decide (x ≤ y)]).flatten = cs.flatten ++ cl.mergeSort (fun x y => decide (x ≤ y)) := by simp
 have hclos : ∀ x ∈ cl, ∀ y ∈ l, (r x y = true ∨ r y x = true) → y ∈ cl := fun x hx y hy hr => by
  obtain ⟨j, hj⟩ := List.getElem?_of_mem hx
  have := h.did j x (by have := lt_of_get hj; omega) hj y hy hr
  rcases (h.tkm y).1 this with h1 | h1
  · obtain ⟨c, hc, hyc⟩ := List.mem_flatten.1 h1
    have hxc := hP.clos c hc y hyc x (h.sub x hx) hr.symm
    exact absurd rfl (hnd.2.2 x (List.mem_flatten.2 ⟨c, hc, hxc⟩) x hx)
  · exact h1
 have hleast : ∀ z ∈ cl, first ≤ z := fun z hz => by
  obtain ⟨j, hj⟩ := List.getElem?_of_mem (h.sub z hz)
  rcases Nat.lt_trichotomy j k with h1 | h1 | h1
  · have := hP.did j z h1 hj
    exact absurd rfl (hnd.2.2 z this z hz)
  · subst h1; rw [hk] at hj; cases hj; omega
  · have := List.pairwise_iff_getElem.1 hl k j (lt_of_get hk) (lt_of_get hj) h1
    have e1 := (List.getElem?_eq_some_iff.1 hk).2
    have e2 := (List.getElem?_eq_some_iff.1 hj).2
    rw [e1, e2] at this; omega
 have hasc := sort_asc hnd.2.1
 have hhead : ∀ x, (cl.mergeSort fun x y => decide (x ≤ y)).head? = some x → x = first := fun x hx => by
  have hm : x ∈ cl := sort_mem.1 (List.mem_of_mem_head? hx)
  have hf : first ∈ cl.mergeSort fun x y => decide (x ≤ y) := sort_mem.2 h.fst
  have := hleast x hm
  cases hs : cl.mergeSort (fun x y => decide (x ≤ y)) with
  | nil => rw [hs] at hx; cases hx
  | cons a t =>
    rw [hs] at hx hf hasc
    simp at hx; subst hx
    rw [List.pairwise_cons] at hasc
    rcases List.mem_cons.1 hf with e | e
    · exact e.symm
    · have := hasc.1 first e; omega
 refine ⟨fun x hx => ?_, fun j x hj hx => ?_, ?_, fun c hc => ?_, fun c hc => ?_, fun c hc x hx y hy => ?_, fun c hc x hx y hy hr => ?_, ?_, fun c hc x hx => ?_⟩
 · rw [hflat, List.mem_append, sort_mem] at hx
   rcases hx with hx | hx
   · exact hP.sub x hx
   · exact h.sub x hx
 · rw [hflat, List.mem_append, sort_mem]
   by_cases e : j = k
   · subst e; rw [hk] at hx; cases hx; exact .inr h.fst
   · exact .inl (hP.did j x (by omega) hx)
 · rw [hflat, List.nodup_append]
   exact ⟨hP.nd, (List.mergeSort_perm cl _).nodup_iff.2 hnd.2.1, fun a ha b hb => hnd.2.2 a ha b (sort_mem.1 hb)⟩
 · rcases List.mem_append.1 hc with hc | hc
   · exact hP.ne c hc
   · simp at hc; subst hc; intro e
     have := (sort_mem (cl := cl)).2 h.fst
     rw [e] at this; simp at this
 · rcases List.mem_append.1 hc with hc | hc
   · exact hP.asc c hc
   · simp at hc; subst hc; exact hasc
 · rcases List.mem_append.1 hc with hc | hc
   · exact hP.conn c hc x hx y hy
   · simp at hc; subst hc
     exact (h.con x (sort_mem.1 hx)).symm.trans (h.con y (sort_mem.1 hy))
 · rcases List.mem_append.1 hc with hc | hc
   · exact hP.clos c hc x hx y hy hr
   · simp at hc; subst hc
     exact sort_mem.2 (hclos x (sort_mem.1 hx) y hy hr)
 · rw [List.pairwise_append]
   refine ⟨hP.ord, by simp, fun c hc d hd x y hx hy => ?_⟩
   simp at hd; subst hd
   obtain ⟨j, hj, e⟩ := hP.hd c hc x hx
   rw [hhead y hy]
   have := List.pairwise_iff_getElem.1 hl j k (lt_of_get e) (lt_of_get hk) hj
   rw [(List.getElem?_eq_some_iff.1 e).2, (List.getElem?_eq_some_iff.1 hk).2] at this
   exact this
 · rcases List.mem_append.1 hc with hc | hc
   · obtain ⟨j, hj, e⟩ := hP.hd c hc x hx
     exact ⟨j, by omega, e⟩
   · simp at hc; subst hc
     rw [hhead x hx]; exact ⟨k, by omega, hk⟩
def headI (c : List Int) : Int := c[0]?.getD 0
theorem headI_mem {c : List Int} (h : c ≠ []) : headI c ∈ c := by
 cases c with
 | nil => exact absurd rfl h
 | cons a t => exact List.mem_cons_self
def sumTo : Nat → (Nat → Nat) → Nat
 | 0, _ => 0
 | n + 1, f => sumTo n f + f n
def upd {α : Type} (f : Nat → α) (a : Nat) (b : α) : Nat → α := fun i => if i = a then b else f i
theorem sum_upd_ge {n a b : Nat} {f : Nat → Nat} (h : n ≤ a) : sumTo n (upd f a b) = sumTo n f := by
 induction n with
 | zero => rfl
 | succ n ih =>
   show sumTo n (upd f a b) + upd f a b n = sumTo n f + f n
   rw [ih (by omega)]; unfold upd; rw [if_neg (by omega)]
theorem sum_upd_lt : ∀ {n a b : Nat} {f : Nat → Nat}, a < n → b < f a → sumTo n (upd f a b) < sumTo n f
 | n + 1, a, b, f, h, hb => by
   show sumTo n (upd f a b) + upd f a b n < sumTo n f + f n
   by_cases e : a = n
   · subst e
     rw [sum_upd_ge (Nat.le_refl _)]; unfold upd; rw [if_pos rfl]; omega
   · have := sum_upd_lt (b := b) (f := f) (show a < n by omega) hb
     have e2 : upd f a b n = f n := by unfold upd; rw [if_neg (by omega)]
     omega
def marked (n : Nat) (I : Nat → Bool) : List Int := ((List.range n).map fun i : Nat => (i : Int)).filter fun x => I x.toNat
theorem marked_mem {n : Nat} {I : Nat → Bool} {x : Int} : x ∈ marked n I ↔ ∃ i : Nat, i < n ∧ I i = true ∧ x = i := by
 unfold marked
 rw [List.mem_filter, List.mem_map]
 constructor
 · rintro ⟨⟨i, hi, rfl⟩, h2⟩
   exact ⟨i, List.mem_range.1 hi, by simpa using h2, rfl⟩
 · rintro ⟨i, h1, h2, rfl⟩
   exact ⟨⟨i, List.mem_range.2 h1, rfl⟩, by simpa using h2⟩
structure LabOk (n : Nat) (I : Nat → Bool) (r : Int → Int → Bool) (lab : Nat → Nat) : Prop where
 le : ∀ i, i < n → lab i ≤ i
 inn : ∀ i, i < n → I i = true → I (lab i) = true
 conn : ∀ i, i < n → I i = true → Conn (marked n I) r (lab i) i
theorem LabOk.start (n : Nat) (I : Nat → Bool) (r : Int → Int → Bool) : LabOk n I r fun i => i := ⟨fun i _ => Nat.le_refl i, fun i _ h => h, fun i _ _ => Conn.refl _ _ _⟩
theorem LabOk.push {n : Nat} {I : Nat → Bool} {r : Int → Int → Bool} {lab : Nat → Nat} (h : LabOk n I r lab) {a b : Nat} (ha : a < n) (hb : b < n) (ia : I a = true) (ib : I b = true) (hlt : lab a < lab b) (hr : r a b = true ∨ r b a = true) : LabOk n I r (upd lab b (lab a)) := by
 refine ⟨fun i hi => ?_, fun i hi hI => ?_, fun i hi hI => ?_⟩ <;> unfold upd <;> split
 · rename_i e; subst e; have := h.le i hi; omega
 · exact h.le i hi
 · exact h.inn a ha ia
 · exact h.inn i hi hI
 · rename_i e; subst e
   exact (h.conn a ha ia).trans (Conn.step (marked_mem.2 ⟨a, ha, ia, rfl⟩) (marked_mem.2 ⟨i, hb, ib, rfl⟩) hr)
 · exact h.conn i hi hI
def good (n : Nat) (I : Nat → Bool) (t : Nat → Nat → Bool) (lab : Nat → Nat) (a b : Nat) : Prop := a ≠ b → I a = true → I b = true → t a b = true → lab a = lab b
structure LabPass (n : Nat) (I : Nat → Bool) (r : Int → Int → Bool) (t : Nat → Nat → Bool) (lab0 lab : Nat → Nat) (ag : Bool) (a b : Nat) : Prop where
 ok : LabOk n I r lab
 les : ag = true → sumTo n lab < sumTo n lab0
 eq : ag = false → lab = lab0 ∧ ∀ x y, (x < a ∧ y < n ∨ x = a ∧ y < b) → good n I t lab x y
theorem LabPass.start {n : Nat} {I : Nat → Bool} {r : Int → Int → Bool} {t : Nat → Nat → Bool} {lab : Nat → Nat} (h : LabOk n I r lab) : LabPass n I r t lab lab false 0 0 := ⟨h, (fun e => by cases e), fun _ => ⟨rfl, fun x y h => by omega⟩⟩
theorem LabPass.push {n : Nat} {I : Nat → Bool} {r : Int → Int → Bool} {t : Nat → Nat → Bool} {lab0 lab : Nat → Nat} {ag : Bool} {p q x y : Nat} (h : LabPass n I r t lab0 lab ag p q) (hx : x < n) (hy : y < n) (ix : I x = true) (iy : I y = true) (hlt : lab x < lab y) (hr : r x y = true ∨ r y x = true) (p' q' : Nat) : LabPass n I r t lab0 (upd lab y (lab x)) true p' q' := by
 refine ⟨h.ok.push hx hy ix iy hlt hr, fun _ => ?_, fun e => by cases e⟩
 have h1 := sum_upd_lt (n := n) hy hlt
 cases ag with
 | true => have := h.les rfl; omega
 | false => rw [← (h.eq rfl).1]; exact h1
theorem LabPass.on {n : Nat} {I : Nat → Bool} {r : Int → Int → Bool} {t : Nat → Nat → Bool} {lab0 lab : Nat → Nat} {ag : Bool} {a b : Nat} (h : LabPass n I r t lab0 lab ag a b) (hg : ag = false → good n I t lab a b) : LabPass n I r t lab0 lab ag a (b + 1) := ⟨h.ok, h.les, fun e => ⟨(h.eq e).1, fun x y hxy => by
 by_cases e2 : x = a ∧ y = b
 · obtain ⟨rfl, rfl⟩ := e2; exact hg e
 · exact (h.eq e).2 x y (by omega)⟩⟩
theorem LabPass.row {n : Nat} {I : Nat → Bool} {r : Int → Int → Bool} {t : Nat → Nat → Bool} {lab0 lab : Nat → Nat} {ag : Bool} {a : Nat} (h : LabPass n I r t lab0 lab ag a n) : LabPass n I r t lab0 lab ag (a + 1) 0 := ⟨h.ok, h.les, fun e => ⟨(h.eq e).1, fun x y hxy => (h.eq e).2 x y (by omega)⟩⟩
structure Fix (n : Nat) (I : Nat → Bool) (r : Int → Int → Bool) (t : Nat → Nat → Bool) (lab : Nat → Nat) : Prop where
 ok : LabOk n I r lab
 st : ∀ x y, x < n → y < n → good n I t lab x y
def cls (n : Nat) (I : Nat → Bool) (lab : Nat → Nat) (c : Nat) : List Int := ((List.range n).map fun i : Nat => (i : Int)).filter fun x => I x.toNat && (lab x.toNat == c)
theorem cls_mem {n : Nat} {I : Nat → Bool} {lab : Nat → Nat} {c : Nat} {x : Int} : x ∈ cls n I lab c ↔ ∃ i : Nat, i < n ∧ I i = true ∧ lab i = c ∧ x = i := by
 unfold cls
 rw [List.mem_filter, List.mem_map]
 constructor
 · rintro ⟨⟨i, hi, rfl⟩, h2⟩
   simp at h2
   exact ⟨i, List.mem_range.1 hi, h2.1, h2.2, rfl⟩
 · rintro ⟨i, h1, h2, h3, rfl⟩
   exact ⟨⟨i, List.mem_range.2 h1, rfl⟩, by simp [h2, h3]⟩
theorem range_asc (n : Nat) : ((List.range n).map fun i : Nat => (i : Int)).Pairwise (· < ·) := by
 rw [List.pairwise_map]
 exact List.pairwise_lt_range.imp fun h => by omega
theorem cls_asc (n : Nat) (I : Nat → Bool) (lab : Nat → Nat) (c : Nat) : (cls n I lab c).Pairwise (· < ·) := (range_asc n).filter _
theorem Fix.const {n : Nat} {I : Nat → Bool} {r : Int → Int → Bool} {t : Nat → Nat → Bool} {lab : Nat → Nat} (h : Fix n I r t lab) (ht : ∀ a b : Nat, a < n → b < n → I a = true → I b = true → a ≠ b → (r a b = true ∨ r b a = true) → t a b = true) {a b : Nat} (hc : Conn (marked n I) r a b) : lab b = lab a := by
 have := hc (fun z => lab z.toNat = lab a) (fun x y hx hy hr hz => by
  obtain ⟨i, hi, Ii, rfl⟩ := marked_mem.1 hx
  obtain ⟨j, hj, Ij, rfl⟩ := marked_mem.1 hy
  rw [Int.toNat_natCast] at hz ⊢
  by_cases e : i = j
  · rw [← e]; exact hz
  · rw [← h.st i j hi hj e Ii Ij (ht i j hi hj Ii Ij e hr)]; exact hz) (by rw [Int.toNat_natCast])
 rw [Int.toNat_natCast] at this
 exact this
theorem Fix.own {n : Nat} {I : Nat → Bool} {r : Int → Int → Bool} {t : Nat → Nat → Bool} {lab : Nat → Nat} (h : Fix n I r t lab) (ht : ∀ a b : Nat, a < n → b < n → I a = true → I b = true → a ≠ b → (r a b = true ∨ r b a = true) → t a b = true) {c : Nat} (hc : cls n I lab c ≠ []) : headI (cls n I lab c) = c := by
 obtain ⟨i, hi, Ii, hl, hx⟩ := cls_mem.1 (headI_mem hc)
 have hle := h.ok.le i hi
 have h1 := h.const ht (h.ok.conn i hi Ii)
 have h2 := h.ok.inn i hi Ii
 rw [hl] at h1 h2 hle
 have hcm : (c : Int) ∈ cls n I lab c := cls_mem.2 ⟨c, by omega, h2, by omega, rfl⟩
 have hasc := cls_asc n I lab c
 cases hd : cls n I lab c with
 | nil => exact absurd hd hc
 | cons y m =>
   rw [hd] at hcm hasc hx
   rw [List.pairwise_cons] at hasc
   show y = (c : Int)
   have hy : y = (i : Int) := hx
   rcases List.mem_cons.1 hcm with e | e
   · exact e.symm
   · have := hasc.1 _ e; omega
theorem LabPass.less {n : Nat} {I : Nat → Bool} {r : Int → Int → Bool} {t : Nat → Nat → Bool} {lab0 lab : Nat → Nat} {ag : Bool} {a b : Nat} (h : LabPass n I r t lab0 lab ag a b) : sumTo n lab + (if ag then 1 else 0) < sumTo n lab0 + (if true then 1 else 0) := by
 cases hg : ag with
 | true => have := h.les hg; simp; omega
 | false => rw [(h.eq hg).1]; simp
end Go.Cb
namespace Go.Proofs.YtgigclnaicbiaaaGreatDoor
open Go.RowKit Go.Cb Go.En
set_option linter.all false
theorem cmpI_neg {a b : Int} : cmpI a b < 0 ↔ a < b := by unfold cmpI; split <;> (try split) <;> omega
theorem cmpI_zero {a b : Int} : cmpI a b = 0 ↔ a = b := by unfold cmpI; split <;> (try split) <;> omega
theorem mvLt_iff {a b : Mv} : mvLt a b = true ↔ a.src < b.src ∨ (a.src = b.src ∧ (a.sym < b.sym ∨ (a.sym = b.sym ∧ a.dst < b.dst))) := by
 unfold mvLt mvCmp
 rw [decide_eq_true_eq]
 by_cases h1 : cmpI a.src b.src = 0
 · have e1 := cmpI_zero.1 h1
   by_cases h2 : cmpI a.sym b.sym = 0
   · have e2 := cmpI_zero.1 h2
     have h3 := cmpI_neg (a := a.dst) (b := b.dst)
     by_cases h4 : cmpI a.dst b.dst = 0
     · have e4 := cmpI_zero.1 h4
       simp only [firstNZ, h1, h2, h4, if_true]
       omega
     · simp only [firstNZ, h1, h2, h4, if_true, if_false]
       omega
   · have h3 := cmpI_neg (a := a.sym) (b := b.sym)
     have h4 : ¬ a.sym = b.sym := fun e => h2 (cmpI_zero.2 e)
     simp only [firstNZ, h1, h2, if_true, if_false]
     omega
 · have h3 := cmpI_neg (a := a.src) (b := b.src)
   have h4 : ¬ a.src = b.src := fun e => h1 (cmpI_zero.2 e)
   simp only [firstNZ, h1, if_false]
   omega
theorem nodup_of_chain {α : Type} {r : α → α → Bool} {l : List α} (h : chainB r l = true) (hi : ∀ a ∈ l, r a a = false) (ht : ∀ a ∈ l, ∀ b ∈ l, ∀ c ∈ l, r a b = true → r b c = true → r a c = true) : l.Pairwise fun a b => r a b = true := by
 induction l with
 | nil => exact .nil
 | cons x l ih =>
   have h1 : ∀ i a b, (x :: l)[i]? = some a → (x :: l)[i + 1]? = some b → r a b = true := (chainB_iff r _).1 h
   have h2 := ih ((chainB_iff r l).2 fun i a b ha hb => h1 (i + 1) a b ha hb) (fun a ha => hi a (List.mem_cons_of_mem _ ha)) (fun a ha b hb c hc => ht a (List.mem_cons_of_mem _ ha) b (List.mem_cons_of_mem _ hb) c (List.mem_cons_of_mem _ hc))
   refine List.pairwise_cons.2 ⟨fun y hy => ?_, h2⟩
   cases l with
   | nil => simp at hy
   | cons z l =>
     have h3 := h1 0 x z rfl rfl
     rcases List.mem_cons.1 hy with rfl | hy2
     · exact h3
     · exact ht x (by simp) z (by simp) y (List.mem_cons_of_mem _ hy) h3 ((List.pairwise_cons.1 h2).1 y hy2)
structure AOk (a : Aut) : Prop where
 n0 : 0 ≤ a.n
 n1 : a.n ≤ 2000
 s0 : 0 ≤ a.syms
 s1 : a.syms ≤ 40
 ml : a.moves.length ≤ 20000
 st : InS a a.start
 fi : InS a a.fin
 sl : a.start.length ≤ 2000
 fl : a.fin.length ≤ 2000
 mv : ∀ m ∈ a.moves, 0 ≤ m.src ∧ m.src < a.n ∧ 0 ≤ m.dst ∧ m.dst < a.n ∧ -1 ≤ m.sym ∧ m.sym < a.syms
theorem AOk.mi {a : Aut} (h : AOk a) : MvIn a := fun m hm => by have := h.mv m hm; omega
theorem stOk_in {n : Int} {l : List Int} (h : stOk n l = true) : ∀ s ∈ l, 0 ≤ s ∧ s < n := fun s hs => by
 unfold stOk at h
 simp only [Bool.and_eq_true, List.all_eq_true, decide_eq_true_eq] at h
 exact h.1 s hs
theorem stOk_len {n : Int} {l : List Int} (h : stOk n l = true) (h0 : 0 ≤ n) (hn : n ≤ 2000) : l.length ≤ 2000 := by
 have h1 := stOk_in h
 unfold stOk at h
 simp only [Bool.and_eq_true] at h
 have h2 := nodup_of_chain h.2 (fun a _ => by unfold ltI; exact decide_eq_false (by omega)) (fun a _ b _ c _ h1 h2 => by
  unfold ltI at *
  simp only [decide_eq_true_eq] at *
  omega)
 have := nodup_len 2000 l (h2.imp fun h => by unfold ltI at h; simp only [decide_eq_true_eq] at h; omega) fun s hs => by have := h1 s hs; omega
 exact this
theorem aok_of {a : Aut} (h : autOk a = true) : AOk a := by
 unfold autOk at h
 simp only [Bool.and_eq_true, decide_eq_true_eq] at h
 obtain ⟨⟨⟨⟨⟨⟨⟨⟨h1, h2⟩, h3⟩, h4⟩, h5⟩, h6⟩, h7⟩, h8⟩, h9⟩ := h
 refine ⟨h1, h2, h3, h4, h5, stOk_in h6, stOk_in h7, stOk_len h6 h1 h2, stOk_len h7 h1 h2, fun m hm => ?_⟩
 have := List.all_eq_true.1 h8 m hm
 unfold mvOk at this
 simp only [Bool.and_eq_true, decide_eq_true_eq] at this
 omega
set_option maxRecDepth 100000
theorem pAut_n {a : Aut} (h : 0 ≤ a.n) : pAut a = .agg [pInt (a.n.toNat : Nat), pInt a.syms, pInts a.start, pInts a.fin, pMvs a.moves] := by
 unfold pAut; rw [show ((a.n.toNat : Nat) : Int) = a.n by omega]
def FinK (a : Aut) (k : Nat) (L : List Int) : Prop := L.length = a.n.toNat ∧ ∀ s, s < a.n.toNat → L[s]? = some (if (a.fin.take k).any (fun t => decide (t = (s : Nat))) then 0 else -1)
theorem FinK.start {a : Aut} {L : List Int} (hl : L.length = a.n.toNat) (h : ∀ j, j < L.length → L[j]? = some (-1)) : FinK a 0 L := ⟨hl, fun s hs => by rw [h s (by omega)]; rfl⟩
theorem FinK.step {a : Aut} {k : Nat} {L : List Int} {t : Int} (h : FinK a k L) (ht : a.fin[k]? = some t) (h0 : 0 ≤ t) : FinK a (k + 1) (L.set t.toNat 0) := by
 refine ⟨by rw [List.length_set]; exact h.1, fun s hs => ?_⟩
 rw [take_snoc ht, List.any_append]
 by_cases e : t.toNat = s
 · subst e
   rw [List.getElem?_set_self (by rw [h.1]; exact hs)]
   simp only [List.any_cons, List.any_nil, Bool.or_false]
   rw [decide_eq_true (show t = ((t.toNat : Nat) : Int) by omega), Bool.or_true]; rfl
 · rw [List.getElem?_set_ne e, h.2 s hs]
   simp only [List.any_cons, List.any_nil, Bool.or_false]
   rw [decide_eq_false (show ¬ t = (s : Int) by omega), Bool.or_false]
theorem FinK.done {a : Aut} {k : Nat} {L : List Int} (h : FinK a k L) (hk : a.fin.length ≤ k) : L = farAt a 0 := by
 apply List.ext_getElem?
 intro s
 rcases Nat.lt_or_ge s a.n.toNat with hs | hs
 · rw [h.2 s hs, show (farAt a 0)[s]? = _ from farInit_at hs, List.take_of_length_le hk]; rfl
 · rw [List.getElem?_eq_none (by rw [h.1]; exact hs), List.getElem?_eq_none (by rw [(farAt_ok a 0).len]; exact hs)]
structure PassI (a : Aut) (far0 L : List Int) (fl : Bool) (i : Nat) : Prop where
 eq : L = passF (a.moves.take i) far0
 ok : FarOk a.n.toNat L
 no : fl = false → L = far0
 yes : fl = true → sumF a.n.toNat L < sumF a.n.toNat far0
theorem PassI.start {a : Aut} {far0 : List Int} (h : FarOk a.n.toNat far0) : PassI a far0 far0 false 0 := ⟨rfl, h, fun _ => rfl, fun h => Bool.noConfusion h⟩
theorem PassI.set {a : Aut} {far0 L : List Int} {fl : Bool} {i : Nat} {m : Mv} {d e d' : Int} (h : PassI a far0 L fl i) (hm : a.moves[i]? = some m) (hd : L[m.dst.toNat]? = some d) (he : L[m.src.toNat]? = some e) (h0 : 0 ≤ d) (h1 : e < 0 ∨ d' < e) (hs : d' = stepD m d) : PassI a far0 (L.set m.src.toNat d') true (i + 1) := by
 subst hs
 have h2 := relax_set h.ok hd he h0 h1
 refine ⟨?_, h2.1, fun h => Bool.noConfusion h, fun _ => ?_⟩
 · rw [take_snoc hm]
   unfold passF
   rw [List.foldl_append]
   show _ = relax (passF (a.moves.take i) far0) m
   rw [← h.eq]
   unfold relax
   rw [hd, he]
   dsimp only
   rw [if_pos ⟨h0, h1⟩]
 · cases hfl : fl
   · rw [← h.no hfl]; exact h2.2
   · exact Nat.lt_trans h2.2 (h.yes hfl)
theorem PassI.skip {a : Aut} {far0 L : List Int} {fl : Bool} {i : Nat} {m : Mv} {d e : Int} (h : PassI a far0 L fl i) (hm : a.moves[i]? = some m) (hd : L[m.dst.toNat]? = some d) (he : L[m.src.toNat]? = some e) (h1 : ¬ (0 ≤ d ∧ (e < 0 ∨ stepD m d < e))) : PassI a far0 L fl (i + 1) := by
 refine ⟨?_, h.ok, h.no, h.yes⟩
 rw [take_snoc hm]
 unfold passF
 rw [List.foldl_append]
 show _ = relax (passF (a.moves.take i) far0) m
 rw [← h.eq]
 unfold relax
 rw [hd, he]
 dsimp only
 rw [if_neg h1]
theorem PassI.done {a : Aut} {far0 L : List Int} {fl : Bool} {i : Nat} (h : PassI a far0 L fl i) (hi : a.moves.length ≤ i) : L = passF a.moves far0 := by rw [h.eq, List.take_of_length_le hi]
theorem PassI.less {a : Aut} {j i : Nat} {L : List Int} {fl : Bool} (h : PassI a (farAt a j) L fl i) (hL : L = farAt a (j + 1)) : sumF a.n.toNat (farAt a (j + 1)) + (if fl then 1 else 0) < sumF a.n.toNat (farAt a j) + (if true then 1 else 0) := by
 cases hf : fl
 · have h1 := h.no hf
   rw [hL] at h1
   rw [h1]
   simp
 · have h1 := h.yes hf
   rw [hL] at h1
   simp; omega
theorem far_bd {n : Nat} {L : List Int} (h : FarOk n L) {i : Nat} {d : Int} (hd : L[i]? = some d) : -1 ≤ d ∧ d < n := by
 have h1 := h.lo d (List.mem_of_getElem? hd)
 have h2 := h.hi d (List.mem_of_getElem? hd)
 have h3 := cntD_le L
 rw [h.len] at h3
 omega
set_option maxHeartbeats 2000000 in
theorem aDistances_e (a : Aut) (h : AOk a) : AF Tryz.prog 59 [pAut a] (· = .own 3 1 a.n.toNat ((farL a).map pInt)) := by
 have hn0 := h.n0
 have hn1 := h.n1
 have hml := h.ml
 have hfl := h.fl
 rw [pAut_n h.n0]
 refine AF.of_body 80 Tryz.func59 rfl Tryz.ntmps59 (Nat.le_of_ble_eq_true rfl) ?_
 intro w0 M0 vs hl hv
 obtain ⟨v0, rfl⟩ := len1 hl
 clear hl hv
 refine nav ?_
 (refine aC_region ?_ <;> refine s_boxa 1 5 fun h1 => ?_ <;> refine xL 2 q_assign ?_ <;> refine aL_end (nav ?_) <;> try dsimp only)
 (refine aC_region ?_ <;> refine xL 11 (q_fldo 1 tFl25_0_LdI) ?_ <;> (refine yL 12 (q_ldo 1 tNa3_LbB) fun v12 hv12 => ?_; cases hv12) <;> refine s_make 13 tEl22_LdI fun h13 ho13 => ?_ <;> refine xL 3 q_assign ?_ <;> refine aL_end (nav ?_) <;> try dsimp only)
 rw [show List.replicate a.n.toNat (PV.val (.int .i64 0)) = (List.replicate a.n.toNat (0 : Int)).map pInt by rw [List.map_replicate]]
 (refine aC_region ?_ <;> refine xL 14 q_move ?_ <;> refine xL 15 (q_leno 13 tSl22_LbB) ?_ <;> refine xL 16 q_move ?_ <;> refine aL_end (nav ?_) <;> try dsimp only)
 refine aC_loop (ι := { q : Nat × List Int // q.1 ≤ a.n.toNat ∧ q.2.length = a.n.toNat ∧ ∀ j, j < q.1 → q.2[j]? = some (-1) }) (fun k => ⟨[(1, _, _), (2, _, _), (3, _, _), (15, _, _), (16, .int .i64 k.1.1, pInt k.1.1)], [(1, _, _), (13, h13, .own 3 1 a.n.toNat (k.1.2.map pInt))]⟩) (fun k => a.n.toNat - k.1.1) ⟨(0, List.replicate a.n.toNat 0), Nat.zero_le _, List.length_replicate, fun j hj => by omega⟩ (fun a w H => H.weaken ⟨rfl, rfl, rfl, rfl, rfl, trivial⟩ ⟨rfl, rfl, trivial⟩) ?_
 rintro ⟨⟨k, L⟩, hk, hLl, hL⟩
 dsimp only
 dsimp only at hk hLl hL
 have hLm : (L.map pInt).length = a.n.toNat := by rw [List.length_map]; exact hLl
 refine nav ?_
 (refine aC_region ?_ <;> refine xL 17 q_lss ?_ <;> refine aL_end (nav ?_) <;> try dsimp only)
 (first | refine cCd ?_ ?_ | refine cC ?_ ?_) <;> intro hb17
 · first
   | exact Bool.noConfusion hb17
   | (
    refine nav ?_
    (refine aC_region ?_ <;> refine xL 18 q_move ?_ <;> refine xL 4 q_assign ?_ <;> refine aL_end (nav ?_) <;> try dsimp only)
    (refine aC_region ?_ <;> refine xL 19 q_move ?_ <;> refine xL 20 q_move ?_ <;> refine xL 21 (q_idxoN 13 tSl22_LbB) ?_ <;> refine s_st 13 tNa3_LbB tSz3_LdJ ?_ <;> refine aL_end (nav ?_) <;> try dsimp only)
    (refine aC_region ?_ <;> refine xL 22 q_add ?_ <;> refine xL 16 q_move ?_ <;> refine aL_end (nav ?_) <;> try dsimp only)
    rw [Nat.mul_one, ← List.map_set]
    refine aN_again (
     ⟨(k + 1, L.set k (-1)), by dsimp only; omega, by rw [List.length_set]; exact hLl, fun j hj => by
       dsimp only at hj ⊢
       by_cases e : k = j
       · subst e; rw [List.getElem?_set_self (by omega)]
       · rw [List.getElem?_set_ne e]; exact hL j (by omega)⟩
     ) (by dsimp only; omega) ⟨rfl, rfl, rfl, rfl, rfl, trivial⟩ ⟨rfl, rfl, trivial⟩)
 · first
   | exact Bool.noConfusion hb17
   | (
    have hF0 : FinK a 0 L := FinK.start hLl fun j hj => hL j (by omega)
    refine nav ?_
    (refine aC_region ?_ <;> refine xL 23 (q_fldo 1 tFl25_3_LdI) ?_ <;> (refine yL 24 (q_ldo 1 tNa22_LdI) fun v24 hv24 => ?_; cases hv24) <;> refine xL 25 (q_len tSl22_LbB) ?_ <;> refine xL 26 q_move ?_ <;> refine aL_end (nav ?_) <;> try dsimp only)
    refine aC_loop (ι := { q : Nat × List Int // q.1 ≤ a.fin.length ∧ FinK a q.1 q.2 }) (fun k => ⟨[(1, _, _), (2, _, _), (3, _, _), (24, _, _), (25, _, _), (26, .int .i64 k.1.1, pInt k.1.1)], [(1, _, _), (13, h13, .own 3 1 a.n.toNat (k.1.2.map pInt))]⟩) (fun k => a.fin.length - k.1.1) ⟨(0, L), Nat.zero_le _, hF0⟩ (fun a w H => H.weaken ⟨rfl, rfl, rfl, rfl, rfl, rfl, trivial⟩ ⟨rfl, rfl, trivial⟩) ?_
    rintro ⟨⟨k8, L8⟩, hk8, hF8⟩
    dsimp only
    dsimp only at hk8 hF8
    have hLm8 : (L8.map pInt).length = a.n.toNat := by rw [List.length_map]; exact hF8.1
    refine nav ?_
    (refine aC_region ?_ <;> refine xL 27 q_lss ?_ <;> refine aL_end (nav ?_) <;> try dsimp only)
    (first | refine cCd ?_ ?_ | refine cC ?_ ?_) <;> intro hb27
    · first
      | exact Bool.noConfusion hb27
      | (
       obtain ⟨t, ht⟩ := get_some (show k8 < a.fin.length by omega)
       have e1 := map_at (f := pInt) ht
       have ht2 := h.fi t (List.mem_of_getElem? ht)
       refine nav ?_
       (refine aC_region ?_ <;> refine xL 28 (q_idxN tSl22_LbB) ?_ <;> (refine yL 29 (q_ld tNa3_LbB) fun v29 hv29 => ?_; cases hv29) <;> refine xL 6 q_assign ?_ <;> refine aL_end (nav ?_) <;> try dsimp only)
       (refine aC_region ?_ <;> refine xL 30 q_move ?_ <;> refine xL 31 q_move ?_ <;> refine xL 32 (q_idxo 13 tSl22_LbB) ?_ <;> refine s_st 13 tNa3_LbB tSz3_LdJ ?_ <;> refine aL_end (nav ?_) <;> try dsimp only)
       (refine aC_region ?_ <;> refine xL 33 q_add ?_ <;> refine xL 26 q_move ?_ <;> refine aL_end (nav ?_) <;> try dsimp only)
       rw [Nat.mul_one, ← List.map_set]
       refine aN_again (
        ⟨(k8 + 1, L8.set t.toNat 0), lt_of_get ht, hF8.step ht ht2.1⟩
        ) (by dsimp only; omega) ⟨rfl, rfl, rfl, rfl, rfl, rfl, trivial⟩ ⟨rfl, rfl, trivial⟩)
    · first
      | exact Bool.noConfusion hb27
      | (
       have hF9 := hF8.done (by omega)
       subst hF9
       refine nav ?_
       (refine aC_region ?_ <;> refine xL 7 q_assign ?_ <;> refine aL_end (nav ?_) <;> try dsimp only)
       refine aC_loop (ι := { q : Nat × Bool // q.2 = false → passF a.moves (farAt a q.1) = farAt a q.1 }) (fun k => ⟨[(1, _, _), (2, _, _), (3, _, _), (7, .bool k.1.2, pBool k.1.2)], [(1, _, _), (13, h13, .own 3 1 a.n.toNat ((farAt a k.1.1).map pInt))]⟩) (fun k => sumF a.n.toNat (farAt a k.1.1) + (if k.1.2 then 1 else 0)) ⟨(0, true), fun h => Bool.noConfusion h⟩ (fun a w H => H.weaken ⟨rfl, rfl, rfl, rfl, trivial⟩ ⟨rfl, rfl, trivial⟩) ?_
       rintro ⟨⟨j, ag⟩, hag⟩
       dsimp only
       dsimp only at hag
       refine nav ?_
       (refine aC_region ?_ <;> refine xL 34 q_move ?_ <;> refine aL_end (nav ?_) <;> try dsimp only)
       (first | refine cCd ?_ ?_ | refine cC ?_ ?_) <;> intro hb34
       · first
         | exact Bool.noConfusion hb34
         | (
          refine nav ?_
          (refine aC_region ?_ <;> refine xL 7 q_assign ?_ <;> refine aL_end (nav ?_) <;> try dsimp only)
          (refine aC_region ?_ <;> refine xL 35 (q_fldo 1 tFl25_4_LdI) ?_ <;> (refine yL 36 (q_ldo 1 tNa23_LdI) fun v36 hv36 => ?_; cases hv36) <;> refine xL 37 (q_len tSl23_LdI) ?_ <;> refine xL 38 q_move ?_ <;> refine aL_end (nav ?_) <;> try dsimp only)
          refine aC_loop (ι := { q : Nat × List Int × Bool // q.1 ≤ a.moves.length ∧ PassI a (farAt a j) q.2.1 q.2.2 q.1 }) (fun k => ⟨[(1, _, _), (2, _, _), (3, _, _), (36, _, _), (37, _, _), (7, .bool k.1.2.2, pBool k.1.2.2), (38, .int .i64 k.1.1, pInt k.1.1)], [(1, _, _), (13, h13, .own 3 1 a.n.toNat (k.1.2.1.map pInt))]⟩) (fun k => a.moves.length - k.1.1) ⟨(0, farAt a j, false), Nat.zero_le _, PassI.start (farAt_ok a j)⟩ (fun a w H => H.weaken ⟨rfl, rfl, rfl, rfl, rfl, rfl, rfl, trivial⟩ ⟨rfl, rfl, trivial⟩) ?_
          rintro ⟨⟨i, L2, fl⟩, hi, hP⟩
          dsimp only
          dsimp only at hi hP
          refine nav ?_
          (refine aC_region ?_ <;> refine xL 39 q_lss ?_ <;> refine aL_end (nav ?_) <;> try dsimp only)
          (first | refine cCd ?_ ?_ | refine cC ?_ ?_) <;> intro hb39
          · first
            | exact Bool.noConfusion hb39
            | (
             obtain ⟨m, hm⟩ := get_some (show i < a.moves.length by omega)
             have e1 := flat_drop cMv_len a.moves i m hm
             have e2 := flat_fit cMv_len hm
             have hmv := h.mv m (List.mem_of_getElem? hm)
             have hLl := hP.ok.len
             obtain ⟨d, hd⟩ := get_some (show m.dst.toNat < L2.length by omega)
             obtain ⟨e, he⟩ := get_some (show m.src.toNat < L2.length by omega)
             have hdb := far_bd hP.ok hd
             have heb := far_bd hP.ok he
             have e3 := map_at (f := pInt) hd
             have e4 := map_at (f := pInt) he
             have hLm2 : (L2.map pInt).length = a.n.toNat := by rw [List.length_map]; exact hLl
             refine nav ?_
             (refine aC_region ?_ <;> refine xL 40 (q_idxN tSl23_LdI) ?_ <;> (refine yL 41 (q_lda tAgg72_LdI) fun v41 hv41 => ?_; cases hv41) <;> refine s_alloc [(.int .i64 0), (.int .i64 0), (.int .i64 0)] 3 9 tZr72_LdI fun h9 => ?_ <;> refine s_sta 9 tAgg72_LdI ?_ <;> refine aL_end (nav ?_) <;> try dsimp only)
             (refine aC_region ?_ <;> refine xL 42 q_move ?_ <;> refine xL 43 (q_fldo 9 tFl72_1_LdI) ?_ <;> (refine yL 44 (q_ldo 9 tNa3_LbB) fun v44 hv44 => ?_; cases hv44) <;> refine xL 45 (q_idxo 13 tSl22_LbB) ?_ <;> (refine yL 46 (q_ldo 13 tNa3_LbB) fun v46 hv46 => ?_; cases hv46) <;> refine xL 47 q_lss ?_ <;> refine aL_end (nav ?_) <;> try dsimp only)
             (first | refine cCd ?_ ?_ | refine cC ?_ ?_) <;> intro hb47
             · first
               | exact Bool.noConfusion hb47
               | (
                refine nav ?_
                (refine aC_region ?_ <;> refine xL 78 q_add ?_ <;> refine xL 38 q_move ?_ <;> refine aL_end (nav ?_) <;> try dsimp only)
                try rw [Nat.mul_one, ← List.map_set]
                first
                 | (exact aN_again (
                     ⟨(i + 1, L2.set m.src.toNat (d + 1), true), lt_of_get hm, hP.set hm hd he (by omega) (by first | omega | (simp at hb72; omega)) (by omega)⟩
                     ) (by dsimp only; omega) ⟨rfl, rfl, rfl, rfl, rfl, rfl, rfl, trivial⟩ ⟨rfl, rfl, trivial⟩)
                 | (exact aN_again (
                     ⟨(i + 1, L2.set m.src.toNat d, true), lt_of_get hm, hP.set hm hd he (by omega) (by first | omega | (simp at hb72; omega)) (by omega)⟩
                     ) (by dsimp only; omega) ⟨rfl, rfl, rfl, rfl, rfl, rfl, rfl, trivial⟩ ⟨rfl, rfl, trivial⟩)
                 | (exact aN_again (
                     ⟨(i + 1, L2, fl), lt_of_get hm, hP.skip hm hd he (by first | omega | (simp at hb72; omega))⟩
                     ) (by dsimp only; omega) ⟨rfl, rfl, rfl, rfl, rfl, rfl, rfl, trivial⟩ ⟨rfl, rfl, trivial⟩))
             · first
               | exact Bool.noConfusion hb47
               | (
                refine nav ?_
                (refine aC_region ?_ <;> refine xL 48 q_move ?_ <;> refine xL 49 (q_fldo 9 tFl72_1_LdI) ?_ <;> (refine yL 50 (q_ldo 9 tNa3_LbB) fun v50 hv50 => ?_; cases hv50) <;> refine xL 51 (q_idxo 13 tSl22_LbB) ?_ <;> (refine yL 52 (q_ldo 13 tNa3_LbB) fun v52 hv52 => ?_; cases hv52) <;> refine xL 10 q_assign ?_ <;> refine aL_end (nav ?_) <;> try dsimp only)
                (refine aC_region ?_ <;> refine xL 53 (q_fldo 9 tFl72_2_LdI) ?_ <;> (refine yL 54 (q_ldo 9 tNa3_LbB) fun v54 hv54 => ?_; cases hv54) <;> refine xL 55 q_geq ?_ <;> refine aL_end (nav ?_) <;> try dsimp only)
                (first | refine cCd ?_ ?_ | refine cC ?_ ?_) <;> intro hb55
                · first
                  | exact Bool.noConfusion hb55
                  | (
                   have hst : stepD m d = d + 1 := by unfold stepD; rw [if_pos (by omega)]
                   refine nav ?_
                   (refine aC_region ?_ <;> refine xL 56 q_move ?_ <;> refine xL 57 q_add ?_ <;> refine xL 10 q_assign ?_ <;> refine aL_end (nav ?_) <;> try dsimp only)
                   (refine aC_region ?_ <;> refine xL 58 q_move ?_ <;> refine xL 59 (q_fldo 9 tFl72_0_LdI) ?_ <;> (refine yL 60 (q_ldo 9 tNa3_LbB) fun v60 hv60 => ?_; cases hv60) <;> refine xL 61 (q_idxo 13 tSl22_LbB) ?_ <;> (refine yL 62 (q_ldo 13 tNa3_LbB) fun v62 hv62 => ?_; cases hv62) <;> refine xL 63 q_lss ?_ <;> refine xL 64 q_move ?_ <;> (refine bLd 64 (fun hb64 => ?_) (fun hb64 => ?_) <;> (first | refine kL 65 ?_ | refine xL 65 q_move ?_)) <;> (first | refine kL 66 ?_ | refine xL 66 q_move ?_) <;> (first | refine kL 67 ?_ | refine xL 67 (q_fldo 9 tFl72_0_LdI) ?_) <;> (first | refine kL 68 ?_ | (refine yL 68 (q_ldo 9 tNa3_LbB) fun v68 hv68 => ?_; cases hv68)) <;> (first | refine kL 69 ?_ | refine xL 69 (q_idxo 13 tSl22_LbB) ?_) <;> (first | refine kL 70 ?_ | (refine yL 70 (q_ldo 13 tNa3_LbB) fun v70 hv70 => ?_; cases hv70)) <;> (first | refine kL 71 ?_ | refine xL 71 q_lss ?_) <;> refine xL 72 q_pick ?_ <;> refine aL_end (nav ?_) <;> try dsimp only) <;> (
                    (first | refine cCd ?_ ?_ | refine cC ?_ ?_) <;> intro hb72
                    · first
                      | exact Bool.noConfusion hb72
                      | (
                       refine nav ?_
                       (refine aC_region ?_ <;> refine xL 73 q_move ?_ <;> refine xL 74 (q_fldo 9 tFl72_0_LdI) ?_ <;> (refine yL 75 (q_ldo 9 tNa3_LbB) fun v75 hv75 => ?_; cases hv75) <;> refine xL 76 q_move ?_ <;> refine xL 77 (q_idxo 13 tSl22_LbB) ?_ <;> refine s_st 13 tNa3_LbB tSz3_LdJ ?_ <;> refine aL_end (nav ?_) <;> try dsimp only)
                       (refine aC_region ?_ <;> refine xL 7 q_assign ?_ <;> refine aL_end (nav ?_) <;> try dsimp only)
                       (refine aC_region ?_ <;> refine xL 78 q_add ?_ <;> refine xL 38 q_move ?_ <;> refine aL_end (nav ?_) <;> try dsimp only)
                       try rw [Nat.mul_one, ← List.map_set]
                       first
                        | (exact aN_again (
                            ⟨(i + 1, L2.set m.src.toNat (d + 1), true), lt_of_get hm, hP.set hm hd he (by omega) (by first | omega | (simp at hb72; omega)) (by omega)⟩
                            ) (by dsimp only; omega) ⟨rfl, rfl, rfl, rfl, rfl, rfl, rfl, trivial⟩ ⟨rfl, rfl, trivial⟩)
                        | (exact aN_again (
                            ⟨(i + 1, L2.set m.src.toNat d, true), lt_of_get hm, hP.set hm hd he (by omega) (by first | omega | (simp at hb72; omega)) (by omega)⟩
                            ) (by dsimp only; omega) ⟨rfl, rfl, rfl, rfl, rfl, rfl, rfl, trivial⟩ ⟨rfl, rfl, trivial⟩)
                        | (exact aN_again (
                            ⟨(i + 1, L2, fl), lt_of_get hm, hP.skip hm hd he (by first | omega | (simp at hb72; omega))⟩
                            ) (by dsimp only; omega) ⟨rfl, rfl, rfl, rfl, rfl, rfl, rfl, trivial⟩ ⟨rfl, rfl, trivial⟩))
                    · first
                      | exact Bool.noConfusion hb72
                      | (
                       refine nav ?_
                       (refine aC_region ?_ <;> refine xL 78 q_add ?_ <;> refine xL 38 q_move ?_ <;> refine aL_end (nav ?_) <;> try dsimp only)
                       try rw [Nat.mul_one, ← List.map_set]
                       first
                        | (exact aN_again (
                            ⟨(i + 1, L2.set m.src.toNat (d + 1), true), lt_of_get hm, hP.set hm hd he (by omega) (by first | omega | (simp at hb72; omega)) (by omega)⟩
                            ) (by dsimp only; omega) ⟨rfl, rfl, rfl, rfl, rfl, rfl, rfl, trivial⟩ ⟨rfl, rfl, trivial⟩)
                        | (exact aN_again (
                            ⟨(i + 1, L2.set m.src.toNat d, true), lt_of_get hm, hP.set hm hd he (by omega) (by first | omega | (simp at hb72; omega)) (by omega)⟩
                            ) (by dsimp only; omega) ⟨rfl, rfl, rfl, rfl, rfl, rfl, rfl, trivial⟩ ⟨rfl, rfl, trivial⟩)
                        | (exact aN_again (
                            ⟨(i + 1, L2, fl), lt_of_get hm, hP.skip hm hd he (by first | omega | (simp at hb72; omega))⟩
                            ) (by dsimp only; omega) ⟨rfl, rfl, rfl, rfl, rfl, rfl, rfl, trivial⟩ ⟨rfl, rfl, trivial⟩))))
                · first
                  | exact Bool.noConfusion hb55
                  | (
                   have hst : stepD m d = d := by unfold stepD; rw [if_neg (by omega)]
                   refine nav ?_
                   (refine aC_region ?_ <;> refine xL 58 q_move ?_ <;> refine xL 59 (q_fldo 9 tFl72_0_LdI) ?_ <;> (refine yL 60 (q_ldo 9 tNa3_LbB) fun v60 hv60 => ?_; cases hv60) <;> refine xL 61 (q_idxo 13 tSl22_LbB) ?_ <;> (refine yL 62 (q_ldo 13 tNa3_LbB) fun v62 hv62 => ?_; cases hv62) <;> refine xL 63 q_lss ?_ <;> refine xL 64 q_move ?_ <;> (refine bLd 64 (fun hb64 => ?_) (fun hb64 => ?_) <;> (first | refine kL 65 ?_ | refine xL 65 q_move ?_)) <;> (first | refine kL 66 ?_ | refine xL 66 q_move ?_) <;> (first | refine kL 67 ?_ | refine xL 67 (q_fldo 9 tFl72_0_LdI) ?_) <;> (first | refine kL 68 ?_ | (refine yL 68 (q_ldo 9 tNa3_LbB) fun v68 hv68 => ?_; cases hv68)) <;> (first | refine kL 69 ?_ | refine xL 69 (q_idxo 13 tSl22_LbB) ?_) <;> (first | refine kL 70 ?_ | (refine yL 70 (q_ldo 13 tNa3_LbB) fun v70 hv70 => ?_; cases hv70)) <;> (first | refine kL 71 ?_ | refine xL 71 q_lss ?_) <;> refine xL 72 q_pick ?_ <;> refine aL_end (nav ?_) <;> try dsimp only) <;> (
                    (first | refine cCd ?_ ?_ | refine cC ?_ ?_) <;> intro hb72
                    · first
                      | exact Bool.noConfusion hb72
                      | (
                       refine nav ?_
                       (refine aC_region ?_ <;> refine xL 73 q_move ?_ <;> refine xL 74 (q_fldo 9 tFl72_0_LdI) ?_ <;> (refine yL 75 (q_ldo 9 tNa3_LbB) fun v75 hv75 => ?_; cases hv75) <;> refine xL 76 q_move ?_ <;> refine xL 77 (q_idxo 13 tSl22_LbB) ?_ <;> refine s_st 13 tNa3_LbB tSz3_LdJ ?_ <;> refine aL_end (nav ?_) <;> try dsimp only)
                       (refine aC_region ?_ <;> refine xL 7 q_assign ?_ <;> refine aL_end (nav ?_) <;> try dsimp only)
                       (refine aC_region ?_ <;> refine xL 78 q_add ?_ <;> refine xL 38 q_move ?_ <;> refine aL_end (nav ?_) <;> try dsimp only)
                       try rw [Nat.mul_one, ← List.map_set]
                       first
                        | (exact aN_again (
                            ⟨(i + 1, L2.set m.src.toNat (d + 1), true), lt_of_get hm, hP.set hm hd he (by omega) (by first | omega | (simp at hb72; omega)) (by omega)⟩
                            ) (by dsimp only; omega) ⟨rfl, rfl, rfl, rfl, rfl, rfl, rfl, trivial⟩ ⟨rfl, rfl, trivial⟩)
                        | (exact aN_again (
                            ⟨(i + 1, L2.set m.src.toNat d, true), lt_of_get hm, hP.set hm hd he (by omega) (by first | omega | (simp at hb72; omega)) (by omega)⟩
                            ) (by dsimp only; omega) ⟨rfl, rfl, rfl, rfl, rfl, rfl, rfl, trivial⟩ ⟨rfl, rfl, trivial⟩)
                        | (exact aN_again (
                            ⟨(i + 1, L2, fl), lt_of_get hm, hP.skip hm hd he (by first | omega | (simp at hb72; omega))⟩
                            ) (by dsimp only; omega) ⟨rfl, rfl, rfl, rfl, rfl, rfl, rfl, trivial⟩ ⟨rfl, rfl, trivial⟩))
                    · first
                      | exact Bool.noConfusion hb72
                      | (
                       refine nav ?_
                       (refine aC_region ?_ <;> refine xL 78 q_add ?_ <;> refine xL 38 q_move ?_ <;> refine aL_end (nav ?_) <;> try dsimp only)
                       try rw [Nat.mul_one, ← List.map_set]
                       first
                        | (exact aN_again (
                            ⟨(i + 1, L2.set m.src.toNat (d + 1), true), lt_of_get hm, hP.set hm hd he (by omega) (by first | omega | (simp at hb72; omega)) (by omega)⟩
                            ) (by dsimp only; omega) ⟨rfl, rfl, rfl, rfl, rfl, rfl, rfl, trivial⟩ ⟨rfl, rfl, trivial⟩)
                        | (exact aN_again (
                            ⟨(i + 1, L2.set m.src.toNat d, true), lt_of_get hm, hP.set hm hd he (by omega) (by first | omega | (simp at hb72; omega)) (by omega)⟩
                            ) (by dsimp only; omega) ⟨rfl, rfl, rfl, rfl, rfl, rfl, rfl, trivial⟩ ⟨rfl, rfl, trivial⟩)
                        | (exact aN_again (
                            ⟨(i + 1, L2, fl), lt_of_get hm, hP.skip hm hd he (by first | omega | (simp at hb72; omega))⟩
                            ) (by dsimp only; omega) ⟨rfl, rfl, rfl, rfl, rfl, rfl, rfl, trivial⟩ ⟨rfl, rfl, trivial⟩))))))
          · first
            | exact Bool.noConfusion hb39
            | (
             have hL2 : L2 = farAt a (j + 1) := hP.done (by omega)
             have hms : sumF a.n.toNat (farAt a (j + 1)) + (if fl then 1 else 0) < sumF a.n.toNat (farAt a j) + (if ag then 1 else 0) := by rw [show ag = true from hb34]; exact hP.less hL2
             refine nav ?_
             rw [hL2]
             refine aN_again (
              ⟨(j + 1, fl), fun hf => by
                have h1 := hP.no hf
                rw [hL2] at h1
                show passF a.moves (farAt a (j + 1)) = farAt a (j + 1)
                rw [h1]
                exact h1⟩
              ) (hms) ⟨rfl, rfl, rfl, rfl, trivial⟩ ⟨rfl, rfl, trivial⟩))
       · first
         | exact Bool.noConfusion hb34
         | (
          refine nav ?_
          (refine aC_region ?_ <;> refine xL 79 q_move ?_ <;> refine xL 2 q_assign ?_ <;> refine aL_end (nav ?_) <;> try dsimp only)
          refine ret_own 13 (Tryz.results59) rfl rfl ?_
          rw [farL_eq (hag (by simpa using hb34))])))
theorem tEl123_LdR : ElT Tryz.prog 123 23 1 24 (.slice none 0 0) := ⟨Tryz.underlying123, by kernel_rfl, rfl, by decide⟩
theorem tEl23_LdR : ElT Tryz.prog 23 72 3 24 (.agg #[(.int .i64 0), (.int .i64 0), (.int .i64 0)]) := ⟨Tryz.underlying23, by kernel_rfl, rfl, by decide⟩
theorem tEl66_LdR : ElT Tryz.prog 66 4 1 1 (.bool false) := ⟨Tryz.underlying66, by kernel_rfl, rfl, by decide⟩
theorem tSt125_LdR : stInfo Tryz.prog 125 = some ((.agg #[(.int .i64 0), (.slice none 0 0), (.slice none 0 0)]), ([0, 1, 2] : List Nat).map fun o => (o, 1)) := by kernel_rfl
theorem tSz23_LdR : (Tryz.prog.info? 23).map (·.size) = some 1 := by kernel_rfl
theorem tSz4_LdR : (Tryz.prog.info? 4).map (·.size) = some 1 := by kernel_rfl
def oMvs (e : Nat) (l : List Mv) : PV := .own e 3 l.length (l.flatMap cMv)
theorem share_mvs (e : Nat) (l : List Mv) : share (oMvs e l) = pMvs l := by
 unfold oMvs
 rw [share, shares_eq, List.map_flatMap]; rfl
def byState (ms : List Mv) (s : Nat) : List Mv := ms.filter fun m => decide (m.src = (s : Int))
def rowsMv (e n : Nat) (ms : List Mv) : List PV := (List.range n).map fun s => oMvs e (byState ms s)
theorem rowsMv_len (e n : Nat) (ms : List Mv) : (rowsMv e n ms).length = n := by unfold rowsMv; simp
theorem rowsMv_at (e : Nat) {n s : Nat} (ms : List Mv) (h : s < n) : (rowsMv e n ms)[s]? = some (oMvs e (byState ms s)) := by
 unfold rowsMv; rw [List.getElem?_map, List.getElem?_range h]; rfl
theorem rowsMv_step (e : Nat) {n : Nat} {ms : List Mv} {m : Mv} (h0 : 0 ≤ m.src) (h : m.src < n) : (rowsMv e n ms).set m.src.toNat (oMvs e (byState ms m.src.toNat ++ [m])) = rowsMv e n (ms ++ [m]) := by
 apply List.ext_getElem?
 intro s
 rcases Nat.lt_or_ge s n with hs | hs
 · rw [rowsMv_at e _ hs]
   by_cases e1 : m.src.toNat = s
   · subst e1
     rw [List.getElem?_set_self (by rw [rowsMv_len]; exact hs)]
     congr 2
     unfold byState
     rw [List.filter_append]
     congr 1
     simp only [List.filter_cons, List.filter_nil]
     rw [decide_eq_true (show m.src = ((m.src.toNat : Nat) : Int) by omega)]; rfl
   · rw [List.getElem?_set_ne e1, rowsMv_at e _ hs]
     congr 2
     unfold byState
     rw [List.filter_append]
     simp only [List.filter_cons, List.filter_nil]
     rw [decide_eq_false (show ¬ m.src = (s : Int) by omega)]; simp
 · rw [List.getElem?_eq_none (by rw [List.length_set, rowsMv_len]; exact hs), List.getElem?_eq_none (by rw [rowsMv_len]; exact hs)]
theorem nilTo_mv (e n : Nat) : ∀ (i : Nat) (p p' : PV), (List.replicate n (PV.val (.slice none 0 0)))[i]? = some p → (rowsMv e n [])[i]? = some p' → nilTo p p' := fun i p p' h1 h2 => by
 have hi := lt_of_get h2
 rw [rowsMv_len] at hi
 rw [rowsMv_at e _ hi] at h2
 rw [List.getElem?_replicate, if_pos hi] at h1
 cases h1; cases h2
 exact .inr ⟨rfl, e, 3, rfl⟩
theorem byState_len (ms : List Mv) (s : Nat) : (byState ms s).length ≤ ms.length := List.length_filter_le _ _
def finsL (a : Aut) (k : Nat) : List PV := (List.range a.n.toNat).map fun s => pBool ((a.fin.take k).any fun t => decide (t = (s : Nat)))
theorem finsL_len (a : Aut) (k : Nat) : (finsL a k).length = a.n.toNat := by unfold finsL; simp
theorem finsL_at {a : Aut} {k s : Nat} (h : s < a.n.toNat) : (finsL a k)[s]? = some (pBool ((a.fin.take k).any fun t => decide (t = (s : Nat)))) := by
 unfold finsL; rw [List.getElem?_map, List.getElem?_range h]; rfl
theorem finsL_step {a : Aut} {k : Nat} {t : Int} (ht : a.fin[k]? = some t) (h0 : 0 ≤ t) : (finsL a k).set t.toNat (pBool true) = finsL a (k + 1) := by
 apply List.ext_getElem?
 intro s
 rcases Nat.lt_or_ge s a.n.toNat with hs | hs
 · rw [finsL_at hs]
   rw [take_snoc ht, List.any_append]
   simp only [List.any_cons, List.any_nil, Bool.or_false]
   by_cases e : t.toNat = s
   · subst e
     rw [List.getElem?_set_self (by rw [finsL_len]; exact hs), decide_eq_true (show t = ((t.toNat : Nat) : Int) by omega), Bool.or_true]
   · rw [List.getElem?_set_ne e, finsL_at hs, decide_eq_false (show ¬ t = (s : Int) by omega), Bool.or_false]
 · rw [List.getElem?_eq_none (by rw [List.length_set, finsL_len]; exact hs), List.getElem?_eq_none (by rw [finsL_len]; exact hs)]
theorem finsL_zero (a : Aut) : List.replicate a.n.toNat (PV.val (.bool false)) = finsL a 0 := by
 apply List.ext_getElem?
 intro s
 rcases Nat.lt_or_ge s a.n.toNat with hs | hs
 · rw [finsL_at hs, List.getElem?_replicate, if_pos hs]; rfl
 · rw [List.getElem?_eq_none (by rw [List.length_replicate]; exact hs), List.getElem?_eq_none (by rw [finsL_len]; exact hs)]
theorem share_gr (e0 e1 e2 : Nat) (a : Aut) {k1 k2 : Nat} (h1 : a.moves.length ≤ k1) (h2 : a.fin.length ≤ k2) : shares [pInt a.syms, PV.own e0 1 a.n.toNat (rowsMv e1 a.n.toNat (a.moves.take k1)), PV.own e2 1 a.n.toNat (finsL a k2)] = [pInt a.syms, grMoves a, grFin a] := by
 rw [List.take_of_length_le h1]
 simp only [shares, share]
 congr 1
 congr 1
 · unfold grMoves rowsMv
   rw [shares_eq, List.map_map]
   congr 1
   exact List.map_congr_left fun s _ => share_mvs e1 _
 · congr 1
   unfold grFin finsL
   rw [shares_eq, List.map_map, List.take_of_length_le h2]; rfl
theorem snoc_mvs (e : Nat) (L : List Mv) (x : Mv) : PV.own e 3 (L.length + 1) (L.flatMap cMv ++ cMv x) = oMvs e (L ++ [x]) := by unfold oMvs; simp
set_option maxHeartbeats 2000000 in
theorem aGraphOf_e (a : Aut) (h : AOk a) : AF Tryz.prog 58 [pAut a] (· = pGr a) := by
 have hn0 := h.n0
 have hn1 := h.n1
 have hml := h.ml
 have hfl := h.fl
 rw [pAut_n h.n0]
 refine AF.of_body 59 Tryz.func58 rfl Tryz.ntmps58 (Nat.le_of_ble_eq_true rfl) ?_
 intro w0 M0 vs hl hv
 obtain ⟨v0, rfl⟩ := len1 hl
 clear hl hv
 refine nav ?_
 (refine aC_region ?_ <;> refine s_boxa 1 5 fun h1 => ?_ <;> refine xL 2 q_assign ?_ <;> refine aL_end (nav ?_) <;> try dsimp only)
 (refine aC_draw (fun i => ([] : List Nat).elem i) [1] (by kernel_rfl) ?_ <;> refine xD 0 8 rfl (q_fldo 1 tFl25_1_LdI) ?_ <;> (refine yD 1 9 rfl (q_ldo 1 tNa3_LbB) fun v9 hv9 => ?_; cases hv9) <;> refine xD 2 10 rfl (q_fldo 1 tFl25_0_LdI) ?_ <;> (refine yD 3 11 rfl (q_ldo 1 tNa3_LbB) fun v11 hv11 => ?_; cases hv11) <;> refine xD 5 13 rfl (q_fldo 1 tFl25_0_LdI) ?_ <;> (refine yD 6 14 rfl (q_ldo 1 tNa3_LbB) fun v14 hv14 => ?_; cases hv14) <;> (refine aD_two 4 7 (by kernel_rfl) ?_ ?_; rotate_right; (focus ((refine aW_run rfl fun w9 M9 N9 DQ back => ?_) <;> refine s_make 15 tEl66_LdR fun h15 ho15 => ?_ <;> refine aL_end (back _ (nrm ?_)) <;> (refine aD_one 4 (by kernel_rfl) ?_) <;> (refine aW_run rfl fun w9 M9 N9 DQ back => ?_) <;> refine s_make 12 tEl123_LdR fun h12 ho12 => ?_ <;> refine aL_end (back _ (nrm ?_)) <;> refine xE 8 16 rfl (q_build tSt125_LdR) ?_ <;> (refine aD_one 9 (by kernel_rfl) ?_) <;> (refine aW_run rfl fun w9 M9 N9 DQ back => ?_) <;> refine s_boxa 17 3 fun h17 => ?_ <;> refine aL_end (back _ (nrm ?_)) <;> (refine aD_one 10 (by kernel_rfl) ?_) <;> (refine aW_run rfl fun w9 M9 N9 DQ back => ?_) <;> refine xL 3 q_assign ?_ <;> refine aL_end (back _ (nrm ?_)))); rotate_right; (focus ((refine aW_run rfl fun w9 M9 N9 DQ back => ?_) <;> refine s_make 12 tEl123_LdR fun h12 ho12 => ?_ <;> refine aL_end (back _ (nrm ?_)) <;> (refine aD_one 7 (by kernel_rfl) ?_) <;> (refine aW_run rfl fun w9 M9 N9 DQ back => ?_) <;> refine s_make 15 tEl66_LdR fun h15 ho15 => ?_ <;> refine aL_end (back _ (nrm ?_)) <;> refine xE 8 16 rfl (q_build tSt125_LdR) ?_ <;> (refine aD_one 9 (by kernel_rfl) ?_) <;> (refine aW_run rfl fun w9 M9 N9 DQ back => ?_) <;> refine s_boxa 17 3 fun h17 => ?_ <;> refine aL_end (back _ (nrm ?_)) <;> (refine aD_one 10 (by kernel_rfl) ?_) <;> (refine aW_run rfl fun w9 M9 N9 DQ back => ?_) <;> refine xL 3 q_assign ?_ <;> refine aL_end (back _ (nrm ?_))))) <;> refine aD_end (by kernel_rfl) (nav ?_) <;> try dsimp only) <;> (
  refine aC_ent (nilCells (l := 12) (rowsMv 72 a.n.toNat []) rfl (by rw [rowsMv_len, List.length_replicate]) (nilTo_mv _ _)) fun _ => ?_
  rw [finsL_zero a]
  (refine aC_region ?_ <;> refine xL 18 (q_fldo 1 tFl25_4_LdI) ?_ <;> (refine yL 19 (q_ldo 1 tNa23_LdI) fun v19 hv19 => ?_; cases hv19) <;> refine xL 20 (q_len tSl23_LdI) ?_ <;> refine xL 21 q_move ?_ <;> refine aL_end (nav ?_) <;> try dsimp only)
  refine aC_loop (ι := { q : Nat // q ≤ a.moves.length }) (fun k => ⟨[(1, _, _), (2, _, _), (3, _, _), (19, _, _), (20, _, _), (21, .int .i64 k.1, pInt k.1)], [(1, _, _), (15, _, _), (17, h17, .own 125 3 1 [pInt a.syms, .val h12, .val h15]), (12, h12, .own 23 1 a.n.toNat (rowsMv 72 a.n.toNat (a.moves.take k.1)))]⟩) (fun k => a.moves.length - k.1) ⟨0, Nat.zero_le _⟩ (fun a w H => H.weaken ⟨rfl, rfl, rfl, rfl, rfl, rfl, trivial⟩ ⟨rfl, rfl, rfl, rfl, trivial⟩) ?_
  rintro ⟨k, hk⟩
  dsimp only
  refine nav ?_
  (refine aC_region ?_ <;> refine xL 22 q_lss ?_ <;> refine aL_end (nav ?_) <;> try dsimp only)
  (first | refine cCd ?_ ?_ | refine cC ?_ ?_) <;> intro hb22
  · first
    | exact Bool.noConfusion hb22
    | (
     obtain ⟨m, hm⟩ := get_some (show k < a.moves.length by omega)
     have e1 := flat_drop cMv_len a.moves k m hm
     have e2 := flat_fit cMv_len hm
     have hmv := h.mv m (List.mem_of_getElem? hm)
     have hi : m.src.toNat < a.n.toNat := by omega
     refine nav ?_
     (refine aC_region ?_ <;> refine xL 23 (q_idxN tSl23_LdI) ?_ <;> (refine yL 24 (q_lda tAgg72_LdI) fun v24 hv24 => ?_; cases hv24) <;> refine s_alloc [(.int .i64 0), (.int .i64 0), (.int .i64 0)] 3 5 tZr72_LdI fun h5 => ?_ <;> refine s_sta 5 tAgg72_LdI ?_ <;> refine aL_end (nav ?_) <;> try dsimp only)
     refine aC_ent (focusO (l := 12) (l' := 201) (j := m.src.toNat) rfl (rowsMv_at _ _ hi) rfl rfl) fun i => ?_
     obtain ⟨m1, hm1⟩ := i
     dsimp only
     have e3 : ((rowsMv 72 a.n.toNat (a.moves.take k)).set m.src.toNat (.val m1))[m.src.toNat * 1]? = some (.val m1) := by rw [Nat.mul_one, List.getElem?_set_self (by rw [rowsMv_len]; exact hi)]
     have e4 : ((rowsMv 72 a.n.toNat (a.moves.take k)).set m.src.toNat (.val m1)).length = a.n.toNat := by rw [List.length_set, rowsMv_len]
     have e5 := byState_len (a.moves.take k) m.src.toNat
     rw [List.length_take] at e5
     (refine aC_draw (fun i => ([18] : List Nat).elem i) [5, 12, 17] (by kernel_rfl) ?_ <;> refine xD 0 25 rfl q_move ?_ <;> refine xD 1 26 rfl (q_nilo 17) ?_ <;> refine xD 2 27 rfl (q_fldo 17 tFl125_1_LdL) ?_ <;> (refine yD 3 28 rfl (q_ldo 17 tNa123_LdL) fun v28 hv28 => ?_; cases hv28) <;> refine xD 4 29 rfl (q_fldo 5 tFl72_0_LdI) ?_ <;> (refine yD 5 30 rfl (q_ldo 5 tNa3_LbB) fun v30 hv30 => ?_; cases hv30) <;> refine xD 6 31 rfl q_move ?_ <;> refine xD 7 32 rfl (q_nilo 17) ?_ <;> refine xD 8 33 rfl (q_fldo 17 tFl125_1_LdL) ?_ <;> (refine yD 9 34 rfl (q_ldo 17 tNa123_LdL) fun v34 hv34 => ?_; cases hv34) <;> refine xD 10 35 rfl (q_fldo 5 tFl72_0_LdI) ?_ <;> (refine yD 11 36 rfl (q_ldo 5 tNa3_LbB) fun v36 hv36 => ?_; cases hv36) <;> refine xD 12 37 rfl (q_idxo 12 tSl123_LdL) ?_ <;> (refine yD 13 38 rfl (q_ldo 12 tNa23_LdI) fun v38 hv38 => ?_; cases hv38) <;> (refine yE 14 39 rfl (q_ldao 5 tAgg72_LdI) fun v39 hv39 => ?_; cases hv39) <;> (refine aD_one 15 (by kernel_rfl) ?_) <;> (refine aW_run rfl fun w9 M9 N9 DQ back => ?_) <;> refine s_lit1a 40 tEl23_LdR fun h40 ho40 => ?_ <;> refine aL_end (back _ (nrm ?_)) <;> (refine aD_one 16 (by kernel_rfl) ?_) <;> (refine aW_run rfl fun w9 M9 N9 DQ back => ?_) <;> refine s_app 201 40 41 tEl23_LdR fun h41 ho41 => ?_ <;> refine aL_end (back _ (nrm ?_)) <;> refine xE 17 42 rfl (q_idxo 12 tSl123_LdL) ?_ <;> (refine aD_one 18 (by kernel_rfl) ?_) <;> (refine aW_last rfl rfl (by kernel_rfl) fun DQ back => ?_) <;> refine s_st 12 tNa23_LdI tSz23_LdR ?_ <;> refine aL_end (back _ (nav ?_)) <;> try dsimp only)
     (refine aC_region ?_ <;> refine xL 43 q_add ?_ <;> refine xL 21 q_move ?_ <;> refine aL_end (nav ?_) <;> try dsimp only)
     refine aN_ent (fold (l := 12) (l' := 41) (j := m.src.toNat) rfl (by rw [Nat.mul_one]; exact List.getElem?_set_self (by rw [List.length_set, rowsMv_len]; exact hi)) rfl rfl) fun _ => ?_
     rw [Nat.mul_one, List.set_set, List.set_set]
     rw [show List.take 3 (List.drop 0 (setL (List.map PV.val [Value.int IntKind.i64 0, Value.int IntKind.i64 0, Value.int IntKind.i64 0]) 0 (cMv m))) = cMv m from rfl]
     rw [show PV.own 72 3 ((byState (a.moves.take k) m.src.toNat).length + 1) ((byState (a.moves.take k) m.src.toNat).flatMap cMv ++ cMv m) = oMvs 72 (byState (a.moves.take k) m.src.toNat ++ [m]) from snoc_mvs _ _ _]
     rw [rowsMv_step _ (by omega) (by omega), ← take_snoc hm]
     refine aN_again (
      ⟨k + 1, lt_of_get hm⟩
      ) (by dsimp only; omega) ⟨rfl, rfl, rfl, rfl, rfl, rfl, trivial⟩ ⟨rfl, rfl, rfl, rfl, trivial⟩)
  · first
    | exact Bool.noConfusion hb22
    | (
     refine nav ?_
     (refine aC_region ?_ <;> refine xL 44 (q_fldo 1 tFl25_3_LdI) ?_ <;> (refine yL 45 (q_ldo 1 tNa22_LdI) fun v45 hv45 => ?_; cases hv45) <;> refine xL 46 (q_len tSl22_LbB) ?_ <;> refine xL 47 q_move ?_ <;> refine aL_end (nav ?_) <;> try dsimp only)
     refine aC_loop (ι := { q : Nat // q ≤ a.fin.length }) (fun k => ⟨[(1, _, _), (2, _, _), (3, _, _), (45, _, _), (46, _, _), (47, .int .i64 k.1, pInt k.1)], [(1, _, _), (12, _, _), (17, h17, .own 125 3 1 [pInt a.syms, .val h12, .val h15]), (15, h15, .own 4 1 a.n.toNat (finsL a k.1))]⟩) (fun k => a.fin.length - k.1) ⟨0, Nat.zero_le _⟩ (fun a w H => H.weaken ⟨rfl, rfl, rfl, rfl, rfl, rfl, trivial⟩ ⟨rfl, rfl, rfl, rfl, trivial⟩) ?_
     rintro ⟨k8, hk8⟩
     dsimp only
     refine nav ?_
     (refine aC_region ?_ <;> refine xL 48 q_lss ?_ <;> refine aL_end (nav ?_) <;> try dsimp only)
     (first | refine cCd ?_ ?_ | refine cC ?_ ?_) <;> intro hb48
     · first
       | exact Bool.noConfusion hb48
       | (
        obtain ⟨t, ht⟩ := get_some (show k8 < a.fin.length by omega)
        have e1 := map_at (f := pInt) ht
        have ht2 := h.fi t (List.mem_of_getElem? ht)
        have e6 := finsL_len a k8
        refine nav ?_
        (refine aC_region ?_ <;> refine xL 49 (q_idxN tSl22_LbB) ?_ <;> (refine yL 50 (q_ld tNa3_LbB) fun v50 hv50 => ?_; cases hv50) <;> refine xL 7 q_assign ?_ <;> refine aL_end (nav ?_) <;> try dsimp only)
        (refine aC_region ?_ <;> refine xL 51 q_move ?_ <;> refine xL 52 (q_nilo 17) ?_ <;> refine xL 53 (q_fldo 17 tFl125_2_LdJ) ?_ <;> (refine yL 54 (q_ldo 17 tNa66_LdJ) fun v54 hv54 => ?_; cases hv54) <;> refine xL 55 q_move ?_ <;> refine xL 56 (q_idxo 15 tSl66_LdJ) ?_ <;> refine s_st 15 tNa4_LdJ tSz4_LdR ?_ <;> refine aL_end (nav ?_) <;> try dsimp only)
        (refine aC_region ?_ <;> refine xL 57 q_add ?_ <;> refine xL 47 q_move ?_ <;> refine aL_end (nav ?_) <;> try dsimp only)
        rw [Nat.mul_one, finsL_step ht ht2.1]
        refine aN_again (
         ⟨k8 + 1, lt_of_get ht⟩
         ) (by dsimp only; omega) ⟨rfl, rfl, rfl, rfl, rfl, rfl, trivial⟩ ⟨rfl, rfl, rfl, rfl, trivial⟩)
     · first
       | exact Bool.noConfusion hb48
       | (
        refine nav ?_
        (refine aC_region ?_ <;> refine xL 58 q_move ?_ <;> refine xL 2 q_assign ?_ <;> refine aL_end (nav ?_) <;> try dsimp only)
        refine aR_ent (fold (l := 17) (l' := 12) (j := 1) rfl rfl rfl rfl) fun _ => ?_
        refine aR_ent (fold (l := 17) (l' := 15) (j := 2) rfl rfl rfl rfl) fun _ => ?_
        refine aR_ent (freezeP (l := 17) (t := 2) (j := 0) rfl Nat.one_pos rfl) fun _ => ?_
        refine ret_shr (Tryz.results58) rfl ?_
        exact congrArg (PV.sptr 0) (share_gr _ _ _ a (by omega) (by omega)))))
end Go.Proofs.YtgigclnaicbiaaaGreatDoor
namespace Go.En
open Go.RowKit Go.Cb
set_option linter.all false
section
variable {P : Program} {st : St} {o : Oper}
theorem agg_plain {M : BS} {w : World} {v : Value} {us : List Value} (h : Shr M w v (.agg (us.map PV.val))) : v = .agg us.toArray := by
 generalize hp : PV.agg (us.map PV.val) = p at h
 cases h with
 | agg vs ps hl hT =>
   cases hp
   congr 2
   apply List.ext_getElem?
   intro i
   rw [List.length_map] at hl
   rcases Nat.lt_or_ge i us.length with hi | hi
   · obtain ⟨u, hu⟩ := get_of_lt hi
     obtain ⟨x, hx⟩ := get_of_len hu hl.symm
     have h1 := hT i x (.val u) hx (by rw [List.getElem?_map, hu]; rfl)
     have h2 : x = u := h1.vOf
     rw [hx, hu, h2]
   · rw [List.getElem?_eq_none hi, List.getElem?_eq_none (by omega)]
 | _ => cases hp
theorem q_eqS {t r : Nat} {x y : Operand} {v v' : Value} {us us' : List Value} {b : Bool} (ht : P.underlying t = some (.struct (P.fieldsOf t))) (hp : P.stoodInHeld t = false) (hg : P.eqGuardType P.depth t = false)
 (hE : ∀ w, (Op.eqFields 9999 us.toArray us'.toArray (P.fieldsOf t).toList).run P w = .ok b w) (hx : ev st.slots x = some (v, .agg (us.map PV.val))) (hy : ev st.slots y = some (v', .agg (us'.map PV.val))) (ho : o.op = .binOp .eql t x y r := by exact rfl) : YE P st o (· = .bool b) (.val (.bool b)) :=
 .exact fun M F a w H => ⟨.val _, by
  obtain ⟨h1, h2⟩ := H.ev hx
  obtain ⟨h3, h4⟩ := H.ev hy
  have e1 := agg_plain h2
  have e2 := agg_plain h4
  subst e1 e2
  have hr : (Op.equalIn 10000 t (.agg us.toArray) (.agg us'.toArray)).run P w = .ok b w := by rw [run_equalIn_struct w 9999 t _ _ ht hp]; exact hE w
  simp [execOp, ho, h1, h3, run_eqGuard_agg w .eql t x y us.toArray us'.toArray hg, run_eql_struct, hr]⟩
theorem q_neS {t r : Nat} {x y : Operand} {v v' : Value} {us us' : List Value} {b : Bool} (ht : P.underlying t = some (.struct (P.fieldsOf t))) (hp : P.stoodInHeld t = false) (hg : P.eqGuardType P.depth t = false)
 (hE : ∀ w, (Op.eqFields 9999 us.toArray us'.toArray (P.fieldsOf t).toList).run P w = .ok b w) (hx : ev st.slots x = some (v, .agg (us.map PV.val))) (hy : ev st.slots y = some (v', .agg (us'.map PV.val))) (ho : o.op = .binOp .neq t x y r := by exact rfl) : YE P st o (· = .bool (!b)) (.val (.bool (!b))) :=
 .exact fun M F a w H => ⟨.val _, by
  obtain ⟨h1, h2⟩ := H.ev hx
  obtain ⟨h3, h4⟩ := H.ev hy
  have e1 := agg_plain h2
  have e2 := agg_plain h4
  subst e1 e2
  have hr : (Op.equalIn 10000 t (.agg us.toArray) (.agg us'.toArray)).run P w = .ok b w := by rw [run_equalIn_struct w 9999 t _ _ ht hp]; exact hE w
  simp [execOp, ho, h1, h3, run_eqGuard_agg w .neq t x y us.toArray us'.toArray hg, run_neq_struct, hr]⟩
end
theorem recast {sL hP : List (Nat × Ent)} {l : Nat} {h : Value} {p p' : PV} (hl : lk hP l = some (h, p)) (e : p = p') : EntE (⟨sL, hP⟩ : St) (fun _ : Unit => ⟨sL, put l (h, p') hP⟩) := fun c a w ⟨F, H⟩ => by
 subst e
 refine ⟨(), F, H.less (fun t x h => h) fun t x ht => ?_⟩
 rcases lk_put ht with ⟨rfl, e1⟩ | ⟨_, h1⟩
 · rw [hl, e1]
 · exact h1
theorem reslot {sL hP : List (Nat × Ent)} {t : Nat} {v : Value} {p p' : PV} (hl : lk sL t = some (v, p)) (e : p = p') : EntE (⟨sL, hP⟩ : St) (fun _ : Unit => ⟨put t (v, p') sL, hP⟩) := fun c a w ⟨F, H⟩ => by
 subst e
 refine ⟨(), F, H.less (fun s x ht => ?_) (fun t x h => h)⟩
 rcases lk_put ht with ⟨rfl, e1⟩ | ⟨_, h1⟩
 · rw [hl, e1]
 · exact h1
theorem nilSlD {sL hP : List (Nat × Ent)} {t : Nat} {q : PV} (ht : lk sL t = some (.slice none 0 0, q)) : EntE (⟨sL, hP⟩ : St) (fun _ : Unit => ⟨put t (.slice none 0 0, .sl 0 []) sL, hP⟩) := fun c a w ⟨F, H⟩ => by
 refine ⟨(), F, H.toHeapF, fun s u r hs => ?_, H.size, H.df⟩
 rcases lk_put hs with ⟨rfl, e1⟩ | ⟨_, hs'⟩
 · cases e1
   exact ⟨(H.sl t _ _ ht).1, .emp none 0 (by unfold maxLen; omega) (fun _ => rfl)⟩
 · exact H.sl s u r hs'
end Go.En
namespace Go.Proofs.YtgigclnaicbiaaaGreatDoor
open Go.RowKit Go.Cb Go.En
set_option linter.all false
set_option maxRecDepth 100000
theorem tAgg25_LdS : AggT Tryz.prog 25 5 = true := by kernel_rfl
theorem tAgg82_LdS : AggT Tryz.prog 82 2 = true := by kernel_rfl
theorem tEl28_LdS : ElT Tryz.prog 28 22 1 24 (.slice none 0 0) := ⟨Tryz.underlying28, by kernel_rfl, rfl, by decide⟩
theorem tEl83_LdS : ElT Tryz.prog 83 82 2 48 (.agg #[(.slice none 0 0), (.slice none 0 0)]) := ⟨Tryz.underlying83, by kernel_rfl, rfl, by decide⟩
theorem tFl82_0_LdS : FldT Tryz.prog 82 0 0 = true := by kernel_rfl
theorem tFl82_1_LdS : FldT Tryz.prog 82 1 1 = true := by kernel_rfl
theorem tSl28_LdS : SlT Tryz.prog 28 22 1 = true := by kernel_rfl
theorem tSl83_LdS : SlT Tryz.prog 83 82 2 = true := by kernel_rfl
theorem tSt82_LdS : stInfo Tryz.prog 82 = some ((.agg #[(.slice none 0 0), (.slice none 0 0)]), ([0, 1] : List Nat).map fun o => (o, 1)) := by kernel_rfl
theorem tZr82_LdS : ZeroT Tryz.prog 82 (.agg #[(.slice none 0 0), (.slice none 0 0)]) := by unfold ZeroT; kernel_rfl
def cPf (p : Pf) : List PV := [pInts p.1, pInts p.2]
theorem cPf_len (p : Pf) : (cPf p).length = 2 := rfl
theorem snoc_pf (e : Nat) (L : List Pf) (x : Pf) : PV.own e 2 (L.length + 1) (L.flatMap cPf ++ cPf x) = .own e 2 (L ++ [x]).length ((L ++ [x]).flatMap cPf) := by simp
theorem snoc_w (e : Nat) (L : List (List Int)) (x : List Int) : PV.own e 1 (L.length + 1) (L.map pInts ++ [pInts x]) = .own e 1 (L ++ [x]).length ((L ++ [x]).map pInts) := by simp
theorem share_intss (e n : Nat) (l : List (List Int)) (hn : n = l.length) : share (.own e 1 n (l.map pInts)) = pIntss l := by
 subst hn
 rw [share, shares_eq, List.map_map]
 unfold pIntss
 congr 1
def RWords (a : Aut) (n : Int) (p : PV) : Prop :=
 (autOk a = false ∧ p = .tup [.sl 0 [], pInt 1]) ∨ (autOk a = true ∧ (n < 0 ∨ 200 < n) ∧ p = .tup [.sl 0 [], pInt 2]) ∨ (autOk a = true ∧ 0 ≤ n ∧ n ≤ 200 ∧ bigP a n.toNat ∧ p = .tup [.sl 0 [], pInt 5]) ∨ (autOk a = true ∧ 0 ≤ n ∧ n ≤ 200 ∧ ¬ bigP a n.toNat ∧ p = .tup [pIntss (sumP a n.toNat (n.toNat + 1)), pInt 0])
theorem kidP_len (a : Aut) (n : Int) (p : Pf) (c : Nat) : (kidP a n p c).length ≤ 1 := by unfold kidP; split <;> simp
theorem kids_part (a : Aut) (n : Int) (p : Pf) : ∀ c, ((List.range c).flatMap (kidP a n p)).length ≤ c
 | 0 => by simp
 | c + 1 => by
   rw [range_snoc, List.length_append]
   have := kids_part a n p c
   have := kidP_len a n p c
   omega
theorem lvP_in {a : Aut} (h : AOk a) (n k : Nat) : ∀ p ∈ lvP a n k, InS a p.2 ∧ p.2.length ≤ 2000 := fun p hp => by
 rw [lv_same h.mi h.st] at hp
 obtain ⟨q, hq, rfl⟩ := List.mem_map.1 hp
 have h1 := lvR_in h.mi h.st n k q hq
 refine ⟨near_in h1 _ _, ?_⟩
 have h2 : Srt q.2 := by
  cases k with
  | zero =>
    simp only [lvR, List.mem_singleton] at hq
    subst hq
    exact closL_srt h.mi h.st
  | succ k =>
    rw [lvR] at hq
    obtain ⟨r, _, hr⟩ := List.mem_flatMap.1 hq
    obtain ⟨c, _, hc⟩ := List.mem_flatMap.1 hr
    unfold kidR at hc
    split at hc
    · simp only [List.mem_singleton] at hc
      subst hc
      exact closL_srt h.mi (leads_in h.mi c _)
    · simp at hc
 have h3 : Srt (nearL q.2 (farL a) ((n : Int) - k)) := near_srt (a := a) h2 _ _
 have h4 := nodup_len a.n.toNat _ (h3.imp fun h => by omega) fun s hs => by
  have := near_in h1 (farL a) ((n : Int) - k) s hs
  have := h.n0
  omega
 have := h.n1
 show (nearL q.2 (farL a) ((n : Int) - k)).length ≤ 2000
 omega
theorem lvP_word {a : Aut} {n : Nat} : ∀ k, ∀ p ∈ lvP a n k, p.1.length = k
 | 0, p, hp => by
   simp only [lvP, List.mem_singleton] at hp
   subst hp; rfl
 | k + 1, p, hp => by
   rw [lvP] at hp
   obtain ⟨r, hr, hr2⟩ := List.mem_flatMap.1 hp
   obtain ⟨c, _, hc⟩ := List.mem_flatMap.1 hr2
   unfold kidP at hc
   split at hc
   · simp at hc
   · simp only [List.mem_singleton] at hc
     subst hc
     rw [List.length_append, lvP_word k r hr]; rfl
set_option maxHeartbeats 4000000 in
theorem aWords_e (a : Aut) (n : Int) : AF Tryz.prog 15 [pAut a, pInt n] (RWords a n) := by
 refine AF.of_body 109 Tryz.func15 rfl Tryz.ntmps15 (Nat.le_of_ble_eq_true rfl) ?_
 intro w0 M0 vs hl hv
 obtain ⟨v0, v1, rfl⟩ := len2 hl
 obtain rfl := hv 1 _ _ rfl rfl
 clear hl hv
 refine nav ?_
 (refine aC_region ?_ <;> refine s_boxa 2 5 fun h2 => ?_ <;> refine xL 4 q_assign ?_ <;> refine xL 5 q_assign ?_ <;> refine aL_end (nav ?_) <;> try dsimp only)
 (refine aC_region ?_ <;> (refine yL 16 (q_ldao 2 tAgg25_LdS) fun v16 hv16 => ?_; cases hv16) <;> (refine cS 17 (cA Tryz.call24 (aValid_e a)) fun v17 hv17 => ?_; cases hv17) <;> refine xL 18 q_not ?_ <;> refine xL 15 q_assign ?_ <;> refine aL_end (nav ?_) <;> try dsimp only)
 (first | refine cCd ?_ ?_ | refine cC ?_ ?_) <;> intro hb15
 · first
   | exact Bool.noConfusion hb15
   | (
    refine nav ?_
    (refine aC_region ?_ <;> refine xL 4 q_assign ?_ <;> refine xL 5 q_assign ?_ <;> refine aL_end (nav ?_) <;> try dsimp only)
    refine aR_ent (nilSlD (t := 4) rfl) fun _ => ?_
    exact ret_ss (Tryz.results15) rfl rfl (.inl ⟨by simpa using hb15, rfl⟩))
 · first
   | exact Bool.noConfusion hb15
   | (
    have hok : autOk a = true := by simpa using hb15
    have hA := aok_of hok
    have hn1 := hA.n1
    have hs1 := hA.s1
    have hs0 := hA.s0
    refine nav ?_
    (refine aC_region ?_ <;> refine xL 20 q_move ?_ <;> refine xL 21 q_lss ?_ <;> refine xL 22 q_move ?_ <;> (refine bLd 22 (fun hb22 => ?_) (fun hb22 => ?_) <;> (first | refine kL 23 ?_ | refine xL 23 q_move ?_)) <;> (first | refine kL 24 ?_ | refine xL 24 q_gtr ?_) <;> refine xL 25 q_pick ?_ <;> refine xL 19 q_assign ?_ <;> refine aL_end (nav ?_) <;> try dsimp only) <;> (
     (first | refine cCd ?_ ?_ | refine cC ?_ ?_) <;> intro hb19
     · first
       | exact Bool.noConfusion hb19
       | (
        refine nav ?_
        (refine aC_region ?_ <;> refine xL 4 q_assign ?_ <;> refine xL 5 q_assign ?_ <;> refine aL_end (nav ?_) <;> try dsimp only)
        refine aR_ent (nilSlD (t := 4) rfl) fun _ => ?_
        exact ret_ss (Tryz.results15) rfl rfl (.inr (.inl ⟨hok, by first | omega | (simp at hb19; omega), rfl⟩)))
     · first
       | exact Bool.noConfusion hb19
       | (
        have hnb : 0 ≤ n ∧ n ≤ 200 := by simp at hb19; omega
        obtain ⟨N, rfl⟩ : ∃ N : Nat, n = (N : Int) := ⟨n.toNat, by omega⟩
        have hfl := (farL_ok a).len
        have hsb : closL a a.start = closL a a.start := rfl
        have hcl := closL_len hA.mi hA.st
        have hci := closL_in hA.mi hA.st
        refine nav ?_
        (refine aC_draw (fun i => ([] : List Nat).elem i) [2] (by kernel_rfl) ?_ <;> (refine yD 0 26 rfl (q_ldao 2 tAgg25_LdS) fun v26 hv26 => ?_; cases hv26) <;> (refine yD 2 28 rfl (q_ldao 2 tAgg25_LdS) fun v28 hv28 => ?_; cases hv28) <;> (refine aD_one 1 (by kernel_rfl) ?_) <;> (refine aW_run rfl fun w9 M9 N9 DQ back => ?_) <;> (refine cS 27 (cA Tryz.call58 (aGraphOf_e a hA)) fun v27 hv27 => ?_; cases hv27) <;> refine aL_end (back _ (nrm ?_)) <;> (refine aD_one 3 (by kernel_rfl) ?_) <;> (refine aW_run rfl fun w9 M9 N9 DQ back => ?_) <;> (refine cO 29 (cA Tryz.call59 (aDistances_e a hA)) fun v29 ho29 => ?_; refine aL_ent (En.freeze (l := 29) (t := 29) rfl rfl) fun _ => ?_; rw [share_ints _ _ _ hfl.symm]) <;> refine aL_end (back _ (nrm ?_)) <;> refine xE 4 6 rfl q_assign ?_ <;> refine xE 5 7 rfl q_assign ?_ <;> refine aD_end (by kernel_rfl) (nav ?_) <;> try dsimp only)
        (refine aC_region ?_ <;> refine xL 8 q_assign ?_ <;> refine aL_end (nav ?_) <;> try dsimp only)
        (refine aC_region ?_ <;> refine xL 30 q_move ?_ <;> refine xL 31 (q_fldo 2 tFl25_2_LdI) ?_ <;> (refine yL 32 (q_ldo 2 tNa22_LdI) fun v32 hv32 => ?_; cases hv32) <;> (refine cO 33 (cA Tryz.call61 (aClosure_e a a.start hn1 hA.mi hA.st)) fun v33 ho33 => ?_; refine aL_ent (En.freeze (l := 33) (t := 33) rfl rfl) fun _ => ?_; rw [share_ints _ _ _ rfl]) <;> refine xL 34 q_move ?_ <;> refine xL 35 q_move ?_ <;> (refine cO 36 (cA Tryz.call60 (aNear_e (closL a a.start) (farL a) N (by omega) (fun s hs => by have := hci s hs; omega))) fun v36 ho36 => ?_; refine aL_ent (En.freeze (l := 36) (t := 36) rfl rfl) fun _ => ?_; rw [share_ints _ _ _ rfl]) <;> refine xL 37 (q_build tSt82_LdS) ?_ <;> refine s_lit1a 38 tEl83_LdS fun h38 ho38 => ?_ <;> refine xL 9 q_assign ?_ <;> refine aL_end (nav ?_) <;> try dsimp only)
        refine aC_ent (nilCells (l := 38) [.own 3 1 0 [], pInts (nearL (closL a a.start) (farL a) N)] rfl rfl (fun i p p' h1 h2 => by
         match i with
         | 0 => cases h1; cases h2; exact .inr ⟨rfl, _, _, rfl⟩
         | 1 => cases h1; cases h2; exact .inl rfl
         | i + 2 => simp at h2)) fun _ => ?_
        refine aC_ent (focus (l := 38) (l' := 300) (j := 0) rfl rfl rfl) fun v300 => ?_
        refine aC_ent (freezeCell (l := 38) (l' := 300) (j := 0) rfl rfl rfl rfl) fun _ => ?_
        dsimp only [List.set]
        refine aC_ent (nilOwn 200 22 1 rfl) fun _ => ?_
        refine aC_ent (relabel (l := 38) 201 rfl rfl) fun _ => ?_
        have hL0 : [share (PV.own 3 1 0 []), pInts (nearL (closL a a.start) (farL a) N)] = (lvP a N 0).flatMap cPf := rfl
        rw [hL0]
        refine aC_loop (ι := { q : Nat × Value × Value // q.1 ≤ N + 1 ∧ (∀ j, j ≤ q.1 → (lvP a N j).length ≤ 2000) ∧ (sumP a N q.1).length ≤ q.1 * 2000 ∧ q.2.1.oneCell' = true ∧ q.2.2.oneCell' = true }) (fun k => ⟨[(2, _, _), (6, _, _), (7, _, _), (1, .int .i64 ((N : Int) - (k.1.1 : Nat)), pInt ((N : Int) - (k.1.1 : Nat))), (8, k.1.2.1, .val k.1.2.1), (9, k.1.2.2, .val k.1.2.2)], [(2, _, _), (200, k.1.2.1, .own 22 1 (sumP a N k.1.1).length ((sumP a N k.1.1).map pInts)), (201, k.1.2.2, .own 82 2 (lvP a N k.1.1).length ((lvP a N k.1.1).flatMap cPf))]⟩) (fun k => N + 1 - k.1.1) ⟨(0, .slice none 0 0, h38), Nat.zero_le _, fun j hj => by have h9 : j = 0 := (by dsimp only at hj; omega); subst h9; simp [lvP], by simp [sumP], rfl, ho38⟩ (fun a w H => H.weaken ⟨rfl, rfl, rfl, rfl, rfl, rfl, trivial⟩ ⟨rfl, rfl, rfl, trivial⟩) ?_
        rintro ⟨⟨lev, hO, hL⟩, hk, hlv, hsm, hoO, hoL⟩
        dsimp only
        dsimp only at hk hlv hsm hoO hoL
        refine nav ?_
        (refine aC_region ?_ <;> refine xL 39 q_move ?_ <;> refine xL 40 q_geq ?_ <;> refine aL_end (nav ?_) <;> try dsimp only)
        (first | refine cCd ?_ ?_ | refine cC ?_ ?_) <;> intro hb40
        · first
          | exact Bool.noConfusion hb40
          | (
           have hkN : lev ≤ N := by omega
           have hlk := hlv lev (Nat.le_refl _)
           have hsm2 : (sumP a N lev).length ≤ 402000 := by omega
           have hlin := lvP_in hA N lev
           have hlw := lvP_word (a := a) (n := N) lev
           refine nav ?_
           (refine aC_region ?_ <;> refine xL 10 q_assign ?_ <;> refine aL_end (nav ?_) <;> try dsimp only)
           (refine aC_region ?_ <;> refine xL 43 q_move ?_ <;> refine xL 44 (q_leno 201 tSl83_LdS) ?_ <;> refine xL 45 q_move ?_ <;> refine aL_end (nav ?_) <;> try dsimp only)
           refine aC_ent (nilOwn 202 82 2 rfl) fun _ => ?_
           refine aC_loop (ι := { q : Nat × Value × Value × List (List Int) × List Pf // q.1 ≤ (lvP a N lev).length ∧ q.2.2.2.2.length ≤ 2000 ∧ q.2.1.oneCell' = true ∧ q.2.2.1.oneCell' = true ∧ q.2.2.2.1 = sumP a N lev ++ outP a ((lvP a N lev).take q.1) ∧ q.2.2.2.2 = ((lvP a N lev).take q.1).flatMap (kidsP a ((N : Int) - lev)) }) (fun k => ⟨[(1, _, _), (2, _, _), (6, _, _), (7, _, _), (9, _, _), (43, _, _), (44, _, _), (8, k.1.2.1, .val k.1.2.1), (10, k.1.2.2.1, .val k.1.2.2.1), (45, .int .i64 k.1.1, pInt k.1.1)], [(2, _, _), (201, _, _), (200, k.1.2.1, .own 22 1 k.1.2.2.2.1.length (k.1.2.2.2.1.map pInts)), (202, k.1.2.2.1, .own 82 2 k.1.2.2.2.2.length (k.1.2.2.2.2.flatMap cPf))]⟩) (fun k => (lvP a N lev).length - k.1.1) ⟨(0, hO, .slice none 0 0, sumP a N lev, []), Nat.zero_le _, Nat.zero_le _, hoO, rfl, (List.append_nil _).symm, rfl⟩ (fun a w H => H.weaken ⟨rfl, rfl, rfl, rfl, rfl, rfl, rfl, rfl, rfl, rfl, trivial⟩ ⟨rfl, rfl, rfl, rfl, trivial⟩) ?_
           rintro ⟨⟨i, hO2, hX, O, X⟩, hi, hkl, hoO2, hoX, hOE, hXE⟩
           dsimp only
           dsimp only at hi hkl hoO2 hoX hOE hXE
           have hol := outP_len a ((lvP a N lev).take i)
           rw [List.length_take] at hol
           have hoL2 : O.length ≤ 404000 := by rw [hOE, List.length_append]; omega
           refine nav ?_
           (refine aC_region ?_ <;> refine xL 46 q_lss ?_ <;> refine aL_end (nav ?_) <;> try dsimp only)
           (first | refine cCd ?_ ?_ | refine cC ?_ ?_) <;> intro hb46
           · first
             | exact Bool.noConfusion hb46
             | (
              obtain ⟨x, hx⟩ := get_some (show i < (lvP a N lev).length by omega)
              have e1 := flat_drop cPf_len (lvP a N lev) i x hx
              have e2 := flat_fit cPf_len hx
              have hxi := hlin x (List.mem_of_getElem? hx)
              have hxw := hlw x (List.mem_of_getElem? hx)
              have hO3 := outP_take (a := a) hx
              have hK3 := flat_take_snoc (kidsP a ((N : Int) - lev)) hx
              refine nav ?_
              (refine aC_region ?_ <;> refine xL 47 (q_idxoN 201 tSl83_LdS) ?_ <;> (refine yL 48 (q_ldao 201 tAgg82_LdS) fun v48 hv48 => ?_; cases hv48) <;> refine s_alloc [(.slice none 0 0), (.slice none 0 0)] 2 12 tZr82_LdS fun h12 => ?_ <;> refine s_sta 12 tAgg82_LdS ?_ <;> refine aL_end (nav ?_) <;> try dsimp only)
              (refine aC_region ?_ <;> refine xL 49 q_move ?_ <;> refine xL 50 (q_fldo 12 tFl82_1_LdS) ?_ <;> (refine yL 51 (q_ldo 12 tNa22_LdI) fun v51 hv51 => ?_; cases hv51) <;> (refine cS 52 (cA Tryz.call62 (aAccepts_e a x.2 hxi.1)) fun v52 hv52 => ?_; cases hv52) <;> refine aL_end (nav ?_) <;> try dsimp only)
              (first | refine cCd ?_ ?_ | refine cC ?_ ?_) <;> intro hb52
              · first
                | exact Bool.noConfusion hb52
                | (
                 rw [if_pos (show accB a x.2 = true from hb52)] at hO3
                 have hOF : O ++ [x.1] = sumP a N lev ++ outP a ((lvP a N lev).take (i + 1)) := by rw [hO3, hOE, List.append_assoc]
                 have hOl2 : (O ++ [x.1]).length = O.length + 1 := by rw [List.length_append]; rfl
                 refine nav ?_
                 (refine aC_region ?_ <;> refine xL 53 q_move ?_ <;> refine xL 54 (q_fldo 12 tFl82_0_LdS) ?_ <;> (refine yL 55 (q_ldo 12 tNa22_LdI) fun v55 hv55 => ?_; cases hv55) <;> refine s_lit1 (kk := 1) 56 tEl28_LdS fun h56 ho56 => ?_ <;> (refine s_app 200 56 57 tEl28_LdS fun h57 ho57 => ?_; refine aL_ent (relabel (l := 57) 200 rfl rfl) fun _ => ?_; rw [snoc_w]) <;> refine xL 8 q_assign ?_ <;> refine aL_end (nav ?_) <;> try dsimp only)
                 (refine aC_region ?_ <;> refine xL 58 (q_fldo 2 tFl25_1_LdI) ?_ <;> (refine yL 59 (q_ldo 2 tNa3_LbB) fun v59 hv59 => ?_; cases hv59) <;> refine xL 60 q_move ?_ <;> refine aL_end (nav ?_) <;> try dsimp only)
                 refine aC_loop (ι := { q : Nat × Value × List Pf // q.1 ≤ a.syms.toNat ∧ q.2.1.oneCell' = true ∧ q.2.2 = X ++ (List.range q.1).flatMap (kidP a ((N : Int) - lev) x) }) (fun k => ⟨[(1, _, _), (2, _, _), (6, _, _), (7, _, _), (8, _, _), (9, _, _), (12, _, _), (43, _, _), (44, _, _), (45, _, _), (59, _, _), (10, k.1.2.1, .val k.1.2.1), (60, .int .i64 k.1.1, pInt k.1.1)], [(2, _, _), (12, _, _), (200, _, _), (201, _, _), (202, k.1.2.1, .own 82 2 k.1.2.2.length (k.1.2.2.flatMap cPf))]⟩) (fun k => a.syms.toNat - k.1.1) ⟨(0, hX, X), Nat.zero_le _, hoX, (List.append_nil _).symm⟩ (fun a w H => H.weaken ⟨rfl, rfl, rfl, rfl, rfl, rfl, rfl, rfl, rfl, rfl, rfl, rfl, rfl, trivial⟩ ⟨rfl, rfl, rfl, rfl, rfl, trivial⟩) ?_
                 rintro ⟨⟨c, hX2, X2⟩, hc, hoX2, hX2E⟩
                 dsimp only
                 dsimp only at hc hoX2 hX2E
                 have hkc := kids_part a ((N : Int) - lev) x c
                 have hkl2 : X2.length ≤ 2100 := by rw [hX2E, List.length_append]; omega
                 refine nav ?_
                 (refine aC_region ?_ <;> refine xL 61 q_lss ?_ <;> refine aL_end (nav ?_) <;> try dsimp only)
                 (first | refine cCd ?_ ?_ | refine cC ?_ ?_) <;> intro hb61
                 · first
                   | exact Bool.noConfusion hb61
                   | (
                    have hni := next_in hA.mi (c : Int) x.2
                    have hnl : (nextL a c x.2).length ≤ 2000 := by have := closL_len hA.mi (leads_in hA.mi (c : Int) x.2); unfold nextL; omega
                    have hR := range_snoc (kidP a ((N : Int) - lev) x) c
                    refine nav ?_
                    (refine aC_region ?_ <;> refine xL 62 q_move ?_ <;> refine xL 13 q_assign ?_ <;> refine aL_end (nav ?_) <;> try dsimp only)
                    (refine aC_region ?_ <;> refine xL 63 q_move ?_ <;> refine xL 64 (q_fldo 12 tFl82_1_LdS) ?_ <;> (refine yL 65 (q_ldo 12 tNa22_LdI) fun v65 hv65 => ?_; cases hv65) <;> refine xL 66 q_move ?_ <;> (refine cO 67 (cA Tryz.call63 (aNext_e a x.2 c hn1 hA.ml hA.mi hxi.1 hxi.2)) fun v67 ho67 => ?_; refine aL_ent (En.freeze (l := 67) (t := 67) rfl rfl) fun _ => ?_; rw [share_ints _ _ _ rfl]) <;> refine xL 68 q_move ?_ <;> refine xL 69 q_move ?_ <;> refine xL 70 q_sub ?_ <;> (refine cO 71 (cA Tryz.call60 (aNear_e (nextL a c x.2) (farL a) ((N : Int) - lev - 1) (by omega) (fun s hs => by have := hni s hs; omega))) fun v71 ho71 => ?_; refine aL_ent (En.freeze (l := 71) (t := 71) rfl rfl) fun _ => ?_; rw [share_ints _ _ _ rfl]) <;> refine xL 14 q_assign ?_ <;> refine aL_end (nav ?_) <;> try dsimp only)
                    (refine aC_region ?_ <;> refine xL 72 q_move ?_ <;> refine xL 73 (q_len tSl22_LbB) ?_ <;> refine xL 74 q_gtr ?_ <;> refine aL_end (nav ?_) <;> try dsimp only)
                    (first | refine cCd ?_ ?_ | refine cC ?_ ?_) <;> intro hb74
                    · first
                      | exact Bool.noConfusion hb74
                      | (
                       have hkid : kidP a ((N : Int) - lev) x c = [(x.1 ++ [(c : Int)], nearL (nextL a c x.2) (farL a) ((N : Int) - lev - 1))] := by unfold kidP; rw [if_neg (by omega)]
                       rw [hkid] at hR
                       refine nav ?_
                       (refine aC_region ?_ <;> refine xL 75 q_move ?_ <;> refine xL 76 (q_fldo 12 tFl82_0_LdS) ?_ <;> (refine yL 77 (q_ldo 12 tNa22_LdI) fun v77 hv77 => ?_; cases hv77) <;> refine cO 78 (cA Tryz.call51 (cloneIntW_e x.1 (by omega))) fun v78 ho78 => ?_ <;> refine xL 79 q_move ?_ <;> refine s_lit1 (kk := 1) 80 tEl22_LdI fun h80 ho80 => ?_ <;> (refine s_app 78 80 81 tEl22_LdI fun h81 ho81 => ?_; refine aL_ent (En.freeze (l := 81) (t := 81) rfl rfl) fun _ => ?_; rw [show PV.own 3 1 (x.1.length + 1) (x.1.map pInt ++ [pInt c]) = .own 3 1 (x.1 ++ [(c : Int)]).length ((x.1 ++ [(c : Int)]).map pInt) from own_snoc _ _ _, share_ints _ _ _ rfl]) <;> refine xL 82 q_move ?_ <;> refine xL 83 (q_build tSt82_LdS) ?_ <;> refine s_lit1a 84 tEl83_LdS fun h84 ho84 => ?_ <;> (refine s_app 202 84 85 tEl83_LdS fun h85 ho85 => ?_; refine aL_ent (relabel (l := 85) 202 rfl rfl) fun _ => ?_; refine aL_ent (recast (l := 202) rfl (snoc_pf _ X2 (x.1 ++ [(c : Int)], nearL (nextL a c x.2) (farL a) ((N : Int) - lev - 1)))) fun _ => ?_) <;> refine xL 10 q_assign ?_ <;> refine aL_end (nav ?_) <;> try dsimp only)
                       (refine aC_region ?_ <;> refine xL 86 q_add ?_ <;> refine xL 60 q_move ?_ <;> refine aL_end (nav ?_) <;> try dsimp only)
                       first
                        | (exact aN_again (
                            ⟨(c + 1, h85, X2 ++ [(x.1 ++ [(c : Int)], nearL (nextL a c x.2) (farL a) ((N : Int) - lev - 1))]), by dsimp only; omega, ho85, by dsimp only; rw [hX2E, hR, List.append_assoc]⟩
                            ) (by dsimp only; omega) ⟨rfl, rfl, rfl, rfl, rfl, rfl, rfl, rfl, rfl, rfl, rfl, rfl, rfl, trivial⟩ ⟨rfl, rfl, rfl, rfl, rfl, trivial⟩)
                        | (exact aN_again (
                            ⟨(c + 1, hX2, X2), by dsimp only; omega, hoX2, by dsimp only; rw [hX2E, hR]⟩
                            ) (by dsimp only; omega) ⟨rfl, rfl, rfl, rfl, rfl, rfl, rfl, rfl, rfl, rfl, rfl, rfl, rfl, trivial⟩ ⟨rfl, rfl, rfl, rfl, rfl, trivial⟩))
                    · first
                      | exact Bool.noConfusion hb74
                      | (
                       have hkid : kidP a ((N : Int) - lev) x c = [] := by unfold kidP; rw [if_pos (by omega)]
                       rw [hkid, List.append_nil] at hR
                       refine nav ?_
                       (refine aC_region ?_ <;> refine xL 86 q_add ?_ <;> refine xL 60 q_move ?_ <;> refine aL_end (nav ?_) <;> try dsimp only)
                       first
                        | (exact aN_again (
                            ⟨(c + 1, h85, X2 ++ [(x.1 ++ [(c : Int)], nearL (nextL a c x.2) (farL a) ((N : Int) - lev - 1))]), by dsimp only; omega, ho85, by dsimp only; rw [hX2E, hR, List.append_assoc]⟩
                            ) (by dsimp only; omega) ⟨rfl, rfl, rfl, rfl, rfl, rfl, rfl, rfl, rfl, rfl, rfl, rfl, rfl, trivial⟩ ⟨rfl, rfl, rfl, rfl, rfl, trivial⟩)
                        | (exact aN_again (
                            ⟨(c + 1, hX2, X2), by dsimp only; omega, hoX2, by dsimp only; rw [hX2E, hR]⟩
                            ) (by dsimp only; omega) ⟨rfl, rfl, rfl, rfl, rfl, rfl, rfl, rfl, rfl, rfl, rfl, rfl, rfl, trivial⟩ ⟨rfl, rfl, rfl, rfl, rfl, trivial⟩)))
                 · first
                   | exact Bool.noConfusion hb61
                   | (
                    have hcs : c = a.syms.toNat := by omega
                    subst hcs
                    have hXF : X2 = ((lvP a N lev).take (i + 1)).flatMap (kidsP a ((N : Int) - lev)) := by rw [hX2E, hK3, hXE]; rfl
                    refine nav ?_
                    (refine aC_region ?_ <;> refine xL 87 q_move ?_ <;> refine xL 88 (q_leno 200 tSl28_LdS) ?_ <;> refine xL 89 q_move ?_ <;> refine xL 90 (q_leno 202 tSl83_LdS) ?_ <;> refine xL 91 q_add ?_ <;> refine xL 92 q_gtr ?_ <;> refine xL 93 q_move ?_ <;> (refine bLd 93 (fun hb93 => ?_) (fun hb93 => ?_) <;> (first | refine kL 94 ?_ | refine xL 94 q_move ?_)) <;> (first | refine kL 95 ?_ | refine xL 95 (q_leno 200 tSl28_LdS) ?_) <;> (first | refine kL 96 ?_ | refine xL 96 q_gtr ?_) <;> refine xL 97 q_pick ?_ <;> refine xL 98 q_move ?_ <;> (first | refine xL 99 q_move ?_ | (refine bLd 98 (fun hb98 => ?_) (fun hb98 => ?_) <;> (first | refine kL 99 ?_ | refine xL 99 q_move ?_))) <;> (first | refine kL 100 ?_ | refine xL 100 (q_leno 202 tSl83_LdS) ?_) <;> (first | refine kL 101 ?_ | refine xL 101 q_gtr ?_) <;> refine xL 102 q_pick ?_ <;> refine aL_end (nav ?_) <;> try dsimp only) <;> (
                     (first | refine cCd ?_ ?_ | refine cC ?_ ?_) <;> intro hb102
                     · first
                       | exact Bool.noConfusion hb102
                       | (
                        refine nav ?_
                        (refine aC_region ?_ <;> refine xL 4 q_assign ?_ <;> refine xL 5 q_assign ?_ <;> refine aL_end (nav ?_) <;> try dsimp only)
                        refine aR_ent (nilSlD (t := 4) rfl) fun _ => ?_
                        refine ret_ss (Tryz.results15) rfl rfl (.inr (.inr (.inl ⟨hok, by omega, by omega, ?_, rfl⟩)))
                        rw [Int.toNat_natCast]
                        have hfl2 := flat_take_len (kidsP a ((N : Int) - lev)) (lvP a N lev) (i + 1)
                        have hsm5 := sumP_mono a N (show lev + 1 ≤ N + 1 by omega)
                        rw [sumP_snoc, List.length_append] at hsm5
                        have hop5 := outP_pre a (lvP a N lev) (i + 1)
                        have hOl := congrArg List.length hOF
                        have hXl := congrArg List.length hXF
                        simp only [List.length_append, List.length_cons, List.length_nil] at hOl
                        by_cases hbig : 2000 < X2.length
                        · exact .inl ⟨lev, by omega, by rw [lvP]; omega⟩
                        · refine .inr ?_
                          first
                           | omega
                           | (simp at hb102 hOl; omega))
                     · first
                       | exact Bool.noConfusion hb102
                       | (
                        refine nav ?_
                        (refine aC_region ?_ <;> refine xL 103 q_add ?_ <;> refine xL 45 q_move ?_ <;> refine aL_end (nav ?_) <;> try dsimp only)
                        first
                         | (exact aN_again (
                             ⟨(i + 1, _, _, O ++ [x.1], X2), lt_of_get hx, (by dsimp only; first | omega | (simp at hb102; omega)), (by assumption), hoX2, hOF, hXF⟩
                             ) (by dsimp only; omega) ⟨rfl, rfl, rfl, rfl, rfl, rfl, rfl, rfl, rfl, rfl, trivial⟩ ⟨rfl, rfl, rfl, rfl, trivial⟩)
                         | (exact aN_again (
                             ⟨(i + 1, hO2, hX2, O, X2), lt_of_get hx, (by dsimp only; first | omega | (simp at hb102; omega)), (by assumption), hoX2, hOF, hXF⟩
                             ) (by dsimp only; omega) ⟨rfl, rfl, rfl, rfl, rfl, rfl, rfl, rfl, rfl, rfl, trivial⟩ ⟨rfl, rfl, rfl, rfl, trivial⟩)))))
              · first
                | exact Bool.noConfusion hb52
                | (
                 rw [if_neg (show ¬ accB a x.2 = true by simpa [accB] using hb52), List.append_nil] at hO3
                 have hOF : O = sumP a N lev ++ outP a ((lvP a N lev).take (i + 1)) := by rw [hO3, hOE]
                 refine nav ?_
                 (refine aC_region ?_ <;> refine xL 58 (q_fldo 2 tFl25_1_LdI) ?_ <;> (refine yL 59 (q_ldo 2 tNa3_LbB) fun v59 hv59 => ?_; cases hv59) <;> refine xL 60 q_move ?_ <;> refine aL_end (nav ?_) <;> try dsimp only)
                 refine aC_loop (ι := { q : Nat × Value × List Pf // q.1 ≤ a.syms.toNat ∧ q.2.1.oneCell' = true ∧ q.2.2 = X ++ (List.range q.1).flatMap (kidP a ((N : Int) - lev) x) }) (fun k => ⟨[(1, _, _), (2, _, _), (6, _, _), (7, _, _), (8, _, _), (9, _, _), (12, _, _), (43, _, _), (44, _, _), (45, _, _), (59, _, _), (10, k.1.2.1, .val k.1.2.1), (60, .int .i64 k.1.1, pInt k.1.1)], [(2, _, _), (12, _, _), (200, _, _), (201, _, _), (202, k.1.2.1, .own 82 2 k.1.2.2.length (k.1.2.2.flatMap cPf))]⟩) (fun k => a.syms.toNat - k.1.1) ⟨(0, hX, X), Nat.zero_le _, hoX, (List.append_nil _).symm⟩ (fun a w H => H.weaken ⟨rfl, rfl, rfl, rfl, rfl, rfl, rfl, rfl, rfl, rfl, rfl, rfl, rfl, trivial⟩ ⟨rfl, rfl, rfl, rfl, rfl, trivial⟩) ?_
                 rintro ⟨⟨c, hX2, X2⟩, hc, hoX2, hX2E⟩
                 dsimp only
                 dsimp only at hc hoX2 hX2E
                 have hkc := kids_part a ((N : Int) - lev) x c
                 have hkl2 : X2.length ≤ 2100 := by rw [hX2E, List.length_append]; omega
                 refine nav ?_
                 (refine aC_region ?_ <;> refine xL 61 q_lss ?_ <;> refine aL_end (nav ?_) <;> try dsimp only)
                 (first | refine cCd ?_ ?_ | refine cC ?_ ?_) <;> intro hb61
                 · first
                   | exact Bool.noConfusion hb61
                   | (
                    have hni := next_in hA.mi (c : Int) x.2
                    have hnl : (nextL a c x.2).length ≤ 2000 := by have := closL_len hA.mi (leads_in hA.mi (c : Int) x.2); unfold nextL; omega
                    have hR := range_snoc (kidP a ((N : Int) - lev) x) c
                    refine nav ?_
                    (refine aC_region ?_ <;> refine xL 62 q_move ?_ <;> refine xL 13 q_assign ?_ <;> refine aL_end (nav ?_) <;> try dsimp only)
                    (refine aC_region ?_ <;> refine xL 63 q_move ?_ <;> refine xL 64 (q_fldo 12 tFl82_1_LdS) ?_ <;> (refine yL 65 (q_ldo 12 tNa22_LdI) fun v65 hv65 => ?_; cases hv65) <;> refine xL 66 q_move ?_ <;> (refine cO 67 (cA Tryz.call63 (aNext_e a x.2 c hn1 hA.ml hA.mi hxi.1 hxi.2)) fun v67 ho67 => ?_; refine aL_ent (En.freeze (l := 67) (t := 67) rfl rfl) fun _ => ?_; rw [share_ints _ _ _ rfl]) <;> refine xL 68 q_move ?_ <;> refine xL 69 q_move ?_ <;> refine xL 70 q_sub ?_ <;> (refine cO 71 (cA Tryz.call60 (aNear_e (nextL a c x.2) (farL a) ((N : Int) - lev - 1) (by omega) (fun s hs => by have := hni s hs; omega))) fun v71 ho71 => ?_; refine aL_ent (En.freeze (l := 71) (t := 71) rfl rfl) fun _ => ?_; rw [share_ints _ _ _ rfl]) <;> refine xL 14 q_assign ?_ <;> refine aL_end (nav ?_) <;> try dsimp only)
                    (refine aC_region ?_ <;> refine xL 72 q_move ?_ <;> refine xL 73 (q_len tSl22_LbB) ?_ <;> refine xL 74 q_gtr ?_ <;> refine aL_end (nav ?_) <;> try dsimp only)
                    (first | refine cCd ?_ ?_ | refine cC ?_ ?_) <;> intro hb74
                    · first
                      | exact Bool.noConfusion hb74
                      | (
                       have hkid : kidP a ((N : Int) - lev) x c = [(x.1 ++ [(c : Int)], nearL (nextL a c x.2) (farL a) ((N : Int) - lev - 1))] := by unfold kidP; rw [if_neg (by omega)]
                       rw [hkid] at hR
                       refine nav ?_
                       (refine aC_region ?_ <;> refine xL 75 q_move ?_ <;> refine xL 76 (q_fldo 12 tFl82_0_LdS) ?_ <;> (refine yL 77 (q_ldo 12 tNa22_LdI) fun v77 hv77 => ?_; cases hv77) <;> refine cO 78 (cA Tryz.call51 (cloneIntW_e x.1 (by omega))) fun v78 ho78 => ?_ <;> refine xL 79 q_move ?_ <;> refine s_lit1 (kk := 1) 80 tEl22_LdI fun h80 ho80 => ?_ <;> (refine s_app 78 80 81 tEl22_LdI fun h81 ho81 => ?_; refine aL_ent (En.freeze (l := 81) (t := 81) rfl rfl) fun _ => ?_; rw [show PV.own 3 1 (x.1.length + 1) (x.1.map pInt ++ [pInt c]) = .own 3 1 (x.1 ++ [(c : Int)]).length ((x.1 ++ [(c : Int)]).map pInt) from own_snoc _ _ _, share_ints _ _ _ rfl]) <;> refine xL 82 q_move ?_ <;> refine xL 83 (q_build tSt82_LdS) ?_ <;> refine s_lit1a 84 tEl83_LdS fun h84 ho84 => ?_ <;> (refine s_app 202 84 85 tEl83_LdS fun h85 ho85 => ?_; refine aL_ent (relabel (l := 85) 202 rfl rfl) fun _ => ?_; refine aL_ent (recast (l := 202) rfl (snoc_pf _ X2 (x.1 ++ [(c : Int)], nearL (nextL a c x.2) (farL a) ((N : Int) - lev - 1)))) fun _ => ?_) <;> refine xL 10 q_assign ?_ <;> refine aL_end (nav ?_) <;> try dsimp only)
                       (refine aC_region ?_ <;> refine xL 86 q_add ?_ <;> refine xL 60 q_move ?_ <;> refine aL_end (nav ?_) <;> try dsimp only)
                       first
                        | (exact aN_again (
                            ⟨(c + 1, h85, X2 ++ [(x.1 ++ [(c : Int)], nearL (nextL a c x.2) (farL a) ((N : Int) - lev - 1))]), by dsimp only; omega, ho85, by dsimp only; rw [hX2E, hR, List.append_assoc]⟩
                            ) (by dsimp only; omega) ⟨rfl, rfl, rfl, rfl, rfl, rfl, rfl, rfl, rfl, rfl, rfl, rfl, rfl, trivial⟩ ⟨rfl, rfl, rfl, rfl, rfl, trivial⟩)
                        | (exact aN_again (
                            ⟨(c + 1, hX2, X2), by dsimp only; omega, hoX2, by dsimp only; rw [hX2E, hR]⟩
                            ) (by dsimp only; omega) ⟨rfl, rfl, rfl, rfl, rfl, rfl, rfl, rfl, rfl, rfl, rfl, rfl, rfl, trivial⟩ ⟨rfl, rfl, rfl, rfl, rfl, trivial⟩))
                    · first
                      | exact Bool.noConfusion hb74
                      | (
                       have hkid : kidP a ((N : Int) - lev) x c = [] := by unfold kidP; rw [if_pos (by omega)]
                       rw [hkid, List.append_nil] at hR
                       refine nav ?_
                       (refine aC_region ?_ <;> refine xL 86 q_add ?_ <;> refine xL 60 q_move ?_ <;> refine aL_end (nav ?_) <;> try dsimp only)
                       first
                        | (exact aN_again (
                            ⟨(c + 1, h85, X2 ++ [(x.1 ++ [(c : Int)], nearL (nextL a c x.2) (farL a) ((N : Int) - lev - 1))]), by dsimp only; omega, ho85, by dsimp only; rw [hX2E, hR, List.append_assoc]⟩
                            ) (by dsimp only; omega) ⟨rfl, rfl, rfl, rfl, rfl, rfl, rfl, rfl, rfl, rfl, rfl, rfl, rfl, trivial⟩ ⟨rfl, rfl, rfl, rfl, rfl, trivial⟩)
                        | (exact aN_again (
                            ⟨(c + 1, hX2, X2), by dsimp only; omega, hoX2, by dsimp only; rw [hX2E, hR]⟩
                            ) (by dsimp only; omega) ⟨rfl, rfl, rfl, rfl, rfl, rfl, rfl, rfl, rfl, rfl, rfl, rfl, rfl, trivial⟩ ⟨rfl, rfl, rfl, rfl, rfl, trivial⟩)))
                 · first
                   | exact Bool.noConfusion hb61
                   | (
                    have hcs : c = a.syms.toNat := by omega
                    subst hcs
                    have hXF : X2 = ((lvP a N lev).take (i + 1)).flatMap (kidsP a ((N : Int) - lev)) := by rw [hX2E, hK3, hXE]; rfl
                    refine nav ?_
                    (refine aC_region ?_ <;> refine xL 87 q_move ?_ <;> refine xL 88 (q_leno 200 tSl28_LdS) ?_ <;> refine xL 89 q_move ?_ <;> refine xL 90 (q_leno 202 tSl83_LdS) ?_ <;> refine xL 91 q_add ?_ <;> refine xL 92 q_gtr ?_ <;> refine xL 93 q_move ?_ <;> (refine bLd 93 (fun hb93 => ?_) (fun hb93 => ?_) <;> (first | refine kL 94 ?_ | refine xL 94 q_move ?_)) <;> (first | refine kL 95 ?_ | refine xL 95 (q_leno 200 tSl28_LdS) ?_) <;> (first | refine kL 96 ?_ | refine xL 96 q_gtr ?_) <;> refine xL 97 q_pick ?_ <;> refine xL 98 q_move ?_ <;> (first | refine xL 99 q_move ?_ | (refine bLd 98 (fun hb98 => ?_) (fun hb98 => ?_) <;> (first | refine kL 99 ?_ | refine xL 99 q_move ?_))) <;> (first | refine kL 100 ?_ | refine xL 100 (q_leno 202 tSl83_LdS) ?_) <;> (first | refine kL 101 ?_ | refine xL 101 q_gtr ?_) <;> refine xL 102 q_pick ?_ <;> refine aL_end (nav ?_) <;> try dsimp only) <;> (
                     (first | refine cCd ?_ ?_ | refine cC ?_ ?_) <;> intro hb102
                     · first
                       | exact Bool.noConfusion hb102
                       | (
                        refine nav ?_
                        (refine aC_region ?_ <;> refine xL 4 q_assign ?_ <;> refine xL 5 q_assign ?_ <;> refine aL_end (nav ?_) <;> try dsimp only)
                        refine aR_ent (nilSlD (t := 4) rfl) fun _ => ?_
                        refine ret_ss (Tryz.results15) rfl rfl (.inr (.inr (.inl ⟨hok, by omega, by omega, ?_, rfl⟩)))
                        rw [Int.toNat_natCast]
                        have hfl2 := flat_take_len (kidsP a ((N : Int) - lev)) (lvP a N lev) (i + 1)
                        have hsm5 := sumP_mono a N (show lev + 1 ≤ N + 1 by omega)
                        rw [sumP_snoc, List.length_append] at hsm5
                        have hop5 := outP_pre a (lvP a N lev) (i + 1)
                        have hOl := congrArg List.length hOF
                        have hXl := congrArg List.length hXF
                        simp only [List.length_append, List.length_cons, List.length_nil] at hOl
                        by_cases hbig : 2000 < X2.length
                        · exact .inl ⟨lev, by omega, by rw [lvP]; omega⟩
                        · refine .inr ?_
                          first
                           | omega
                           | (simp at hb102 hOl; omega))
                     · first
                       | exact Bool.noConfusion hb102
                       | (
                        refine nav ?_
                        (refine aC_region ?_ <;> refine xL 103 q_add ?_ <;> refine xL 45 q_move ?_ <;> refine aL_end (nav ?_) <;> try dsimp only)
                        first
                         | (exact aN_again (
                             ⟨(i + 1, _, _, O ++ [x.1], X2), lt_of_get hx, (by dsimp only; first | omega | (simp at hb102; omega)), (by assumption), hoX2, hOF, hXF⟩
                             ) (by dsimp only; omega) ⟨rfl, rfl, rfl, rfl, rfl, rfl, rfl, rfl, rfl, rfl, trivial⟩ ⟨rfl, rfl, rfl, rfl, trivial⟩)
                         | (exact aN_again (
                             ⟨(i + 1, hO2, hX2, O, X2), lt_of_get hx, (by dsimp only; first | omega | (simp at hb102; omega)), (by assumption), hoX2, hOF, hXF⟩
                             ) (by dsimp only; omega) ⟨rfl, rfl, rfl, rfl, rfl, rfl, rfl, rfl, rfl, rfl, trivial⟩ ⟨rfl, rfl, rfl, rfl, trivial⟩))))))
           · first
             | exact Bool.noConfusion hb46
             | (
              have hil : i = (lvP a N lev).length := by omega
              rw [hil, List.take_length] at hOE hXE
              have hOS : O = sumP a N (lev + 1) := by rw [sumP_snoc]; exact hOE
              have hXS : X = lvP a N (lev + 1) := hXE
              have hsm6 : (sumP a N (lev + 1)).length ≤ (lev + 1) * 2000 := by rw [sumP_snoc, List.length_append]; have := outP_len a (lvP a N lev); omega
              have hkl6 : (lvP a N (lev + 1)).length ≤ 2000 := by rw [← hXS]; exact hkl
              clear hOE hXE hil
              subst hOS hXS
              refine nav ?_
              (refine aC_region ?_ <;> refine xL 104 q_move ?_ <;> refine xL 9 q_assign ?_ <;> refine aL_end (nav ?_) <;> try dsimp only)
              (refine aC_region ?_ <;> refine xL 41 q_move ?_ <;> refine xL 42 q_sub ?_ <;> refine xL 1 q_assign ?_ <;> refine aL_end (nav ?_) <;> try dsimp only)
              refine aN_ent (relabel (l := 201) 203 rfl rfl) fun _ => ?_
              refine aN_ent (relabel (l := 202) 201 rfl rfl) fun _ => ?_
              rw [show ((N : Int) - (lev : Nat) - 1) = (N : Int) - ((lev + 1 : Nat) : Int) by omega]
              refine aN_again (
               ⟨(lev + 1, hO2, hX), by dsimp only; omega, fun j hj => by
                 dsimp only at hj
                 rcases Nat.lt_or_ge lev j with h9 | h9
                 · rw [show j = lev + 1 by omega]; exact hkl6
                 · exact hlv j h9, hsm6, hoO2, hoX⟩
               ) (by dsimp only; omega) ⟨rfl, rfl, rfl, rfl, rfl, rfl, trivial⟩ ⟨rfl, rfl, rfl, trivial⟩))
        · first
          | exact Bool.noConfusion hb40
          | (
           have hkE : lev = N + 1 := by omega
           subst hkE
           refine nav ?_
           (refine aC_region ?_ <;> refine xL 105 q_move ?_ <;> refine xL 106 (q_leno 200 tSl28_LdS) ?_ <;> refine xL 107 q_gtr ?_ <;> refine aL_end (nav ?_) <;> try dsimp only)
           (first | refine cCd ?_ ?_ | refine cC ?_ ?_) <;> intro hb107
           · first
             | exact Bool.noConfusion hb107
             | (
              refine nav ?_
              (refine aC_region ?_ <;> refine xL 4 q_assign ?_ <;> refine xL 5 q_assign ?_ <;> refine aL_end (nav ?_) <;> try dsimp only)
              refine aR_ent (nilSlD (t := 4) rfl) fun _ => ?_
              exact ret_ss (Tryz.results15) rfl rfl (.inr (.inr (.inl ⟨hok, by omega, by omega, .inr (by rw [Int.toNat_natCast]; omega), rfl⟩))))
           · first
             | exact Bool.noConfusion hb107
             | (
              refine nav ?_
              (refine aC_region ?_ <;> refine xL 108 q_move ?_ <;> refine xL 4 q_assign ?_ <;> refine xL 5 q_assign ?_ <;> refine aL_end (nav ?_) <;> try dsimp only)
              refine aR_ent (En.freeze (l := 200) (t := 4) rfl rfl) fun _ => ?_
              rw [share_intss _ _ _ rfl]
              refine ret_ss (Tryz.results15) rfl rfl (.inr (.inr (.inr ⟨hok, by omega, by omega, ?_, by rw [Int.toNat_natCast]⟩)))
              rw [Int.toNat_natCast]
              rintro (⟨j, h1, h2⟩ | h1)
              · have := hlv (j + 1) (by omega); omega
              · omega)))))
end Go.Proofs.YtgigclnaicbiaaaGreatDoor
namespace Go.En
open Go.RowKit Go.Cb
set_option linter.all false
section
variable {P : Program} {c : Ctx} {ops : Array Oper} {Q : Exit → Act → World → Prop} {rest : List Oper} {sL hP : List (Nat × Ent)} {o : Oper}
theorem fold_off : ∀ (l : List Value) (j off : Nat) (cells : Array Value), (l.zipIdx j).foldl (fun cs x => cs.setIfInBounds (off + x.2) x.1) cells = (l.zipIdx (off + j)).foldl (fun cs x => cs.setIfInBounds (0 + x.2) x.1) cells
 | [], j, off, cells => rfl
 | x :: l, j, off, cells => by
   simp only [List.zipIdx_cons, List.foldl_cons]
   rw [fold_off l (j + 1) off, Nat.zero_add, Nat.add_assoc]
theorem fold_mid : ∀ (l : List Value) (i : Nat) (cells : Array Value), i + l.length ≤ cells.size → (l.zipIdx i).foldl (fun cs x => cs.setIfInBounds (0 + x.2) x.1) cells = (cells.toList.take i ++ l ++ cells.toList.drop (i + l.length)).toArray
 | [], i, cells, h => by
   simp only [List.zipIdx_nil, List.foldl_nil, List.append_nil, List.length_nil, Nat.add_zero, List.take_append_drop, Array.toArray_toList]
 | x :: l, i, cells, h => by
   simp only [List.zipIdx_cons, List.foldl_cons]
   simp only [List.length_cons] at h
   rw [fold_mid l (i + 1) _ (by simp; omega)]
   congr 1
   rw [Nat.zero_add, Array.toList_setIfInBounds, List.take_succ_eq_append_getElem (by simp; omega)]
   simp only [List.getElem_set_self, List.length_cons]
   rw [List.take_set_of_le (by omega), List.drop_set_of_lt (by omega), show i + 1 + l.length = i + (l.length + 1) by omega]
   simp
theorem fill_k (kk : Nat) : ∀ (vs : List (List Value)) (i : Nat) (cells : Array Value), cells.size = (i + vs.length) * kk → (∀ v ∈ vs, v.length = kk) → Instr.fill (fun i => some (i * kk, kk)) cells (((vs.map fun v => Value.agg v.toArray).zipIdx i).map fun x => (x.2, x.1)) = some (cells.toList.take (i * kk) ++ vs.flatten).toArray
 | [], i, cells, h, _ => by
   simp only [List.map_nil, List.zipIdx_nil, Instr.fill, List.flatten_nil, List.append_nil]
   simp only [List.length_nil, Nat.add_zero] at h
   rw [List.take_of_length_le (by simp; omega)]
 | v :: vs, i, cells, h, h1 => by
   have hv := h1 v (by simp)
   have hcs : (Value.agg v.toArray).cells = v.toArray := rfl
   have hle : (i + 1) * kk ≤ cells.size := by rw [h]; exact Nat.mul_le_mul_right _ (by simp)
   rw [Nat.succ_mul] at hle
   have hc : ¬ ((Value.agg v.toArray).cells.size ≠ kk || decide (i * kk + (Value.agg v.toArray).cells.size > cells.size)) = true := by rw [hcs]; simp; omega
   simp only [List.map_cons, List.zipIdx_cons, Instr.fill, hc, if_false]
   rw [hcs, ← Array.foldl_toList, Array.toList_zipIdx, fold_off, fold_mid _ _ _ (by simp; omega)]
   have := fill_k kk vs (i + 1) (cells.toList.take (i * kk + 0) ++ v ++ cells.toList.drop (i * kk + 0 + v.length)).toArray (by
    simp only [List.size_toArray, List.length_append, List.length_take, List.length_drop, Array.length_toList]
    rw [Nat.min_eq_left (by omega)]
    rw [List.length_cons] at h
    rw [h, show i + 1 + vs.length = i + (vs.length + 1) by omega] at *
    omega) (fun u hu => h1 u (by simp [hu]))
   simp only [Array.toArray_toList] at this ⊢
   rw [this]
   congr 2
   rw [List.flatten_cons, ← List.append_assoc]
   congr 1
   rw [List.take_append_of_le_length (by simp; rw [Nat.succ_mul, Nat.min_eq_left (by omega)]; omega)]
   rw [List.take_of_length_le (by simp; rw [Nat.succ_mul, Nat.min_eq_left (by omega)]; omega)]
   simp
theorem s_lita {t e kk bytes m : Nat} {z : Value} {xs : List Operand} {parts : Array (Nat × Operand)} {es : List Ent} {cs : List (List PV)} (d : Nat) (hT : ElT P t e kk bytes z)
 (k : ∀ h : Value, h.oneCell' = true → aL P c ops Q rest ⟨put d (h, .val h) sL, put d (h, .own e kk m cs.flatten) hP⟩) (hw : wants ops sL o = some true := by exact rfl) (hd : o.dst = some d := by exact rfl) (hn : d < c.nt := by exact Nat.le_of_ble_eq_true rfl) (ho : o.op = .buildSlice t m parts := by exact rfl) (hpt : parts = ((xs.zipIdx).map fun x => (x.2, x.1)).toArray := by exact rfl) (hx : evL sL xs = some es := by exact rfl)
 (hcs : es.map (·.2) = cs.map PV.agg := by exact rfl) (hck : ∀ q ∈ cs, q.length = kk := by simp) (hm : es.length = m := by exact rfl) (hm0 : 0 < m := by decide) (hm1 : m ≤ 1000 := by decide) (hk0 : kk ≤ 1000 := by decide) (hl : lk hP d = none := by exact rfl) : aL P c ops Q (o :: rest) (⟨sL, hP⟩ : St) :=
 aL_run hw fun a w F H => by
  obtain ⟨i, hi1, hi2, hi3, hi4⟩ := hT.info
  obtain ⟨he, hS⟩ := evL_spec H.rd hx
  have hkp := hT.hk
  have key : ∀ (es : List Ent) (cs : List (List PV)), es.map (·.2) = cs.map PV.agg → (∀ q ∈ cs, q.length = kk) → (∀ (i : Nat) (x : Value) (q : PV), (es.map (·.1))[i]? = some x → (es.map (·.2))[i]? = some q → Shr (mof c hP F) w x q) → ∃ us : List (List Value), es.map (·.1) = us.map (fun v => Value.agg v.toArray) ∧ us.length = es.length ∧ (∀ u ∈ us, u.length = kk) ∧ us.flatten.length = cs.flatten.length ∧ ∀ (i : Nat) (x : Value) (q : PV), us.flatten[i]? = some x → cs.flatten[i]? = some q → Shr (mof c hP F) w x q := fun es => by
   induction es with
   | nil =>
     intro cs h1 _ _
     cases cs with
     | nil => exact ⟨[], rfl, rfl, by simp, rfl, by simp⟩
     | cons q cs => simp at h1
   | cons e0 es ih =>
     intro cs h1 h2 h3
     cases cs with
     | nil => simp at h1
     | cons q cs =>
       simp only [List.map_cons, List.cons.injEq] at h1
       obtain ⟨us, g1, g2, g3, g4, g5⟩ := ih cs h1.2 (fun u hu => h2 u (List.mem_cons_of_mem _ hu)) (fun i x q hx hq => h3 (i + 1) x q (by simpa using hx) (by simpa using hq))
       have h4 := h3 0 e0.1 e0.2 rfl rfl
       rw [h1.1] at h4
       generalize hv0 : e0.1 = v0 at h4
       have hqk := h2 q (List.mem_cons_self ..)
       cases h4 with
       | agg vs ps hvl hTT =>
         refine ⟨vs :: us, by rw [List.map_cons, List.map_cons, hv0, g1], by simp [g2], fun u hu => ?_, by rw [List.flatten_cons, List.flatten_cons, List.length_append, List.length_append, g4, hvl], fun i x r hx hr => ?_⟩
         · rcases List.mem_cons.1 hu with rfl | hu
           · omega
           · exact g3 u hu
         · rw [List.flatten_cons] at hx hr
           rcases Nat.lt_or_ge i vs.length with hi | hi
           · rw [List.getElem?_append_left hi] at hx
             rw [List.getElem?_append_left (by omega)] at hr
             exact hTT i x r hx hr
           · rw [List.getElem?_append_right hi] at hx
             rw [List.getElem?_append_right (by omega)] at hr
             refine g5 (i - vs.length) x r hx ?_
             rw [hvl]; exact hr
  obtain ⟨us, u1, u2, u3, u4, u5⟩ := key es cs hcs hck hS
  have hfl : us.flatten.length = m * kk := by
   have : ∀ us : List (List Value), (∀ u ∈ us, u.length = kk) → us.flatten.length = us.length * kk := fun us => by
    induction us with
    | nil => intro _; simp
    | cons u us ih =>
      intro h
      rw [List.flatten_cons, List.length_append, h u (List.mem_cons_self ..), ih fun v hv => h v (List.mem_cons_of_mem _ hv), List.length_cons, Nat.succ_mul]; omega
   rw [this us u3, u2, hm]
  have hmk : m * kk ≤ 1000000 := Nat.le_trans (Nat.mul_le_mul hm1 hk0) (by decide)
  have hmk0 : 0 < m * kk := Nat.mul_pos hm0 hkp
  obtain ⟨F', H'⟩ := alloc_holds (e := e) (k := kk) (n := m) (cap := m) (cur := us.flatten.toArray) (v := .slice (some ⟨w.heap.size, 0, none⟩) m m) H hl hn (vs := us.flatten) (ps := cs.flatten) u4 u5 (by first | omega | exact hfl | (rw [hfl]) | (rw [Nat.mul_comm]; exact hfl)) (Nat.le_refl _) (by unfold maxLen; omega) (by simp; rw [← List.length_flatten, hfl]) (List.take_of_length_le (by simp; rw [← List.length_flatten, hfl]; omega))
  have hf := fill_k kk us 0 ((Array.range (m * i.size)).map (z.cells[· % z.cells.size]!)) (by simp [hi3, u2, hm]) u3
  have hpe : (parts.map fun (i, x) => (i, a.eval x)).toList = ((us.map fun v => Value.agg v.toArray).zipIdx 0).map fun x => (x.2, x.1) := by
   rw [hpt, ← u1, ← he]
   simp [List.zipIdx_map]
  have hr := run_buildSlice (P := P) w t e m (parts.map fun (i, x) => (i, a.eval x)) us.flatten.toArray i z hT.ht hi1 hi2 (by rw [hi3]; omega) (by rw [hi3]; omega) (by rw [hpe, hi3]; rw [hi3] at hf; simpa using hf)
  unfold Oper.wp execOp
  simp only [ho, Sem.run_bind, hr, Result.andThen_ok, Sem.run_pure, Oper.upon, hd]
  exact k (.slice (some ⟨w.heap.size, 0, none⟩) m m) rfl _ _ ⟨F', H'⟩
end
def Rr (p p' : PV) : Prop := ∀ (M : BS) (w : World) (v : Value), Shr M w v p → Shr M w v p'
theorem Rr.rfl' (p : PV) : Rr p p := fun _ _ _ h => h
theorem Rr.nil : Rr (.val (.slice none 0 0)) (.sl 0 []) := fun M w v h => by
 cases h with
 | val => exact .emp none 0 (by unfold maxLen; omega) (fun _ => rfl)
theorem Rr.agg {ps ps' : List PV} (hl : ps.length = ps'.length) (h : ∀ (i : Nat) (p p' : PV), ps[i]? = some p → ps'[i]? = some p' → Rr p p') : Rr (.agg ps) (.agg ps') := fun M w v hv => by
 cases hv with
 | agg vs ps hvl hT =>
   refine .agg vs ps' (by omega) fun i x q hx hq => ?_
   obtain ⟨p, hp⟩ := get_of_len hq hl.symm
   exact h i p q hp hq M w x (hT i x p hx hp)
theorem Rr.tup {ps ps' : List PV} (hl : ps.length = ps'.length) (h : ∀ (i : Nat) (p p' : PV), ps[i]? = some p → ps'[i]? = some p' → Rr p p') : Rr (.tup ps) (.tup ps') := fun M w v hv => by
 cases hv with
 | tup vs ps hvl hT =>
   refine .tup vs ps' (by omega) fun i x q hx hq => ?_
   obtain ⟨p, hp⟩ := get_of_len hq hl.symm
   exact h i p q hp hq M w x (hT i x p hx hp)
theorem Rr.tup2 {p p' q : PV} (h : Rr p p') : Rr (.tup [p, q]) (.tup [p', q]) := Rr.tup rfl fun i a b ha hb => by
 match i with
 | 0 => cases ha; cases hb; exact h
 | 1 => cases ha; cases hb; exact Rr.rfl' _
 | i + 2 => simp at ha
theorem AF.reread {P : Program} {f : Nat} {ps : List PV} {p p' : PV} (h : AF P f ps (· = p)) (hs : shD p = true) (hr : Rr p p') : AF P f ps (· = p') := fun M w vs hM hl hv =>
 (h M w vs hM hl hv).mono fun e w' ⟨v, q, F, h1, h2, h3, h4, h5, h6⟩ => by
   subst h2
   refine ⟨v, p', fun _ => False, h1, rfl, h3, .shr (hr _ _ _ ((h4.shD hs).anti fun b _ hb => ?_)) (fun _ h => h), fun b hb => hb.elim, h6⟩
   rcases hb with hb | hb
   · exact .inl hb
   · exact hb.elim
section
variable {P : Program} {st : St} {o : Oper}
end
section
variable {P : Program} {st : St} {o : Oper} {x y : Operand} {q q' : PV} {t t' : TypeId}
theorem q_rem {kd : IntKind} {a b : Int} (ho : o.op = .binOp .rem t x y t' := by exact rfl) (hx : ev st.slots x = some (.int kd a, q) := by exact rfl) (hy : ev st.slots y = some (.int kd b, q') := by exact rfl) (hb : b ≠ 0 := by first | decide | omega) : YE P st o (· = .int kd (a.tmod b)) (.val (.int kd (a.tmod b))) :=
 y2 hx hy fun ρ w h3 h4 => by
  simp [execOp, ho, h3, h4, eqGuard, binOp, Op.intDiv, hb]
end
end Go.En
namespace Go.Proofs.YtgigclnaicbiaaaGreatDoor
open Go.RowKit Go.Cb Go.En
set_option linter.all false
set_option maxRecDepth 100000
def runL (a : Aut) (w : List Int) : List Int := w.foldl (fun S c => nextL a c S) (closL a a.start)
theorem runL_snoc {a : Aut} {w : List Int} {k : Nat} {c : Int} (h : w[k]? = some c) : runL a (w.take (k + 1)) = nextL a c (runL a (w.take k)) := by unfold runL; rw [take_snoc h, List.foldl_append]; rfl
theorem runL_in {a : Aut} (h : AOk a) : ∀ w : List Int, InS a (runL a w) ∧ (runL a w).length ≤ 2000 := fun w => by
 have key : ∀ (w : List Int) (S : List Int), InS a S ∧ S.length ≤ 2000 → InS a (w.foldl (fun S c => nextL a c S) S) ∧ (w.foldl (fun S c => nextL a c S) S).length ≤ 2000 := fun w => by
  induction w with
  | nil => intro S hS; exact hS
  | cons c w ih =>
    intro S hS
    have h1 := closL_len h.mi (leads_in h.mi c S)
    have h2 := h.n1
    exact ih _ ⟨next_in h.mi c S, by show (closL a (leads a c S)).length ≤ 2000; omega⟩
 have h1 := closL_len h.mi h.st
 have h2 := h.n1
 exact key w _ ⟨closL_in h.mi h.st, by omega⟩
def accX (a : Aut) (w : List Int) : Bool × Int := if autOk a = false then (false, 1) else if 200 < w.length then (false, 5) else if (w.any fun s => decide (s < 0) || decide (a.syms ≤ s)) = true then (false, 2) else (accB a (runL a w), 0)
theorem aAcceptsW1_e (a : Aut) (s : Int) : AF Tryz.prog 77 [pInt s, .sptr 0 [pInt a.n, pInt a.syms, pInts a.start, pInts a.fin, pMvs a.moves]] (· = pBool (decide (s < 0) || decide (a.syms ≤ s))) := by
 refine AF.of_body 12 Tryz.func77 rfl Tryz.ntmps77 (Nat.le_of_ble_eq_true rfl) ?_
 intro w0 M0 vs hl hv
 obtain ⟨v0, v1, rfl⟩ := len2 hl
 obtain rfl := hv 0 _ _ rfl rfl
 clear hl hv
 refine nav ?_
 (refine aC_region ?_ <;> refine xL 3 q_assign ?_ <;> refine aL_end (nav ?_) <;> try dsimp only)
 (refine aC_region ?_ <;> refine xL 4 q_move ?_ <;> refine xL 5 q_lss ?_ <;> refine xL 6 q_move ?_ <;> (refine bLd 6 (fun hb6 => ?_) (fun hb6 => ?_) <;> (first | refine kL 7 ?_ | refine xL 7 q_move ?_)) <;> (first | refine kL 8 ?_ | refine xL 8 (q_fld tFl25_1_LdI) ?_) <;> (first | refine kL 9 ?_ | (refine yL 9 (q_ld tNa3_LbB) fun v9 hv9 => ?_; cases hv9)) <;> (first | refine kL 10 ?_ | refine xL 10 q_geq ?_) <;> refine xL 11 q_pick ?_ <;> refine xL 3 q_assign ?_ <;> refine aL_end (nav ?_) <;> try dsimp only) <;> (
  refine ret_shr (Tryz.results77) rfl ?_
  show pBool _ = pBool _
  first
   | (rw [decide_eq_true (show s < 0 by assumption)]; rfl)
   | (rw [decide_eq_false (show ¬ s < 0 by assumption)]; rfl))
set_option maxHeartbeats 2000000 in
theorem aAcceptsW_x (a : Aut) (w : List Int) : AF Tryz.prog 22 [pAut a, pInts w] (· = .tup [pBool (accX a w).1, pInt (accX a w).2]) := by
 refine AF.of_body 42 Tryz.func22 rfl Tryz.ntmps22 (Nat.le_of_ble_eq_true rfl) ?_
 intro w0 M0 vs hl hv
 obtain ⟨v0, v1, rfl⟩ := len2 hl
 clear hl hv
 refine nav ?_
 (refine aC_region ?_ <;> refine s_boxa 2 5 fun h2 => ?_ <;> refine xL 4 q_assign ?_ <;> refine xL 5 q_assign ?_ <;> refine aL_end (nav ?_) <;> try dsimp only)
 (refine aC_region ?_ <;> (refine yL 11 (q_ldao 2 tAgg25_LdS) fun v11 hv11 => ?_; cases hv11) <;> (refine cS 12 (cA Tryz.call24 (aValid_e a)) fun v12 hv12 => ?_; cases hv12) <;> refine xL 13 q_not ?_ <;> refine xL 10 q_assign ?_ <;> refine aL_end (nav ?_) <;> try dsimp only)
 (first | refine cCd ?_ ?_ | refine cC ?_ ?_) <;> intro hb10
 · first
   | exact Bool.noConfusion hb10
   | (
    have hok : autOk a = false := by simpa using hb10
    refine nav ?_
    (refine aC_region ?_ <;> refine xL 4 q_assign ?_ <;> refine xL 5 q_assign ?_ <;> refine aL_end (nav ?_) <;> try dsimp only)
    refine ret_ss (Tryz.results22) rfl rfl ?_
    unfold accX
    rw [if_pos hok])
 · first
   | exact Bool.noConfusion hb10
   | (
    have hok : autOk a = true := by simpa using hb10
    have hA := aok_of hok
    have hn1 := hA.n1
    refine nav ?_
    (refine aC_region ?_ <;> refine xL 15 q_move ?_ <;> refine xL 16 (q_len tSl22_LbB) ?_ <;> refine xL 17 q_gtr ?_ <;> refine xL 14 q_assign ?_ <;> refine aL_end (nav ?_) <;> try dsimp only)
    (first | refine cCd ?_ ?_ | refine cC ?_ ?_) <;> intro hb14
    · first
      | exact Bool.noConfusion hb14
      | (
       refine nav ?_
       (refine aC_region ?_ <;> refine xL 4 q_assign ?_ <;> refine xL 5 q_assign ?_ <;> refine aL_end (nav ?_) <;> try dsimp only)
       refine ret_ss (Tryz.results22) rfl rfl ?_
       unfold accX
       rw [if_neg (by rw [hok]; decide), if_pos (by omega)])
    · first
      | exact Bool.noConfusion hb14
      | (
       refine nav ?_
       refine aC_ent (freezeP (l := 2) (t := 2) (j := 0) rfl Nat.one_pos rfl) fun _ => ?_
       (refine aC_region ?_ <;> refine xL 19 q_move ?_ <;> refine xL 20 q_mkfn ?_ <;> (refine cS 21 (cA Tryz.call76 (containsFuncInt_e 77 [.sptr 0 [pInt a.n, pInt a.syms, pInts a.start, pInts a.fin, pMvs a.moves]] (fun s => decide (s < 0) || decide (a.syms ≤ s)) w (Tryz.call77) (fun s _ => aAcceptsW1_e a s))) fun v21 hv21 => ?_; cases hv21) <;> refine xL 18 q_assign ?_ <;> refine aL_end (nav ?_) <;> try dsimp only)
       (first | refine cCd ?_ ?_ | refine cC ?_ ?_) <;> intro hb18
       · first
         | exact Bool.noConfusion hb18
         | (
          refine nav ?_
          (refine aC_region ?_ <;> refine xL 4 q_assign ?_ <;> refine xL 5 q_assign ?_ <;> refine aL_end (nav ?_) <;> try dsimp only)
          refine ret_ss (Tryz.results22) rfl rfl ?_
          unfold accX
          rw [if_neg (by rw [hok]; decide), if_neg (by omega), if_pos hb18])
       · first
         | exact Bool.noConfusion hb18
         | (
          have hax : accX a w = (accB a (runL a w), 0) := by
           unfold accX
           rw [if_neg (by rw [hok]; decide), if_neg (by omega), if_neg (by rw [hb18]; decide)]
          refine nav ?_
          (refine aC_region ?_ <;> (refine yL 22 (q_lda tAgg25_LdS) fun v22 hv22 => ?_; cases hv22) <;> (refine cS 23 (cA Tryz.call58 (aGraphOf_e a hA)) fun v23 hv23 => ?_; cases hv23) <;> refine xL 6 q_assign ?_ <;> refine aL_end (nav ?_) <;> try dsimp only)
          (refine aC_region ?_ <;> refine xL 24 q_move ?_ <;> refine xL 25 (q_fld tFl25_2_LdI) ?_ <;> (refine yL 26 (q_ld tNa22_LdI) fun v26 hv26 => ?_; cases hv26) <;> (refine cO 27 (cA Tryz.call61 (aClosure_e a a.start hn1 hA.mi hA.st)) fun v27 ho27 => ?_; refine aL_ent (En.freeze (l := 27) (t := 27) rfl rfl) fun _ => ?_; rw [share_ints _ _ _ rfl]) <;> refine xL 7 q_assign ?_ <;> refine aL_end (nav ?_) <;> try dsimp only)
          (refine aC_region ?_ <;> refine xL 28 q_move ?_ <;> refine xL 29 (q_len tSl22_LbB) ?_ <;> refine xL 30 q_move ?_ <;> refine aL_end (nav ?_) <;> try dsimp only)
          refine aC_loop (ι := { q : Nat × Value // q.1 ≤ w.length }) (fun k => ⟨[(6, _, _), (28, _, _), (29, _, _), (7, k.1.2, pInts (runL a (w.take k.1.1))), (30, .int .i64 k.1.1, pInt k.1.1)], []⟩) (fun k => w.length - k.1.1) ⟨(0, v27), Nat.zero_le _⟩ (fun a w H => H.weaken ⟨rfl, rfl, rfl, rfl, rfl, trivial⟩ trivial) ?_
          rintro ⟨⟨k, v⟩, hk⟩
          dsimp only
          dsimp only at hk
          have hrun := runL_in hA (w.take k)
          refine nav ?_
          (refine aC_region ?_ <;> refine xL 31 q_lss ?_ <;> refine aL_end (nav ?_) <;> try dsimp only)
          (first | refine cCd ?_ ?_ | refine cC ?_ ?_) <;> intro hb31
          · first
            | exact Bool.noConfusion hb31
            | (
             obtain ⟨c, hc⟩ := get_some (show k < w.length by omega)
             have e1 := map_at (f := pInt) hc
             refine nav ?_
             (refine aC_region ?_ <;> refine xL 32 (q_idxN tSl22_LbB) ?_ <;> (refine yL 33 (q_ld tNa3_LbB) fun v33 hv33 => ?_; cases hv33) <;> refine xL 9 q_assign ?_ <;> refine aL_end (nav ?_) <;> try dsimp only)
             (refine aC_region ?_ <;> refine xL 34 q_move ?_ <;> refine xL 35 q_move ?_ <;> refine xL 36 q_move ?_ <;> (refine cO 37 (cA Tryz.call63 (aNext_e a (runL a (w.take k)) c hn1 hA.ml hA.mi hrun.1 hrun.2)) fun v37 ho37 => ?_; refine aL_ent (En.freeze (l := 37) (t := 37) rfl rfl) fun _ => ?_; rw [share_ints _ _ _ rfl]) <;> refine xL 7 q_assign ?_ <;> refine aL_end (nav ?_) <;> try dsimp only)
             (refine aC_region ?_ <;> refine xL 38 q_add ?_ <;> refine xL 30 q_move ?_ <;> refine aL_end (nav ?_) <;> try dsimp only)
             rw [← runL_snoc hc]
             refine aN_again (
              ⟨(k + 1, v37), lt_of_get hc⟩
              ) (by dsimp only; omega) ⟨rfl, rfl, rfl, rfl, rfl, trivial⟩ trivial)
          · first
            | exact Bool.noConfusion hb31
            | (
             obtain rfl : k = w.length := by omega
             rw [List.take_length] at hrun ⊢
             refine nav ?_
             (refine aC_region ?_ <;> refine xL 39 q_move ?_ <;> refine xL 40 q_move ?_ <;> (refine cS 41 (cA Tryz.call62 (aAccepts_e a (runL a w) hrun.1)) fun v41 hv41 => ?_; cases hv41) <;> refine xL 4 q_assign ?_ <;> refine xL 5 q_assign ?_ <;> refine aL_end (nav ?_) <;> try dsimp only)
             refine ret_ss (Tryz.results22) rfl rfl ?_
             rw [hax]; rfl))))
theorem preG_get {α : Type} {l m : List α} (h : l <+: m) {i : Nat} {x : α} (hx : l[i]? = some x) : m[i]? = some x := by
 obtain ⟨r, rfl⟩ := h
 rw [List.getElem?_append_left (lt_of_get hx)]; exact hx
section
variable {α κ : Type} [DecidableEq κ]
def posK (f : α → κ) : List α → κ → Nat
 | [], _ => 0
 | x :: l, k => if f x = k then 0 else posK f l k + 1
theorem posK_le (f : α → κ) : ∀ (l : List α) (k : κ), posK f l k ≤ l.length
 | [], _ => Nat.le_refl _
 | x :: l, k => by
   have := posK_le f l k
   rw [posK, List.length_cons]; split <;> omega
theorem posK_lt {f : α → κ} : ∀ {l : List α} {k : κ}, posK f l k < l.length ↔ ∃ x ∈ l, f x = k
 | [], k => by simp [posK]
 | x :: l, k => by
   have := posK_lt (f := f) (l := l) (k := k)
   rw [posK, List.length_cons]
   split
   · rename_i h
     exact ⟨fun _ => ⟨x, List.mem_cons_self .., h⟩, fun _ => by omega⟩
   · rename_i h
     rw [Nat.add_lt_add_iff_right, this]
     constructor
     · rintro ⟨y, h1, h2⟩; exact ⟨y, List.mem_cons_of_mem _ h1, h2⟩
     · rintro ⟨y, h1, h2⟩
       rcases List.mem_cons.1 h1 with rfl | h1
       · exact absurd h2 h
       · exact ⟨y, h1, h2⟩
theorem posK_get {f : α → κ} : ∀ {l : List α} {k : κ} {x : α}, l[posK f l k]? = some x → f x = k
 | [], k, x, h => by simp [posK] at h
 | y :: l, k, x, h => by
   rw [posK] at h
   split at h
   · rename_i h1
     simp only [List.getElem?_cons_zero, Option.some.injEq] at h
     subst h; exact h1
   · simp only [List.getElem?_cons_succ] at h
     exact posK_get h
theorem posK_at {f : α → κ} {l : List α} {k : κ} (h : posK f l k < l.length) : ∃ x, l[posK f l k]? = some x ∧ f x = k := by
 obtain ⟨x, hx⟩ := get_some h
 exact ⟨x, hx, posK_get hx⟩
theorem posK_app {f : α → κ} : ∀ {l : List α} {k : κ} (m : List α), posK f l k < l.length → posK f (l ++ m) k = posK f l k
 | [], k, m, h => by simp at h
 | x :: l, k, m, h => by
   rw [List.cons_append, posK, posK]
   rw [posK] at h
   split
   · rfl
   · rename_i h1
     rw [if_neg h1, List.length_cons, Nat.add_lt_add_iff_right] at h
     rw [posK_app m h]
theorem posK_new {f : α → κ} : ∀ {l : List α} {x : α}, ¬ posK f l (f x) < l.length → posK f (l ++ [x]) (f x) = l.length
 | [], x, _ => by simp [posK]
 | y :: l, x, h => by
   rw [posK] at h
   rw [List.cons_append, posK]
   split
   · rename_i h1
     rw [if_pos h1, List.length_cons] at h; omega
   · rename_i h1
     rw [if_neg h1, List.length_cons, Nat.add_lt_add_iff_right] at h
     rw [posK_new h, List.length_cons]
theorem posK_inj {κ' : Type} [DecidableEq κ'] {f : α → κ} {g : α → κ'} : ∀ {l : List α} {k : κ} {k' : κ'}, (∀ x ∈ l, f x = k ↔ g x = k') → posK f l k = posK g l k'
 | [], _, _, _ => rfl
 | x :: l, k, k', h => by
   rw [posK, posK, posK_inj fun y hy => h y (List.mem_cons_of_mem _ hy)]
   have h1 := h x (List.mem_cons_self ..)
   by_cases h2 : f x = k
   · rw [if_pos h2, if_pos (h1.1 h2)]
   · rw [if_neg h2, if_neg fun h3 => h2 (h1.2 h3)]
theorem posK_idx {f : α → κ} : ∀ {l : List α} {i : Nat} {x : α}, (l.map f).Nodup → l[i]? = some x → posK f l (f x) = i
 | [], i, x, _, h => by simp at h
 | y :: l, 0, x, _, h => by
   simp only [List.getElem?_cons_zero, Option.some.injEq] at h
   subst h; rw [posK, if_pos rfl]
 | y :: l, i + 1, x, hn, h => by
   simp only [List.getElem?_cons_succ] at h
   rw [List.map_cons, List.nodup_cons] at hn
   rw [posK, if_neg fun e => hn.1 (by rw [e]; exact List.mem_map_of_mem (List.mem_of_getElem? h)), posK_idx hn.2 h]
def numE (f : α → κ) : Nat → List α → List (κ × Value)
 | _, [] => []
 | off, x :: l => (f x, .int .i64 (off : Nat)) :: numE f (off + 1) l
theorem numE_get (f : α → κ) : ∀ (l : List α) (off : Nat) (k : κ), aget (numE f off l) k = if posK f l k < l.length then some (.int .i64 ((off + posK f l k : Nat) : Int)) else none
 | [], off, k => by simp [numE, aget, posK]
 | x :: l, off, k => by
   rw [numE, aget, posK, numE_get f l (off + 1) k]
   by_cases h : f x = k
   · rw [if_pos h.symm, if_pos h, if_pos (by simp)]; simp
   · rw [if_neg (fun e => h e.symm), if_neg h, List.length_cons]
     by_cases h2 : posK f l k < l.length
     · rw [if_pos h2, if_pos (by omega)]
       congr 3; omega
     · rw [if_neg h2, if_neg (by omega)]
theorem numE_put (f : α → κ) (x : α) : ∀ (l : List α) (off : Nat), ¬ posK f l (f x) < l.length → aput (numE f off l) (f x) (.int .i64 ((off + l.length : Nat) : Int)) = numE f off (l ++ [x])
 | [], off, _ => by simp [numE, aput]
 | y :: l, off, h => by
   rw [posK] at h
   split at h
   · rename_i h1
     rw [List.length_cons] at h; omega
   · rename_i h1
     rw [List.length_cons, Nat.add_lt_add_iff_right] at h
     rw [numE, aput, if_neg (fun e => h1 e.symm), List.cons_append, numE, ← numE_put f x l (off + 1) h, List.length_cons]
     congr 4; omega
theorem numE_len (f : α → κ) : ∀ (l : List α) (off : Nat), (numE f off l).length = l.length
 | [], _ => rfl
 | x :: l, off => by rw [numE, List.length_cons, numE_len f l, List.length_cons]
def visit (f : α → κ) (cap : Nat) (o : List α) (x : α) : Option (List α × Nat) :=
 if posK f o (f x) < o.length then some (o, posK f o (f x)) else if cap ≤ o.length then none else some (o ++ [x], o.length)
theorem visit_old {f : α → κ} {cap : Nat} {o : List α} {x : α} (h : posK f o (f x) < o.length) : visit f cap o x = some (o, posK f o (f x)) := by unfold visit; rw [if_pos h]
theorem visit_new {f : α → κ} {cap : Nat} {o : List α} {x : α} (h : ¬ posK f o (f x) < o.length) (hc : o.length < cap) : visit f cap o x = some (o ++ [x], o.length) := by unfold visit; rw [if_neg h, if_neg (by omega)]
theorem visit_no {f : α → κ} {cap : Nat} {o : List α} {x : α} (h : ¬ posK f o (f x) < o.length) (hc : cap ≤ o.length) : visit f cap o x = none := by unfold visit; rw [if_neg h, if_pos hc]
end
structure Srch (α κ : Type) where
 key : α → κ
 cap : Nat
 m : Nat
 step : Nat → α → Nat → α
section
variable {α κ : Type} [DecidableEq κ] (W : Srch α κ)
def Srch.row (i : Nat) (x : α) (o : List α) : Nat → Option (List α × List Nat)
 | 0 => some (o, [])
 | s + 1 => (Srch.row i x o s).bind fun q => (visit W.key W.cap q.1 (W.step i x s)).map fun v => (v.1, q.2 ++ [v.2])
def Srch.upto (x0 : α) : Nat → Option (List α × List (List Nat))
 | 0 => some ([x0], [])
 | i + 1 => (Srch.upto x0 i).bind fun q => match q.1[i]? with
   | none => some q
   | some x => (W.row i x q.1 W.m).map fun v => (v.1, q.2 ++ [v.2])
def Srch.all (x0 : α) : Option (List α × List (List Nat)) := W.upto x0 W.cap
variable {W}
theorem Srch.row_snoc {i : Nat} {x : α} {o o' o'' : List α} {r : List Nat} {s n : Nat} (h : W.row i x o s = some (o', r)) (hv : visit W.key W.cap o' (W.step i x s) = some (o'', n)) : W.row i x o (s + 1) = some (o'', r ++ [n]) := by
 rw [Srch.row, h, Option.bind_some, hv]; rfl
theorem Srch.row_out {i : Nat} {x : α} {o o' : List α} {r : List Nat} {s : Nat} (h : W.row i x o s = some (o', r)) (hv : visit W.key W.cap o' (W.step i x s) = none) : W.row i x o (s + 1) = none := by
 rw [Srch.row, h, Option.bind_some, hv]; rfl
theorem Srch.row_none {i : Nat} {x : α} {o : List α} {s : Nat} (h : W.row i x o s = none) : ∀ t, W.row i x o (s + t) = none
 | 0 => h
 | t + 1 => by rw [← Nat.add_assoc, Srch.row, Srch.row_none h t]; rfl
theorem Srch.upto_none {x0 : α} {i : Nat} (h : W.upto x0 i = none) : ∀ t, W.upto x0 (i + t) = none
 | 0 => h
 | t + 1 => by rw [← Nat.add_assoc, Srch.upto, Srch.upto_none h t]; rfl
theorem Srch.upto_stop {x0 : α} {i : Nat} {q : List α × List (List Nat)} (h : W.upto x0 i = some q) (hl : q.1.length ≤ i) : ∀ t, W.upto x0 (i + t) = some q
 | 0 => h
 | t + 1 => by rw [← Nat.add_assoc, Srch.upto, Srch.upto_stop h hl t, Option.bind_some, List.getElem?_eq_none (by omega)]
theorem Srch.upto_snoc {x0 x : α} {i : Nat} {o o' : List α} {rows : List (List Nat)} {r : List Nat} (h : W.upto x0 i = some (o, rows)) (hx : o[i]? = some x) (hr : W.row i x o W.m = some (o', r)) : W.upto x0 (i + 1) = some (o', rows ++ [r]) := by
 rw [Srch.upto, h, Option.bind_some]; dsimp only; rw [hx]; dsimp only; rw [hr]; rfl
theorem Srch.upto_out {x0 x : α} {i : Nat} {o : List α} {rows : List (List Nat)} (h : W.upto x0 i = some (o, rows)) (hx : o[i]? = some x) (hr : W.row i x o W.m = none) : W.upto x0 (i + 1) = none := by
 rw [Srch.upto, h, Option.bind_some]; dsimp only; rw [hx]; dsimp only; rw [hr]; rfl
structure Srch.Met (W : Srch α κ) (P : α → Prop) (x0 : α) (o : List α) : Prop where
 zero : o[0]? = some x0
 cap : o.length ≤ W.cap
 nd : (o.map W.key).Nodup
 p : ∀ x ∈ o, P x
theorem Srch.Met.start {P : α → Prop} {x0 : α} (hc : 1 ≤ W.cap) (hP : P x0) : W.Met P x0 [x0] := ⟨rfl, hc, by simp, by simpa using hP⟩
theorem Srch.Met.pos {P : α → Prop} {x0 : α} {o : List α} (h : W.Met P x0 o) : 0 < o.length := lt_of_get h.zero
theorem visit_pre {f : α → κ} {cap : Nat} {o o' : List α} {x : α} {n : Nat} (h : visit f cap o x = some (o', n)) : o <+: o' ∧ n < o'.length ∧ posK f o' (f x) = n := by
 unfold visit at h
 split at h
 · rename_i h1
   cases h; exact ⟨List.prefix_refl _, h1, rfl⟩
 · rename_i h1
   split at h
   · cases h
   · cases h
     exact ⟨List.prefix_append _ _, by simp, posK_new h1⟩
theorem Srch.Met.visit {P : α → Prop} {x0 x : α} {o o' : List α} {n : Nat} (h : W.Met P x0 o) (hx : P x) (hv : visit W.key W.cap o x = some (o', n)) : W.Met P x0 o' := by
 unfold Go.Proofs.YtgigclnaicbiaaaGreatDoor.visit at hv
 split at hv
 · cases hv; exact h
 · rename_i h1
   split at hv
   · cases hv
   · rename_i h2
     cases hv
     refine ⟨?_, by rw [List.length_append, List.length_singleton]; omega, ?_, fun y hy => ?_⟩
     · rw [List.getElem?_append_left h.pos]; exact h.zero
     · rw [List.map_append, List.nodup_append]
       refine ⟨h.nd, by simp, fun a ha b hb e => h1 (posK_lt.2 ?_)⟩
       subst e
       obtain ⟨y, hy, rfl⟩ := List.mem_map.1 ha
       simp at hb
       exact ⟨y, hy, hb⟩
     · rcases List.mem_append.1 hy with hy | hy
       · exact h.p y hy
       · rw [List.mem_singleton.1 hy]; exact hx
theorem Srch.Met.row {P : α → Prop} {x0 x : α} {i : Nat} {o : List α} (h : W.Met P x0 o) (hx : ∀ s, s < W.m → P (W.step i x s)) : ∀ {s : Nat} {o' : List α} {r : List Nat}, s ≤ W.m → W.row i x o s = some (o', r) → W.Met P x0 o' ∧ o <+: o' ∧ r.length = s ∧ ∀ (t n : Nat), r[t]? = some n → n < o'.length ∧ posK W.key o' (W.key (W.step i x t)) = n
 | 0, o', r, _, hr => by
   rw [Srch.row] at hr; cases hr
   exact ⟨h, List.prefix_refl _, rfl, fun t n ht => by simp at ht⟩
 | s + 1, o', r, hs, hr => by
   rw [Srch.row, Option.bind_eq_some_iff] at hr
   obtain ⟨⟨o1, r1⟩, h1, h2⟩ := hr
   obtain ⟨⟨o2, n⟩, h3, h4⟩ := Option.map_eq_some_iff.1 h2
   cases h4
   dsimp only at h3 ⊢
   obtain ⟨h5, h6, h7, h8⟩ := Srch.Met.row h hx (by omega) h1
   obtain ⟨h9, h10, h11⟩ := visit_pre h3
   refine ⟨h5.visit (hx s (by omega)) h3, h6.trans h9, by rw [List.length_append, h7]; rfl, fun t n' ht => ?_⟩
   rw [List.getElem?_append] at ht
   split at ht
   · obtain ⟨h12, h13⟩ := h8 t n' ht
     obtain ⟨e, rfl⟩ := h9
     refine ⟨by rw [List.length_append]; omega, ?_⟩
     rw [posK_app e (by rw [h13]; exact h12)]; exact h13
   · have h14 : t = s := by
      have := lt_of_get ht
      simp only [List.length_singleton] at this; omega
     subst h14
     rw [h7, Nat.sub_self] at ht
     simp only [List.getElem?_cons_zero, Option.some.injEq] at ht
     subst ht
     exact ⟨h10, h11⟩
structure Srch.Ok (W : Srch α κ) (P : α → Prop) (x0 : α) (o : List α) (rows : List (List Nat)) : Prop extends W.Met P x0 o where
 len : ∀ r ∈ rows, r.length = W.m
 to : ∀ (i : Nat) (x : α) (r : List Nat) (t n : Nat), o[i]? = some x → rows[i]? = some r → r[t]? = some n → n < o.length ∧ posK W.key o (W.key (W.step i x t)) = n
theorem Srch.ok {P : α → Prop} {x0 : α} (hc : 1 ≤ W.cap) (h0 : P x0) (hP : ∀ i x s, P x → s < W.m → P (W.step i x s)) : ∀ {i : Nat} {o : List α} {rows : List (List Nat)}, W.upto x0 i = some (o, rows) → W.Ok P x0 o rows ∧ (i ≤ o.length → rows.length = i) ∧ (o.length ≤ i → rows.length = o.length)
 | 0, o, rows, h => by
   rw [Srch.upto] at h; cases h
   exact ⟨⟨Srch.Met.start hc h0, by simp, by simp⟩, fun _ => rfl, fun h => by simp at h⟩
 | i + 1, o, rows, h => by
   rw [Srch.upto, Option.bind_eq_some_iff] at h
   obtain ⟨⟨o1, rows1⟩, h1, h2⟩ := h
   obtain ⟨h3, h4, h4'⟩ := Srch.ok hc h0 hP h1
   dsimp only at h2
   cases hx : o1[i]? with
   | none =>
     rw [hx] at h2; cases h2
     have := List.getElem?_eq_none_iff.1 hx
     exact ⟨h3, fun h5 => by omega, fun _ => h4' this⟩
   | some x =>
     rw [hx] at h2
     obtain ⟨⟨o2, r⟩, h5, h6⟩ := Option.map_eq_some_iff.1 h2
     cases h6
     dsimp only
     have hil := lt_of_get hx
     have h4 := h4 (by omega)
     obtain ⟨h7, h8, h9, h10⟩ := h3.toMet.row (fun s hs => hP i x s (h3.p x (List.mem_of_getElem? hx)) hs) (Nat.le_refl _) h5
     have hle := h8.length_le
     refine ⟨⟨h7, fun r' hr' => ?_, fun j y r' t n hj hr' ht => ?_⟩, fun _ => by rw [List.length_append, h4]; rfl, fun _ => by rw [List.length_append, h4, List.length_singleton]; omega⟩
     · rcases List.mem_append.1 hr' with hr' | hr'
       · exact h3.len r' hr'
       · rw [List.mem_singleton.1 hr']; exact h9
     · rw [List.getElem?_append] at hr'
       split at hr'
       · rename_i hjl
         obtain ⟨z, hz⟩ := get_some (show j < o1.length by omega)
         have hzy := preG_get h8 hz
         rw [hzy] at hj; cases hj
         obtain ⟨h12, h13⟩ := h3.to j y r' t n hz hr' ht
         obtain ⟨e, rfl⟩ := h8
         refine ⟨by rw [List.length_append]; omega, ?_⟩
         rw [posK_app e (by rw [h13]; exact h12)]; exact h13
       · have hj2 : j = i := by
          have := lt_of_get hr'
          simp only [List.length_singleton] at this; omega
         subst hj2
         rw [h4, Nat.sub_self] at hr'
         simp only [List.getElem?_cons_zero, Option.some.injEq] at hr'
         subst hr'
         have hzy := preG_get h8 hx
         rw [hzy] at hj; cases hj
         exact h10 t n ht
theorem Srch.all_some {x0 : α} {i : Nat} {q : List α × List (List Nat)} (h : W.upto x0 i = some q) (hl : q.1.length ≤ i) (hi : i ≤ W.cap) : W.all x0 = some q := by
 have := Srch.upto_stop h hl (W.cap - i)
 rw [show i + (W.cap - i) = W.cap by omega] at this
 exact this
theorem Srch.all_none {x0 : α} {i : Nat} (h : W.upto x0 i = none) (hi : i ≤ W.cap) : W.all x0 = none := by
 have := Srch.upto_none h (W.cap - i)
 rw [show i + (W.cap - i) = W.cap by omega] at this
 exact this
theorem Srch.row_fails {i : Nat} {x : α} {o : List α} {s : Nat} (h : W.row i x o s = none) (hs : s ≤ W.m) : W.row i x o W.m = none := by
 have := Srch.row_none h (W.m - s)
 rwa [show s + (W.m - s) = W.m by omega] at this
end
theorem vec_at1 {α : Type} {n i : Nat} (f : Nat → α) (h : i < n) : (vec n f)[i * 1]? = some (f i) := by rw [Nat.mul_one]; exact vec_get f h
def hasI (l : List Int) (n : Int) : Bool := l.any fun t => decide (t = n)
theorem hasI_iff {l : List Int} {n : Int} : hasI l n = true ↔ n ∈ l := by unfold hasI; simp
def listedL (n : Nat) (f : Nat → Bool) : List Int := ((List.range n).filter f).map fun i : Nat => (i : Int)
theorem listedL_snoc (k : Nat) (f : Nat → Bool) : listedL (k + 1) f = listedL k f ++ (if f k then [(k : Int)] else []) := by
 unfold listedL
 rw [List.range_succ, List.filter_append, List.map_append]
 congr 1
 cases h : f k <;> simp [h]
theorem listedL_len (n : Nat) (f : Nat → Bool) : (listedL n f).length ≤ n := by
 unfold listedL
 rw [List.length_map]
 have := List.length_filter_le f (List.range n)
 simpa using this
theorem listedL_mem {n : Nat} {f : Nat → Bool} {t : Int} : t ∈ listedL n f ↔ 0 ≤ t ∧ t < n ∧ f t.toNat = true := by
 unfold listedL
 simp only [List.mem_map, List.mem_filter, List.mem_range]
 constructor
 · rintro ⟨i, ⟨h1, h2⟩, rfl⟩
   exact ⟨by omega, by omega, by simpa using h2⟩
 · rintro ⟨h1, h2, h3⟩
   exact ⟨t.toNat, ⟨by omega, h3⟩, by omega⟩
theorem listedL_srt (n : Nat) (f : Nat → Bool) : Srt (listedL n f) := by
 unfold listedL Srt
 refine List.pairwise_map.2 (List.Pairwise.filter _ ?_)
 exact (List.pairwise_lt_range (n := n)).imp fun h => by omega
end Go.Proofs.YtgigclnaicbiaaaGreatDoor
