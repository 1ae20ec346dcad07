/-
  Walks: the lexer of the program: the next token.
  Walks: the lexer of the reference: letters, digits, blanks, names.
  Walks: the lexer of the reference: numbers.
  Walks: the lexer of the reference: literals.
  Walks: the lexer of the reference: symbols; the next token.
  Walks: the lexer of the program: the tokens of a string.
  Walks: the lexer of the reference: places.
  Process trees: a text is read as its tree. Plain Lean.
  The engine: functions that may panic: their results and their panics. No program in sight.
  Walks: the reader of trees: symbols wanted, trees read, by panics.
  Walks: process trees: the normal form.
  Walks: the reader of trees: a tree is read, or the token is thrown that cannot stand.
  Walks: the reference's reader of trees: words, symbols; what it reads, in plain Lean.
  Walks: the reference's reader of trees.
-/
import Derived.Test.YtbfilfhgcihhoaaGreatDoorPk04
import Derived.Test.YtbfilfhgcihhoaaGreatDoorPk03
namespace Go.Proofs.YtbfilfhgcihhoaaGreatDoor
open Go.RowKit Go.Cb Go.En
set_option linter.all false
set_option maxRecDepth 100000
theorem tAgg33_PtU : AggT Tryz.prog 33 2 = true := by kernel_rfl
theorem tAgg71_PtU : AggT Tryz.prog 71 5 = true := by kernel_rfl
theorem tFl71_0_PtU : FldT Tryz.prog 71 0 0 = true := by kernel_rfl
theorem tFl71_1_PtU : FldT Tryz.prog 71 1 1 = true := by kernel_rfl
theorem tFl71_2_PtU : FldT Tryz.prog 71 2 2 = true := by kernel_rfl
theorem tFl99_0_PtU : FldT Tryz.prog 99 0 0 = true := by kernel_rfl
theorem tFl99_1_PtU : FldT Tryz.prog 99 1 1 = true := by kernel_rfl
theorem tNa3_PtU : NoAgg Tryz.prog 3 = true := by kernel_rfl
theorem tNa9_PtU : NoAgg Tryz.prog 9 = true := by kernel_rfl
theorem tSq71_PtU : stInfo Tryz.prog 71 = some ((.agg #[(.int .i64 0), (.string ByteArray.empty), (.int .i64 0), (.int .i64 0), (.int .i64 0)]), [(0, 1), (1, 1), (2, 1), (3, 2)]) := by kernel_rfl
theorem tSz3_PtU : (Tryz.prog.info? 3).map (·.size) = some 1 := by kernel_rfl
theorem tSz9_PtU : (Tryz.prog.info? 9).map (·.size) = some 1 := by kernel_rfl
theorem tZr71_PtU : ZeroT Tryz.prog 71 (.agg #[(.int .i64 0), (.string ByteArray.empty), (.int .i64 0), (.int .i64 0), (.int .i64 0)]) := by unfold ZeroT; kernel_rfl
def atP2 : Option (Nat × Value) → PV
 | none => .val .nilIface
 | some (t, x) => .val (.iface t x)
def AtoiC (P : Program) (f : FuncId) : Prop := ∀ d : List UInt8, d ≠ [] → (∀ c ∈ d, isDB c = true) → d.length ≤ 20000 → AF P f [pB d] (fun p => ∃ i : {i : Int × Option (Nat × Value) // (i.2 = none ∧ i.1 = valD d ∧ valD d ≤ 9223372036854775807) ∨ (∃ x, i.2 = some x) ∧ 9223372036854775807 < valD d}, p = .tup [pInt i.1.1, atP2 i.1.2])
theorem atP2_sh {a : Int} (o : Option (Nat × Value)) : shD (.tup [pInt a, atP2 o]) = true := by
 cases o with
 | none => rfl
 | some x => rfl
theorem at_cases {x : Int} {o : Option (Nat × Value)} {VD : Nat} (h : (((x, o) : Int × Option (Nat × Value)).2 = none ∧ ((x, o) : Int × Option (Nat × Value)).1 = VD ∧ VD ≤ 9223372036854775807) ∨ (∃ y, ((x, o) : Int × Option (Nat × Value)).2 = some y) ∧ 9223372036854775807 < VD) : (o = none → x = (VD : Int)) ∧ (o ≠ none → 9223372036854775807 < VD) := by
 rcases h with ⟨h1, h2, _⟩ | ⟨⟨y, h1⟩, h2⟩
 · exact ⟨fun _ => h2, fun h => absurd h1 h⟩
 · exact ⟨fun h => (by simp only at h1; rw [h] at h1; cases h1), fun _ => h2⟩
theorem q_neqB {P : Program} {st : St} {o : Oper} {x y : Operand} {q q' : PV} {t t' : TypeId} {a b : Int} (B : Bool) (ho : o.op = .binOp .neq t x y t' := by exact rfl) (hx : ev st.slots x = some (.int .i64 a, q) := by exact rfl) (hy : ev st.slots y = some (.int .i64 b, q') := by exact rfl) (hB : decide (a ≠ b) = B := by decide) : YE P st o (· = .bool B) (.val (.bool B)) := by
 subst hB
 exact q_neq ho hx hy
theorem litB_err : ∀ {m : List UInt8} {e : Int}, litB m = .err e → e = 3 ∨ e = 4
 | [], e, h => by simp [litB] at h; omega
 | [c], e, h => by
   rw [litB.eq_def] at h
   simp only at h
   split at h
   · cases h
   · split at h
     · cases h; omega
     · split at h
       · cases h; omega
       · simp [litB] at h; omega
 | c :: d :: m, e, h => by
   rw [litB.eq_def] at h
   simp only at h
   split at h
   · cases h
   · split at h
     · cases h; omega
     · split at h
       · split at h
         · cases h2 : litB m with
           | err e2 => rw [h2] at h; cases h; exact litB_err h2
           | ok n2 t2 => rw [h2] at h; cases h
         · cases h; omega
       · cases h2 : litB (d :: m) with
         | err e2 => rw [h2] at h; cases h; exact litB_err h2
         | ok n2 t2 => rw [h2] at h; cases h
theorem lexB_err0 {l : List UInt8} {e : Int} (h : lexB l = .err e) : e ≠ 0 := by
 cases l with
 | nil => cases h
 | cons c m =>
   rw [lexB] at h
   split at h
   · split at h
     · cases h; omega
     · cases h
   · split at h
     · split at h
       · cases h; omega
       · split at h
         · cases h; omega
         · cases h
     · split at h
       · cases h2 : litB m with
         | err e2 =>
           rw [h2] at h; cases h
           have := litB_err h2
           omega
         | ok n t => rw [h2] at h; cases h
       · cases h2 : symB (c :: m) with
         | none => rw [h2] at h; cases h; omega
         | some x => rw [h2] at h; cases h
theorem lit_take : ∀ (m : List UInt8) {n : Nat} {t : List UInt8}, litB m = .ok n t → litB (m.take n) = .ok n t
 | [], n, t, h => by simp [litB] at h
 | [c], n, t, h => by
   have := litB_len [c] h
   rw [List.take_of_length_le (by simpa using this.1)]
   exact h
 | c :: d :: m, n, t, h => by
   have h0 := h
   rw [litB.eq_def] at h
   simp only at h
   split at h
   · rename_i h34; cases h; exact lit_end (by omega)
   · split at h
     · cases h
     · rename_i hr
       split at h
       · rename_i h92
         split at h
         · rename_i hd
           cases h2 : litB m with
           | err e => rw [h2] at h; cases h
           | ok n2 t2 =>
             rw [h2] at h; cases h
             have := lit_take m h2
             rw [show n2 + 2 = n2 + 1 + 1 from rfl, List.take_succ_cons, List.take_succ_cons, lit_esc (by omega) (by omega), this]
             rfl
         · cases h
       · rename_i h92
         cases h2 : litB (d :: m) with
         | err e => rw [h2] at h; cases h
         | ok n2 t2 =>
           rw [h2] at h; cases h
           have := lit_take (d :: m) h2
           rw [List.take_succ_cons, lit_plain (by omega) (by omega) (by omega) (by omega), this]
           rfl
def nexP (p : Int × Int) : Lx → PV
 | .ok kd tx n len => .tup [.agg [pInt kd, pB tx, pInt n, pInt p.1, pInt p.2], pInt len, pInt 0]
 | .err e => .tup [.agg [pInt 0, pB [], pInt 0, pInt p.1, pInt p.2], pInt 0, pInt e]
def nexV (lx : Lx) (V : Value) : Value := match lx with
 | .ok _ _ _ len => .tuple #[V, .int .i64 len, .int .i64 0]
 | .err e => .tuple #[V, .int .i64 0, .int .i64 e]
theorem tw_take (q : UInt8 → Bool) : ∀ l : List UInt8, l.take (l.takeWhile q).length = l.takeWhile q
 | [] => rfl
 | c :: l => by
   rw [List.takeWhile_cons]
   split
   · rw [List.length_cons, List.take_succ_cons, tw_take q l]
   · rfl
theorem tw_drop (q : UInt8 → Bool) : ∀ l : List UInt8, l.drop (l.takeWhile q).length = l.dropWhile q
 | [] => rfl
 | c :: l => by
   rw [List.takeWhile_cons, List.dropWhile_cons]
   split
   · rw [List.length_cons, List.drop_succ_cons, tw_drop q l]
   · rfl
theorem tw_mem {q : UInt8 → Bool} : ∀ {l : List UInt8} {c : UInt8}, c ∈ l.takeWhile q → q c = true
 | d :: l, c, h => by
   rw [List.takeWhile_cons] at h
   split at h
   · rename_i hd
     rcases List.mem_cons.1 h with rfl | h
     · exact hd
     · exact tw_mem h
   · cases h
theorem dw_head {q : UInt8 → Bool} {l : List UInt8} {d : UInt8} (h : l[(l.takeWhile q).length]? = some d) : (l.dropWhile q).head? = some d := by
 rw [← tw_drop, List.head?_drop]; exact h
theorem dw_none {q : UInt8 → Bool} {l : List UInt8} (h : ¬ (l.takeWhile q).length < l.length) : l.dropWhile q = [] := by
 rw [← tw_drop]; exact drop_all (by omega)
set_option maxHeartbeats 4000000 in
theorem tkNext_e (b : Nat) (l : List UInt8) (hA : (∃ c ∈ l, isDB c = true) → AtoiC Tryz.prog 82) (p : Int × Int) (hl : l.length ≤ 16384) : AFh False Tryz.prog 58 [(0, ptr1 b, .val (ptr1 b))] (RdH b l p) (fun u q h => (∃ V, u = nexV (lexB l) V) ∧ q = nexP p (lexB l) ∧ h = RdH b l p) := by
 have hsz := bst_size l
 unfold RdH
 refine AFh.of_body 158 Tryz.func58 rfl Tryz.ntmps58 (Nat.le_of_ble_eq_true rfl) rfl ?_
 intro w0 M0 N0
 refine nav ?_
 (refine aC_region ?_ <;> refine s_alloc [(.int .i64 0), (.string ByteArray.empty), (.int .i64 0), (.int .i64 0), (.int .i64 0)] 5 2 tZr71_PtU fun h2 => ?_ <;> refine xL 3 q_assign ?_ <;> refine xL 4 q_assign ?_ <;> refine aL_end (nav ?_) <;> try dsimp only)
 (refine aC_region ?_ <;> refine xL 16 q_move ?_ <;> refine xL 17 (q_nilo 1000) ?_ <;> refine xL 18 (q_fldo 1000 tFl99_1_PtU) ?_ <;> (refine yL 19 (q_ldao 1000 tAgg33_PtU) fun v19 hv19 => ?_; cases hv19) <;> (refine yL 20 (q_buildM tSq71_PtU) fun v20 hv20 => ?_; cases hv20) <;> refine s_alloc1 [.int .i64 0, .string ByteArray.empty, .int .i64 0, .int .i64 0, .int .i64 0] 5 5 tZr71_PtU fun b5 => ?_ <;> refine s_sta 5 tAgg71_PtU ?_ <;> refine aL_end (nav ?_) <;> try dsimp only)
 refine aC_ent (recast (l := 5) (p' := .own 71 5 1 [pInt 0, pB [], pInt 0, pInt p.1, pInt p.2]) rfl rfl) fun _ => ?_
 (refine aC_region ?_ <;> refine xL 21 q_move ?_ <;> refine xL 22 (q_nilo 1000) ?_ <;> refine xL 23 (q_fldo 1000 tFl99_0_PtU) ?_ <;> (refine yL 24 (q_ldo 1000 tNa9_PtU) fun v24 hv24 => ?_; cases hv24) <;> refine xL 25 q_seql ?_ <;> refine aL_end (nav ?_) <;> try dsimp only)
 (first | refine cCd ?_ ?_ | refine cC ?_ ?_) <;> intro hb25
 · first
   | exact Bool.noConfusion hb25
   | (
    obtain rfl : l = [] := by
     rw [bst_empty] at hb25
     simpa using hb25
    refine nav ?_
    (refine aC_region ?_ <;> refine xL 26 (q_fldo 5 tFl71_0_PtU) ?_ <;> refine s_st 5 tNa3_PtU tSz3_PtU ?_ <;> refine aL_end (nav ?_) <;> try dsimp only)
    (refine aC_region ?_ <;> (refine yL 27 (q_ldao 5 tAgg71_PtU) fun v27 hv27 => ?_; cases hv27) <;> refine s_sta 2 tAgg71_PtU ?_ <;> refine xL 3 q_assign ?_ <;> refine xL 4 q_assign ?_ <;> refine aL_end (nav ?_) <;> try dsimp only)
    refine ret_h3 (RdH b [] p) (Tryz.results58) (.cell (k := 5) 2 (by kernel_rfl) rfl rfl (Nat.le_of_ble_eq_true rfl) (by decide) rfl) (.tmp rfl) (.tmp rfl) ⟨rfl, trivial⟩ fun V V1 V2 h1 h2 => by cases h1; cases h2; exact ⟨⟨V, rfl⟩, rfl, rfl⟩)
 · first
   | exact Bool.noConfusion hb25
   | (
    have hne : l ≠ [] := by
     rintro rfl
     rw [bst_empty] at hb25
     simp at hb25
    clear hb25
    obtain ⟨c, m, rfl⟩ := List.exists_cons_of_ne_nil hne
    have hc0 : (bst (c :: m)).data[(0 : Int).toNat]? = some c := by rw [bst_get]; rfl
    have hcl : (c :: m).length = m.length + 1 := rfl
    refine nav ?_
    (refine aC_region ?_ <;> refine xL 28 q_move ?_ <;> refine xL 29 (q_nilo 1000) ?_ <;> refine xL 30 (q_fldo 1000 tFl99_0_PtU) ?_ <;> (refine yL 31 (q_ldo 1000 tNa9_PtU) fun v31 hv31 => ?_; cases hv31) <;> refine xL 32 (q_index Tryz.underlying9 rfl rfl rfl (by omega) hc0) ?_ <;> refine xL 6 q_assign ?_ <;> refine aL_end (nav ?_) <;> try dsimp only)
    (refine aC_region ?_ <;> refine xL 34 q_move ?_ <;> (refine cS 35 (cA Tryz.call78 (tkLetter_e c.toNat)) fun v35 hv35 => ?_; cases hv35) <;> refine xL 33 q_assign ?_ <;> refine aL_end (nav ?_) <;> try dsimp only)
    (first | refine cCd ?_ ?_ | refine cC ?_ ?_) <;> intro hb33
    · first
      | exact Bool.noConfusion hb33
      | (
       have hlb : isLB c = true := hb33
       have htl := tw_le isPB (c :: m)
       refine nav ?_
       (refine aC_region ?_ <;> refine xL 36 q_move ?_ <;> refine xL 37 (q_nilo 1000) ?_ <;> refine xL 38 (q_fldo 1000 tFl99_0_PtU) ?_ <;> (refine yL 39 (q_ldo 1000 tNa9_PtU) fun v39 hv39 => ?_; cases hv39) <;> (refine cS 40 (cA Tryz.call79 (tkLength_e 80 isPB (c :: m) (by omega) (Tryz.call80) tkNext1_e)) fun v40 hv40 => ?_; cases hv40) <;> refine xL 7 q_assign ?_ <;> refine aL_end (nav ?_) <;> try dsimp only)
       (refine aC_region ?_ <;> refine xL 41 q_move ?_ <;> refine xL 42 q_gtr ?_ <;> refine aL_end (nav ?_) <;> try dsimp only)
       (first | refine cCd ?_ ?_ | refine cC ?_ ?_) <;> intro hb42
       · first
         | exact Bool.noConfusion hb42
         | (
          refine nav ?_
          (refine aC_region ?_ <;> (refine yL 43 (q_ldao 5 tAgg71_PtU) fun v43 hv43 => ?_; cases hv43) <;> refine s_sta 2 tAgg71_PtU ?_ <;> refine xL 3 q_assign ?_ <;> refine xL 4 q_assign ?_ <;> refine aL_end (nav ?_) <;> try dsimp only)
          refine ret_h3 (RdH b (c :: m) p) (Tryz.results58) (.cell (k := 5) 2 (by kernel_rfl) rfl rfl (Nat.le_of_ble_eq_true rfl) (by decide) rfl) (.tmp rfl) (.tmp rfl) ⟨rfl, trivial⟩ fun V V1 V2 h1 h2 => ?_
          cases h1; cases h2
          rw [lexB, if_pos hlb, if_pos (by omega)]; exact ⟨⟨V, rfl⟩, rfl, rfl⟩)
       · first
         | exact Bool.noConfusion hb42
         | (
          refine nav ?_
          (refine aC_draw (fun i => ([] : List Nat).elem i) [1000] (by kernel_rfl) ?_ <;> refine xD 0 44 rfl q_move ?_ <;> refine xD 1 45 rfl (q_nilo 1000) ?_ <;> refine xD 2 46 rfl (q_fldo 1000 tFl99_0_PtU) ?_ <;> (refine yD 3 47 rfl (q_ldo 1000 tNa9_PtU) fun v47 hv47 => ?_; cases hv47) <;> refine xD 4 48 rfl q_move ?_ <;> refine xD 5 49 rfl (q_upto Tryz.underlying9) ?_ <;> refine xE 6 50 rfl (q_fldo 5 tFl71_0_PtU) ?_ <;> (refine aD_one 7 (by kernel_rfl) ?_) <;> (refine aW_run rfl fun w9 M9 N9 DQ back => ?_) <;> refine s_st 5 tNa3_PtU tSz3_PtU ?_ <;> refine aL_end (back _ (nrm ?_)) <;> refine xE 8 51 rfl (q_fldo 5 tFl71_1_PtU) ?_ <;> (refine aD_one 9 (by kernel_rfl) ?_) <;> (refine aW_run rfl fun w9 M9 N9 DQ back => ?_) <;> refine s_st 5 tNa9_PtU tSz9_PtU ?_ <;> refine aL_end (back _ (nrm ?_)) <;> refine aD_end (by kernel_rfl) (nav ?_) <;> try dsimp only)
          (refine aC_region ?_ <;> (refine yL 52 (q_ldao 5 tAgg71_PtU) fun v52 hv52 => ?_; cases hv52) <;> refine xL 53 q_move ?_ <;> refine s_sta 2 tAgg71_PtU ?_ <;> refine xL 3 q_assign ?_ <;> refine xL 4 q_assign ?_ <;> refine aL_end (nav ?_) <;> try dsimp only)
          refine ret_h3 (RdH b (c :: m) p) (Tryz.results58) (.cell (k := 5) 2 (by kernel_rfl) rfl rfl (Nat.le_of_ble_eq_true rfl) (by decide) rfl) (.tmp rfl) (.tmp rfl) ⟨rfl, trivial⟩ fun V V1 V2 h1 h2 => ?_
          cases h1; cases h2
          have e : (c :: m).take (((c :: m).takeWhile isPB).length : Int).toNat = (c :: m).takeWhile isPB := by rw [Int.toNat_natCast, tw_take]
          rw [e, lexB, if_pos hlb, if_neg (by omega)]; exact ⟨⟨V, rfl⟩, rfl, rfl⟩))
    · first
      | exact Bool.noConfusion hb33
      | (
       have hlb : isLB c = false := hb33
       refine nav ?_
       (refine aC_region ?_ <;> refine xL 55 q_move ?_ <;> (refine cS 56 (cA Tryz.call81 (tkDigit_e c)) fun v56 hv56 => ?_; cases hv56) <;> refine xL 54 q_assign ?_ <;> refine aL_end (nav ?_) <;> try dsimp only)
       (first | refine cCd ?_ ?_ | refine cC ?_ ?_) <;> intro hb54
       · first
         | exact Bool.noConfusion hb54
         | (
          have hdb : isDB c = true := hb54
          have htl := tw_le isDB (c :: m)
          have hac : AtoiC Tryz.prog 82 := hA ⟨c, List.mem_cons_self .., hdb⟩
          have hdne : (c :: m).takeWhile isDB ≠ [] := by
           intro h
           have := tw_pos (p := isDB) (m := m) hdb
           rw [h] at this; simp at this
          obtain ⟨nd, hnd⟩ : ∃ nd, nd = ((c :: m).takeWhile isDB).length := ⟨_, rfl⟩
          obtain ⟨d, hd⟩ : ∃ d, nd < (c :: m).length → (c :: m)[nd]? = some d := by
           rcases Nat.lt_or_ge nd (c :: m).length with h | h
           · exact ⟨_, fun _ => List.getElem?_eq_getElem h⟩
           · exact ⟨0, fun h' => by omega⟩
          have hdy : nd < (c :: m).length → (bst (c :: m)).data[((nd : Nat) : Int).toNat]? = some d := fun h => by
           rw [bst_get, Int.toNat_natCast]; exact hd h
          have hlex : lexB (c :: m) = (if ((c :: m).dropWhile isDB).head?.any (fun d => isLB d || d.toNat == 95) then .err 3 else if 4503599627370496 < valD ((c :: m).takeWhile isDB) then .err 6 else .ok 2 [] (valD ((c :: m).takeWhile isDB)) nd) := by
           rw [lexB, if_neg (by rw [hlb]; exact Bool.false_ne_true), if_pos hdb, hnd]
          have hany : ((c :: m).dropWhile isDB).head?.any (fun d => isLB d || d.toNat == 95) = (decide (nd < (c :: m).length) && (isLB d || d.toNat == 95)) := by
           by_cases h : nd < (c :: m).length
           · rw [dw_head (d := d) (by rw [← hnd]; exact hd h), decide_eq_true h]; rfl
           · rw [dw_none (by rw [← hnd]; exact h), decide_eq_false h]; rfl
          rw [← hnd] at htl
          have htk : (c :: m).take (nd : Int).toNat = (c :: m).takeWhile isDB := by rw [Int.toNat_natCast, hnd, tw_take]
          have hlen : AF Tryz.prog 79 [pB (c :: m), .fn 81 []] (· = pInt nd) := by
           rw [hnd]; exact tkLength_e 81 isDB (c :: m) (by omega) (Tryz.call81) tkDigit_e
          have hdg : AF Tryz.prog 82 [pB ((c :: m).take (nd : Int).toNat)] (fun p => ∃ i : {i : Int × Option (Nat × Value) // (i.2 = none ∧ i.1 = valD ((c :: m).takeWhile isDB) ∧ valD ((c :: m).takeWhile isDB) ≤ 9223372036854775807) ∨ (∃ x, i.2 = some x) ∧ 9223372036854775807 < valD ((c :: m).takeWhile isDB)}, p = .tup [pInt i.1.1, atP2 i.1.2]) := by
           rw [htk]; exact hac ((c :: m).takeWhile isDB) hdne (fun d hd => tw_mem hd) (by omega)
          generalize hVD : valD ((c :: m).takeWhile isDB) = VD at hdg hlex
          refine nav ?_
          (refine aC_region ?_ <;> refine xL 57 q_move ?_ <;> refine xL 58 (q_nilo 1000) ?_ <;> refine xL 59 (q_fldo 1000 tFl99_0_PtU) ?_ <;> (refine yL 60 (q_ldo 1000 tNa9_PtU) fun v60 hv60 => ?_; cases hv60) <;> (refine cS 61 (cA Tryz.call79 (hlen)) fun v61 hv61 => ?_; cases hv61) <;> refine xL 8 q_assign ?_ <;> refine aL_end (nav ?_) <;> try dsimp only)
          (refine aC_region ?_ <;> refine xL 62 q_move ?_ <;> refine xL 63 q_move ?_ <;> refine xL 64 (q_nilo 1000) ?_ <;> refine xL 65 (q_fldo 1000 tFl99_0_PtU) ?_ <;> (refine yL 66 (q_ldo 1000 tNa9_PtU) fun v66 hv66 => ?_; cases hv66) <;> refine xL 67 (q_slen Tryz.underlying9) ?_ <;> refine xL 68 q_lss ?_ <;> refine xL 69 q_move ?_ <;> (refine bLd 69 (fun hb69 => ?_) (fun hb69 => ?_) <;> (first | refine kL 70 ?_ | refine xL 70 q_move ?_)) <;> (first | refine kL 71 ?_ | refine xL 71 (q_nilo 1000) ?_) <;> (first | refine kL 72 ?_ | refine xL 72 (q_fldo 1000 tFl99_0_PtU) ?_) <;> (first | refine kL 73 ?_ | (refine yL 73 (q_ldo 1000 tNa9_PtU) fun v73 hv73 => ?_; cases hv73)) <;> (first | refine kL 74 ?_ | refine xL 74 q_move ?_) <;> (first | refine kL 75 ?_ | refine kL 75 ?_ | refine xL 75 (q_index Tryz.underlying9 rfl rfl rfl (by omega) (hdy (by omega))) ?_) <;> (first | refine kL 76 ?_ | refine kL 76 ?_ | (refine cS 76 (cA (Tryz.call78) (tkLetter_e d.toNat)) fun v76 hv76 => ?_; cases hv76)) <;> (first | refine kL 77 ?_ | refine xL 77 q_move ?_) <;> (first | refine kL 78 ?_ | (refine bL 77 (fun hb77 => ?_) (fun hb77 => ?_) <;> (first | refine kL 78 ?_ | refine xL 78 q_move ?_))) <;> (first | refine kL 79 ?_ | refine xL 79 (q_nilo 1000) ?_) <;> (first | refine kL 80 ?_ | refine xL 80 (q_fldo 1000 tFl99_0_PtU) ?_) <;> (first | refine kL 81 ?_ | (refine yL 81 (q_ldo 1000 tNa9_PtU) fun v81 hv81 => ?_; cases hv81)) <;> (first | refine kL 82 ?_ | refine xL 82 q_move ?_) <;> (first | refine kL 83 ?_ | refine kL 83 ?_ | refine xL 83 (q_index Tryz.underlying9 rfl rfl rfl (by omega) (hdy (by omega))) ?_) <;> (first | refine kL 84 ?_ | refine xL 84 q_eql ?_) <;> (first | refine kL 85 ?_ | refine xL 85 q_pick ?_) <;> refine xL 86 q_pick ?_ <;> refine aL_end (nav ?_) <;> try dsimp only) <;> (
           (first | refine cCd ?_ ?_ | refine cC ?_ ?_) <;> intro hb86
           · first
             | exact Bool.noConfusion hb86
             | (
              refine nav ?_
              (refine aC_region ?_ <;> (refine yL 87 (q_ldao 5 tAgg71_PtU) fun v87 hv87 => ?_; cases hv87) <;> refine s_sta 2 tAgg71_PtU ?_ <;> refine xL 3 q_assign ?_ <;> refine xL 4 q_assign ?_ <;> refine aL_end (nav ?_) <;> try dsimp only)
              refine ret_h3 (RdH b (c :: m) p) (Tryz.results58) (.cell (k := 5) 2 (by kernel_rfl) rfl rfl (Nat.le_of_ble_eq_true rfl) (by decide) rfl) (.tmp rfl) (.tmp rfl) ⟨rfl, trivial⟩ fun V V1 V2 h1 h2 => ?_
              cases h1; cases h2
              rw [hlex, if_pos (by rw [hany, decide_eq_true (by omega)]; simp only [Bool.true_and, Bool.or_eq_true, beq_iff_eq]; first | exact .inl hb77 | exact .inr (by omega))]; exact ⟨⟨V, rfl⟩, rfl, rfl⟩)
           · first
             | exact Bool.noConfusion hb86
             | (
              refine nav ?_
              have hno : ((c :: m).dropWhile isDB).head?.any (fun d => isLB d || d.toNat == 95) = false := by
               rw [hany]
               first
                | (rw [decide_eq_false (by omega)]; rfl)
                | (simp only [Bool.and_eq_false_iff, Bool.or_eq_false_iff, beq_eq_false_iff_ne]; right; exact ⟨hb77, by omega⟩)
              rw [hno, if_neg Bool.false_ne_true] at hlex
              (refine aC_region ?_ <;> refine xL 89 q_move ?_ <;> refine xL 90 (q_nilo 1000) ?_ <;> refine xL 91 (q_fldo 1000 tFl99_0_PtU) ?_ <;> (refine yL 92 (q_ldo 1000 tNa9_PtU) fun v92 hv92 => ?_; cases hv92) <;> refine xL 93 q_move ?_ <;> refine xL 94 (q_upto Tryz.underlying9) ?_ <;> (refine cPx 95 (cA (Tryz.call82) hdg) (fun i va95 vb95 hva95 hvb95 => ?_) (fun i => atP2_sh _); obtain ⟨⟨x, oo⟩, hi⟩ := i; have hv : (oo = none → x = (VD : Int)) ∧ (oo ≠ none → 9223372036854775807 < VD) := at_cases hi; dsimp only at hva95 hvb95 ⊢; clear hi; rcases oo with _ | ⟨ot, ox⟩ <;> (dsimp only [atP2] at hva95 hvb95 ⊢; cases hva95; cases hvb95)) <;> refine xL 88 q_move ?_ <;> refine xL 96 q_extract ?_ <;> refine xL 97 q_extract ?_ <;> refine xL 9 q_assign ?_ <;> refine xL 10 q_assign ?_ <;> refine aL_end (nav ?_) <;> try dsimp only) <;> (
               (refine aC_region ?_ <;> refine xL 98 q_move ?_ <;> (first | refine xL 99 (q_ifnil (by kernel_rfl)) ?_ | refine xL 99 (q_ifsome (by kernel_rfl)) ?_) <;> refine xL 100 q_move ?_ <;> (first | refine kL 101 ?_ | refine xL 101 q_move ?_) <;> (first | refine kL 102 ?_ | refine xL 102 q_gtr ?_) <;> refine xL 103 q_pick ?_ <;> refine aL_end (nav ?_) <;> try dsimp only) <;> (
                (first | refine cCd ?_ ?_ | refine cC ?_ ?_) <;> intro hb103
                · first
                  | exact Bool.noConfusion hb103
                  | (
                   refine nav ?_
                   (refine aC_region ?_ <;> (refine yL 104 (q_ldao 5 tAgg71_PtU) fun v104 hv104 => ?_; cases hv104) <;> refine s_sta 2 tAgg71_PtU ?_ <;> refine xL 3 q_assign ?_ <;> refine xL 4 q_assign ?_ <;> refine aL_end (nav ?_) <;> try dsimp only)
                   refine ret_h3 (RdH b (c :: m) p) (Tryz.results58) (.cell (k := 5) 2 (by kernel_rfl) rfl rfl (Nat.le_of_ble_eq_true rfl) (by decide) rfl) (.tmp rfl) (.tmp rfl) ⟨rfl, trivial⟩ fun V V1 V2 h1 h2 => ?_
                   cases h1; cases h2
                   rw [hlex, if_pos (by first | (have := hv.1 rfl; omega) | (have := hv.2 (by simp); omega))]; exact ⟨⟨V, rfl⟩, rfl, rfl⟩)
                · first
                  | exact Bool.noConfusion hb103
                  | (
                   refine nav ?_
                   have hx := hv.1 rfl
                   (refine aC_region ?_ <;> refine xL 105 q_move ?_ <;> refine xL 106 (q_fldo 5 tFl71_0_PtU) ?_ <;> refine s_st 5 tNa3_PtU tSz3_PtU ?_ <;> refine xL 107 (q_fldo 5 tFl71_2_PtU) ?_ <;> refine s_st 5 tNa3_PtU tSz3_PtU ?_ <;> refine aL_end (nav ?_) <;> try dsimp only)
                   (refine aC_region ?_ <;> (refine yL 108 (q_ldao 5 tAgg71_PtU) fun v108 hv108 => ?_; cases hv108) <;> refine xL 109 q_move ?_ <;> refine s_sta 2 tAgg71_PtU ?_ <;> refine xL 3 q_assign ?_ <;> refine xL 4 q_assign ?_ <;> refine aL_end (nav ?_) <;> try dsimp only)
                   refine ret_h3 (RdH b (c :: m) p) (Tryz.results58) (.cell (k := 5) 2 (by kernel_rfl) rfl rfl (Nat.le_of_ble_eq_true rfl) (by decide) rfl) (.tmp rfl) (.tmp rfl) ⟨rfl, trivial⟩ fun V V1 V2 h1 h2 => ?_
                   cases h1; cases h2
                   rw [hlex, if_neg (by omega), hx]; exact ⟨⟨V, rfl⟩, rfl, rfl⟩))))))
       · first
         | exact Bool.noConfusion hb54
         | (
          have hdb : isDB c = false := hb54
          refine nav ?_
          (refine aC_region ?_ <;> refine xL 111 q_move ?_ <;> refine xL 112 q_eql ?_ <;> refine xL 110 q_assign ?_ <;> refine aL_end (nav ?_) <;> try dsimp only)
          (first | refine cCd ?_ ?_ | refine cC ?_ ?_) <;> intro hb110
          · first
            | exact Bool.noConfusion hb110
            | (
             have hc34 : c = 34 := UInt8.toNat_inj.1 (by have : (c.toNat : Int) = 34 := hb110; show c.toNat = 34; omega)
             have hlex : lexB (c :: m) = (match litB m with | .err e => .err e | .ok n t => .ok 3 t 0 (n + 1)) := by
              rw [lexB, if_neg (by rw [hlb]; exact Bool.false_ne_true), if_neg (by rw [hdb]; exact Bool.false_ne_true), if_pos (by rw [hc34]; rfl)]
              cases litB m <;> rfl
             have hl118 := tkLiteral_e c m (by omega)
             refine nav ?_
             (refine aC_region ?_ <;> refine xL 114 q_move ?_ <;> refine xL 115 (q_nilo 1000) ?_ <;> refine xL 116 (q_fldo 1000 tFl99_0_PtU) ?_ <;> (refine yL 117 (q_ldo 1000 tNa9_PtU) fun v117 hv117 => ?_; cases hv117) <;> (rcases hlt : litB m with ⟨n, t⟩ | e <;> rw [hlt] at hl118 hlex <;> dsimp only [ltP] at hl118 hlex <;> (refine cP 118 (cA (Tryz.call83) hl118) fun va118 vb118 hva118 hvb118 => ?_; cases hva118; cases hvb118) <;> (try (rcases litB_err hlt with rfl | rfl))) <;> refine xL 113 q_move ?_ <;> refine xL 119 q_extract ?_ <;> refine xL 120 q_extract ?_ <;> refine xL 11 q_assign ?_ <;> refine xL 12 q_assign ?_ <;> refine aL_end (nav ?_) <;> try dsimp only) <;> (
              (refine aC_region ?_ <;> refine xL 121 q_move ?_ <;> (first | refine xL 122 (q_neqB true) ?_ | refine xL 122 (q_neqB false) ?_) <;> refine aL_end (nav ?_) <;> try dsimp only)
              (first | refine cCd ?_ ?_ | refine cC ?_ ?_) <;> intro hb122
              · first
                | exact Bool.noConfusion hb122
                | (
                 refine nav ?_
                 (refine aC_region ?_ <;> (refine yL 123 (q_ldao 5 tAgg71_PtU) fun v123 hv123 => ?_; cases hv123) <;> refine xL 124 q_move ?_ <;> refine s_sta 2 tAgg71_PtU ?_ <;> refine xL 3 q_assign ?_ <;> refine xL 4 q_assign ?_ <;> refine aL_end (nav ?_) <;> try dsimp only)
                 refine ret_h3 (RdH b (c :: m) p) (Tryz.results58) (.cell (k := 5) 2 (by kernel_rfl) rfl rfl (Nat.le_of_ble_eq_true rfl) (by decide) rfl) (.tmp rfl) (.tmp rfl) ⟨rfl, trivial⟩ fun V V1 V2 h1 h2 => ?_
                 cases h1; cases h2
                 rw [hlex]; exact ⟨⟨V, rfl⟩, rfl, rfl⟩)
              · first
                | exact Bool.noConfusion hb122
                | (
                 refine nav ?_
                 have hll := litB_len m hlt
                 have htk : (c :: m).take ((n : Int) + 1).toNat = 34 :: m.take n := by rw [show ((n : Int) + 1).toNat = n + 1 by omega, List.take_succ_cons, hc34]
                 have hun : AF Tryz.prog 84 [pB ((c :: m).take ((n : Int) + 1).toNat)] (· = .tup [pB t, pInt 0]) := by
                  rw [htk]
                  refine nmUnquote_e (m.take n) t (by rw [List.length_take]; omega) ?_
                  rw [lit_take m hlt, List.length_take, Nat.min_eq_left hll.2.1]
                 (refine aC_region ?_ <;> refine xL 126 q_move ?_ <;> refine xL 127 (q_nilo 1000) ?_ <;> refine xL 128 (q_fldo 1000 tFl99_0_PtU) ?_ <;> (refine yL 129 (q_ldo 1000 tNa9_PtU) fun v129 hv129 => ?_; cases hv129) <;> refine xL 130 q_move ?_ <;> refine xL 131 (q_upto Tryz.underlying9) ?_ <;> (refine cP 132 (cA Tryz.call84 (hun)) fun va132 vb132 hva132 hvb132 => ?_; cases hva132; cases hvb132) <;> refine xL 125 q_move ?_ <;> refine xL 133 q_extract ?_ <;> refine xL 134 q_extract ?_ <;> refine xL 13 q_assign ?_ <;> refine xL 12 q_assign ?_ <;> refine aL_end (nav ?_) <;> try dsimp only)
                 (refine aC_region ?_ <;> refine xL 135 q_move ?_ <;> refine xL 136 (q_fldo 5 tFl71_0_PtU) ?_ <;> refine s_st 5 tNa3_PtU tSz3_PtU ?_ <;> refine xL 137 (q_fldo 5 tFl71_1_PtU) ?_ <;> refine s_st 5 tNa9_PtU tSz9_PtU ?_ <;> refine aL_end (nav ?_) <;> try dsimp only)
                 (refine aC_region ?_ <;> (refine yL 138 (q_ldao 5 tAgg71_PtU) fun v138 hv138 => ?_; cases hv138) <;> refine xL 139 q_move ?_ <;> refine xL 140 q_move ?_ <;> refine s_sta 2 tAgg71_PtU ?_ <;> refine xL 3 q_assign ?_ <;> refine xL 4 q_assign ?_ <;> refine aL_end (nav ?_) <;> try dsimp only)
                 refine ret_h3 (RdH b (c :: m) p) (Tryz.results58) (.cell (k := 5) 2 (by kernel_rfl) rfl rfl (Nat.le_of_ble_eq_true rfl) (by decide) rfl) (.tmp rfl) (.tmp rfl) ⟨rfl, trivial⟩ fun V V1 V2 h1 h2 => ?_
                 cases h1; cases h2
                 rw [hlex]; exact ⟨⟨V, rfl⟩, rfl, rfl⟩)))
          · first
            | exact Bool.noConfusion hb110
            | (
             have hlex : lexB (c :: m) = (match symB (c :: m) with | some x => .ok 4 x 0 x.length | none => .err 3) := by
              rw [lexB, if_neg (by rw [hlb]; exact Bool.false_ne_true), if_neg (by rw [hdb]; exact Bool.false_ne_true), if_neg (by omega)]
              cases symB (c :: m) <;> rfl
             have hl146 := tkSymbol_e (c :: m) (by omega)
             refine nav ?_
             (refine aC_region ?_ <;> refine xL 142 q_move ?_ <;> refine xL 143 (q_nilo 1000) ?_ <;> refine xL 144 (q_fldo 1000 tFl99_0_PtU) ?_ <;> (refine yL 145 (q_ldo 1000 tNa9_PtU) fun v145 hv145 => ?_; cases hv145) <;> (rcases hsy : symB (c :: m) with _ | x <;> rw [hsy] at hl146 hlex <;> dsimp only [Option.getD_none, Option.getD_some, Option.isSome_none, Option.isSome_some] at hl146 hlex <;> (refine cP 146 (cA (Tryz.call85) hl146) fun va146 vb146 hva146 hvb146 => ?_; cases hva146; cases hvb146)) <;> refine xL 141 q_move ?_ <;> refine xL 147 q_extract ?_ <;> refine xL 148 q_extract ?_ <;> refine xL 14 q_assign ?_ <;> refine xL 15 q_assign ?_ <;> refine aL_end (nav ?_) <;> try dsimp only) <;> (
              (refine aC_region ?_ <;> refine xL 149 q_move ?_ <;> refine xL 150 q_not ?_ <;> refine aL_end (nav ?_) <;> try dsimp only)
              (first | refine cCd ?_ ?_ | refine cC ?_ ?_) <;> intro hb150
              · first
                | exact Bool.noConfusion hb150
                | (
                 refine nav ?_
                 (refine aC_region ?_ <;> (refine yL 151 (q_ldao 5 tAgg71_PtU) fun v151 hv151 => ?_; cases hv151) <;> refine s_sta 2 tAgg71_PtU ?_ <;> refine xL 3 q_assign ?_ <;> refine xL 4 q_assign ?_ <;> refine aL_end (nav ?_) <;> try dsimp only)
                 refine ret_h3 (RdH b (c :: m) p) (Tryz.results58) (.cell (k := 5) 2 (by kernel_rfl) rfl rfl (Nat.le_of_ble_eq_true rfl) (by decide) rfl) (.tmp rfl) (.tmp rfl) ⟨rfl, trivial⟩ fun V V1 V2 h1 h2 => ?_
                 cases h1; cases h2
                 rw [hlex]; exact ⟨⟨V, rfl⟩, rfl, rfl⟩)
              · first
                | exact Bool.noConfusion hb150
                | (
                 refine nav ?_
                 (refine aC_region ?_ <;> refine xL 152 q_move ?_ <;> refine xL 153 (q_fldo 5 tFl71_0_PtU) ?_ <;> refine s_st 5 tNa3_PtU tSz3_PtU ?_ <;> refine xL 154 (q_fldo 5 tFl71_1_PtU) ?_ <;> refine s_st 5 tNa9_PtU tSz9_PtU ?_ <;> refine aL_end (nav ?_) <;> try dsimp only)
                 (refine aC_region ?_ <;> (refine yL 155 (q_ldao 5 tAgg71_PtU) fun v155 hv155 => ?_; cases hv155) <;> refine xL 156 q_move ?_ <;> refine xL 157 (q_slen Tryz.underlying9) ?_ <;> refine s_sta 2 tAgg71_PtU ?_ <;> refine xL 3 q_assign ?_ <;> refine xL 4 q_assign ?_ <;> refine aL_end (nav ?_) <;> try dsimp only)
                 refine ret_h3 (RdH b (c :: m) p) (Tryz.results58) (.cell (k := 5) 2 (by kernel_rfl) rfl rfl (Nat.le_of_ble_eq_true rfl) (by decide) rfl) (.tmp rfl) (.tmp rfl) ⟨rfl, trivial⟩ fun V V1 V2 h1 h2 => ?_
                 cases h1; cases h2
                 rw [hlex, ← bst_size x]; exact ⟨⟨V, rfl⟩, rfl, rfl⟩))))))
theorem tAgg71_PuO : AggT Tryz.prog 71 5 = true := by kernel_rfl
theorem tSq71_PuO : stInfo Tryz.prog 71 = some ((.agg #[(.int .i64 0), (.string ByteArray.empty), (.int .i64 0), (.int .i64 0), (.int .i64 0)]), [(0, 1), (1, 1), (2, 1), (3, 2)]) := by kernel_rfl
theorem tZr71_PuO : ZeroT Tryz.prog 71 (.agg #[(.int .i64 0), (.string ByteArray.empty), (.int .i64 0), (.int .i64 0), (.int .i64 0)]) := by unfold ZeroT; kernel_rfl
theorem rkLetter_e (c : Int) : AF Tryz.prog 90 [pU8 c] (· = pBool (letterB c)) := by
 refine AF.of_body 17 Tryz.func90 rfl Tryz.ntmps90 (Nat.le_of_ble_eq_true rfl) ?_
 intro w0 M0 vs hl hv
 obtain ⟨v0, rfl⟩ := len1 hl
 obtain rfl := hv 0 _ _ rfl rfl
 clear hl hv
 refine nav ?_
 (refine aC_region ?_ <;> refine xL 2 q_assign ?_ <;> refine aL_end (nav ?_) <;> try dsimp only)
 (refine aC_region ?_ <;> refine xL 3 q_move ?_ <;> refine xL 4 q_geq ?_ <;> refine xL 5 q_move ?_ <;> (refine bLd 5 (fun hb5 => ?_) (fun hb5 => ?_) <;> (first | refine kL 6 ?_ | refine xL 6 q_move ?_)) <;> (first | refine kL 7 ?_ | refine xL 7 q_leq ?_) <;> refine xL 8 q_pick ?_ <;> refine xL 9 q_move ?_ <;> (first | refine xL 10 q_move ?_ | (refine bLd 9 (fun hb9 => ?_) (fun hb9 => ?_) <;> (first | refine kL 10 ?_ | refine xL 10 q_move ?_))) <;> (first | refine kL 11 ?_ | refine xL 11 q_geq ?_) <;> (first | refine kL 12 ?_ | refine xL 12 q_move ?_) <;> (first | refine kL 13 ?_ | (refine bLd 12 (fun hb12 => ?_) (fun hb12 => ?_) <;> (first | refine kL 13 ?_ | refine xL 13 q_move ?_))) <;> (first | refine kL 14 ?_ | refine xL 14 q_leq ?_) <;> (first | refine kL 15 ?_ | refine xL 15 q_pick ?_) <;> refine xL 16 q_pick ?_ <;> refine xL 2 q_assign ?_ <;> refine aL_end (nav ?_) <;> try dsimp only) <;> (
  refine ret_shr (Tryz.results90) rfl (bool_val ?_)
  simp only [letterB, Bool.or_eq_true, Bool.and_eq_true, decide_eq_true_eq, true_iff, false_iff, Bool.false_eq_true] <;> omega)
theorem rkDigit_e (c : UInt8) : AF Tryz.prog 92 [pU8 c.toNat] (· = pBool (isDB c)) := by
 refine AF.of_body 9 Tryz.func92 rfl Tryz.ntmps92 (Nat.le_of_ble_eq_true rfl) ?_
 intro w0 M0 vs hl hv
 obtain ⟨v0, rfl⟩ := len1 hl
 obtain rfl := hv 0 _ _ rfl rfl
 clear hl hv
 refine nav ?_
 (refine aC_region ?_ <;> refine xL 2 q_assign ?_ <;> refine aL_end (nav ?_) <;> try dsimp only)
 (refine aC_region ?_ <;> refine xL 3 q_move ?_ <;> refine xL 4 q_geq ?_ <;> refine xL 5 q_move ?_ <;> (refine bLd 5 (fun hb5 => ?_) (fun hb5 => ?_) <;> (first | refine kL 6 ?_ | refine xL 6 q_move ?_)) <;> (first | refine kL 7 ?_ | refine xL 7 q_leq ?_) <;> refine xL 8 q_pick ?_ <;> refine xL 2 q_assign ?_ <;> refine aL_end (nav ?_) <;> try dsimp only) <;> (
  refine ret_shr (Tryz.results92) rfl (bool_val ?_)
  simp only [isDB, Bool.and_eq_true, decide_eq_true_eq, true_iff, false_iff, Bool.false_eq_true] <;> omega)
theorem rkBlank_e (c : UInt8) : AF Tryz.prog 89 [pU8 c.toNat] (· = pBool (isBB c)) := by
 refine AF.of_body 17 Tryz.func89 rfl Tryz.ntmps89 (Nat.le_of_ble_eq_true rfl) ?_
 intro w0 M0 vs hl hv
 obtain ⟨v0, rfl⟩ := len1 hl
 obtain rfl := hv 0 _ _ rfl rfl
 clear hl hv
 refine nav ?_
 (refine aC_region ?_ <;> refine xL 2 q_assign ?_ <;> refine aL_end (nav ?_) <;> try dsimp only)
 (refine aC_region ?_ <;> refine xL 3 q_move ?_ <;> refine xL 4 q_eql ?_ <;> refine xL 5 q_move ?_ <;> (refine bLd 5 (fun hb5 => ?_) (fun hb5 => ?_) <;> (first | refine kL 6 ?_ | refine xL 6 q_move ?_)) <;> (first | refine kL 7 ?_ | refine xL 7 q_eql ?_) <;> refine xL 8 q_pick ?_ <;> refine xL 9 q_move ?_ <;> (first | refine kL 10 ?_ | (refine bLd 9 (fun hb9 => ?_) (fun hb9 => ?_) <;> (first | refine kL 10 ?_ | refine xL 10 q_move ?_))) <;> (first | refine kL 11 ?_ | refine xL 11 q_eql ?_) <;> refine xL 12 q_pick ?_ <;> refine xL 13 q_move ?_ <;> (first | refine kL 14 ?_ | (refine bLd 13 (fun hb13 => ?_) (fun hb13 => ?_) <;> (first | refine kL 14 ?_ | refine xL 14 q_move ?_))) <;> (first | refine kL 15 ?_ | refine xL 15 q_eql ?_) <;> refine xL 16 q_pick ?_ <;> refine xL 2 q_assign ?_ <;> refine aL_end (nav ?_) <;> try dsimp only) <;> (
  refine ret_shr (Tryz.results89) rfl (bool_val ?_)
  simp only [isBB, Bool.or_eq_true, beq_iff_eq, decide_eq_true_eq, true_iff, false_iff, Bool.false_eq_true] <;> omega)
theorem blk_tt {l : List UInt8} {k : Nat} {c : UInt8} (h : l[k]? = some c) : l.drop k = c :: l.drop (k + 1) := by
 obtain ⟨h1, rfl⟩ := List.getElem?_eq_some_iff.1 h
 exact List.drop_eq_getElem_cons h1
theorem blk_sp {c : UInt8} {m : List UInt8} (h : isBB c = true) : blkN false (c :: m) = 1 + blkN false m := by rw [blkN, if_pos h]
theorem blk_cm {c : UInt8} {m : List UInt8} (h : c.toNat = 35) : blkN false (c :: m) = blkN true (c :: m) := by
 have h1 : isBB c = false := by unfold isBB; simp [h]
 have h2 : (c.toNat != 10) = true := by simp [h]
 rw [blkN, blkN, h1, if_neg (by decide), if_pos h, h2]
theorem blk_ct {c : UInt8} {m : List UInt8} (h : c.toNat ≠ 10) : blkN true (c :: m) = 1 + blkN true m := by
 have h2 : (c.toNat != 10) = true := by simp [h]
 rw [blkN, h2]
theorem blk_nl {c : UInt8} {m : List UInt8} (h : c.toNat = 10) : blkN true (c :: m) = blkN false (c :: m) := by
 have h1 : isBB c = true := by unfold isBB; simp [h]
 have h2 : (c.toNat != 10) = false := by simp [h]
 rw [blkN, blkN, if_pos h1, h2]
theorem rkSkip_e (l : List UInt8) (hl : l.length ≤ 16384) (i : Nat) (hi : i ≤ l.length) : AF Tryz.prog 62 [pB l, pInt (i : Int)] (· = pInt ((i + blkN false (l.drop i) : Nat) : Int)) := by
 have hsz := bst_size l
 obtain ⟨T, hT⟩ : ∃ T, T = i + blkN false (l.drop i) := ⟨_, rfl⟩
 rw [← hT]
 refine AF.of_body 40 Tryz.func62 rfl Tryz.ntmps62 (Nat.le_of_ble_eq_true rfl) ?_
 intro w0 M0 vs hl hv
 obtain ⟨v0, v1, rfl⟩ := len2 hl
 obtain rfl := hv 0 _ _ rfl rfl
 obtain rfl := hv 1 _ _ rfl rfl
 clear hl hv
 refine nav ?_
 (refine aC_region ?_ <;> refine xL 4 q_assign ?_ <;> refine aL_end (nav ?_) <;> try dsimp only)
 refine aC_loop (ι := { k : Nat // k ≤ l.length ∧ T = k + blkN false (l.drop k) }) (fun k => ⟨[(0, _, _), (1, .int .i64 k.1, pInt k.1)], []⟩) (fun k => l.length - k.1) ⟨i, hi, hT⟩ (fun a w H => H.weaken ⟨rfl, rfl, trivial⟩ trivial) ?_
 rintro ⟨k, hk, hkT⟩
 dsimp only
 refine nav ?_
 (refine aC_region ?_ <;> refine xL 5 q_move ?_ <;> refine xL 6 q_move ?_ <;> refine xL 7 (q_slen Tryz.underlying9) ?_ <;> refine xL 8 q_lss ?_ <;> (refine xL 9 q_move ?_; refine bLd 9 (fun hb9 => ?_) (fun hb9 => ?_)) <;> (first | refine kL 10 ?_ | refine xL 10 q_move ?_) <;> (first | refine kL 11 ?_ | refine xL 11 q_move ?_) <;> (first | refine kL 12 ?_ | refine kL 12 ?_ | (obtain ⟨c, hcx⟩ := get_byte (show k < l.length by omega); have hcy := bst_at hcx; refine xL 12 (q_index Tryz.underlying9 rfl rfl rfl (by omega) hcy) ?_)) <;> (first | refine kL 13 ?_ | refine kL 13 ?_ | (refine cS 13 (cA (Tryz.call89) (rkBlank_e c)) fun v13 hv13 => ?_; cases hv13)) <;> (first | refine kL 14 ?_ | refine xL 14 q_move ?_) <;> (first | refine kL 15 ?_ | (refine bL 14 (fun hb14 => ?_) (fun hb14 => ?_) <;> (first | refine kL 15 ?_ | refine xL 15 q_move ?_))) <;> (first | refine kL 16 ?_ | refine xL 16 q_move ?_) <;> (first | refine kL 17 ?_ | refine kL 17 ?_ | refine xL 17 (q_index Tryz.underlying9 rfl rfl rfl (by omega) hcy) ?_) <;> (first | refine kL 18 ?_ | refine xL 18 q_eql ?_) <;> (first | refine kL 19 ?_ | refine xL 19 q_pick ?_) <;> refine xL 20 q_pick ?_ <;> refine aL_end (nav ?_) <;> try dsimp only) <;> (
  (first | refine cCd ?_ ?_ | refine cC ?_ ?_) <;> intro hb20
  · first
    | exact Bool.noConfusion hb20
    | (
     have hdr := blk_tt hcx
     have hkl := lt_of_get hcx
     refine nav ?_
     (refine aC_region ?_ <;> refine xL 21 q_move ?_ <;> refine xL 22 q_move ?_ <;> refine xL 23 (q_index Tryz.underlying9) ?_ <;> refine xL 24 q_neq ?_ <;> refine aL_end (nav ?_) <;> try dsimp only)
     (first | refine cCd ?_ ?_ | refine cC ?_ ?_) <;> intro hb24
     · first
       | exact Bool.noConfusion hb24
       | (
        refine nav ?_
        (refine aC_region ?_ <;> refine xL 25 q_move ?_ <;> refine xL 26 q_add ?_ <;> refine xL 1 q_assign ?_ <;> refine aL_end (nav ?_) <;> try dsimp only)
        first
         | (exact aN_again (
             ⟨k + 1, hkl, by
              have hb : isBB c = true := by
               first
                | exact hb14
                | (exfalso; omega)
              rw [hkT, hdr, blk_sp hb]; omega⟩
             ) (by dsimp only; omega) ⟨rfl, rfl, trivial⟩ trivial)
         | (exact aN_again (
             ⟨j, hj, hjT.trans (by
              first
               | (rw [List.drop_of_length_le (by omega)]; rfl)
               | (rw [blk_tt hdx, blk_nl (by omega)]))⟩
             ) (by dsimp only; omega) ⟨rfl, rfl, trivial⟩ trivial))
     · first
       | exact Bool.noConfusion hb24
       | (
        refine nav ?_
        refine aC_loop (ι := { j : Nat // j ≤ l.length ∧ k ≤ j ∧ T = j + blkN true (l.drop j) }) (fun k => ⟨[(0, _, _), (1, .int .i64 k.1, pInt k.1)], []⟩) (fun k => l.length - k.1) ⟨k, by omega, Nat.le_refl _, by rw [hkT, hdr, blk_cm (by omega)]⟩ (fun a w H => H.weaken ⟨rfl, rfl, trivial⟩ trivial) ?_
        rintro ⟨j, hj, hkj, hjT⟩
        dsimp only
        refine nav ?_
        (refine aC_region ?_ <;> refine xL 27 q_move ?_ <;> refine xL 28 q_move ?_ <;> refine xL 29 (q_slen Tryz.underlying9) ?_ <;> refine xL 30 q_lss ?_ <;> (refine xL 31 q_move ?_; refine bLd 31 (fun hb31 => ?_) (fun hb31 => ?_)) <;> (first | refine kL 32 ?_ | refine xL 32 q_move ?_) <;> (first | refine kL 33 ?_ | refine xL 33 q_move ?_) <;> (first | refine kL 34 ?_ | refine kL 34 ?_ | (obtain ⟨d, hdx⟩ := get_byte (show j < l.length by omega); have hdy := bst_at hdx; refine xL 34 (q_index Tryz.underlying9 rfl rfl rfl (by omega) hdy) ?_)) <;> (first | refine kL 35 ?_ | refine xL 35 q_neq ?_) <;> refine xL 36 q_pick ?_ <;> refine aL_end (nav ?_) <;> try dsimp only) <;> (
         (first | refine cCd ?_ ?_ | refine cC ?_ ?_) <;> intro hb36
         · first
           | exact Bool.noConfusion hb36
           | (
            refine nav ?_
            (refine aC_region ?_ <;> refine xL 37 q_move ?_ <;> refine xL 38 q_add ?_ <;> refine xL 1 q_assign ?_ <;> refine aL_end (nav ?_) <;> try dsimp only)
            refine aN_again (
             ⟨j + 1, lt_of_get hdx, by omega, by rw [hjT, blk_tt hdx, blk_ct (by omega)]; omega⟩
             ) (by dsimp only; omega) ⟨rfl, rfl, trivial⟩ trivial)
         · first
           | exact Bool.noConfusion hb36
           | (
            have hkj2 : k < j := by
             rcases Nat.lt_or_ge k j with h | h
             · exact h
             · exfalso
               obtain rfl : j = k := by omega
               first
                | omega
                | (rw [hcx] at hdx; cases hdx; omega)
            refine nav ?_
            first
             | (exact aN_again (
                 ⟨k + 1, hkl, by
                  have hb : isBB c = true := by
                   first
                    | exact hb14
                    | (exfalso; omega)
                  rw [hkT, hdr, blk_sp hb]; omega⟩
                 ) (by dsimp only; omega) ⟨rfl, rfl, trivial⟩ trivial)
             | (exact aN_again (
                 ⟨j, hj, hjT.trans (by
                  first
                   | (rw [List.drop_of_length_le (by omega)]; rfl)
                   | (rw [blk_tt hdx, blk_nl (by omega)]))⟩
                 ) (by dsimp only; omega) ⟨rfl, rfl, trivial⟩ trivial)))))
  · first
    | exact Bool.noConfusion hb20
    | (
     refine nav ?_
     (refine aC_region ?_ <;> refine xL 39 q_move ?_ <;> refine xL 4 q_assign ?_ <;> refine aL_end (nav ?_) <;> try dsimp only)
     refine ret_shr (Tryz.results62) rfl ?_
     first
      | (exfalso; cases hb20; done)
      | (rw [hkT, List.drop_of_length_le (by omega)]; rfl)
      | (rw [hkT, blk_tt hcx, blkN_not hb14 (by omega)]; rfl)))
def rtX (i : Nat) : Lx → PV
 | .ok kd tx n len => .tup [.agg [pInt kd, pB tx, pInt n, pInt 0, pInt 0], pInt ((i + len : Nat) : Int), pInt 0]
 | .err e => .tup [.agg [pInt 0, pB [], pInt 0, pInt 0, pInt 0], pInt 0, pInt e]
theorem pb_iff (d : UInt8) : isPB d = true ↔ (letterB d.toNat = true ∨ isDB d = true ∨ (d.toNat : Int) = 95 ∨ (d.toNat : Int) = 45 ∨ (d.toNat : Int) = 46) := by
 unfold isPB partB isDB
 generalize letterB (d.toNat : Int) = L
 cases L <;> simp <;> omega
theorem tw_at {q : UInt8 → Bool} {l : List UInt8} {i k : Nat} (hik : i ≤ k) (hk : k ≤ l.length) (h : ∀ j d, i ≤ j → j < k → l[j]? = some d → q d = true) (he : ∀ d, l[k]? = some d → q d = false) : ((l.drop i).takeWhile q).length = k - i := by
 by_cases hkl : k < l.length
 · obtain ⟨d, hd⟩ := get_byte hkl
   refine tw_stop (c := d) (fun j e hj hje => ?_) (by rw [List.getElem?_drop, Nat.add_sub_cancel' hik]; exact hd) (he d hd)
   rw [List.getElem?_drop] at hje
   exact h (i + j) e (by omega) (by omega) hje
 · have : ((l.drop i).takeWhile q).length = (l.drop i).length := tw_end fun j e hje => by
    rw [List.getElem?_drop] at hje
    exact h (i + j) e (by omega) (by have := lt_of_get hje; omega) hje
   rw [this, List.length_drop]; omega
theorem bst_part (l : List UInt8) (i j : Nat) (h : j ≤ l.length) : (bst l).extract i j = bst ((l.drop i).take (j - i)) := by
 refine (?_ : _ = _)
 have h1 : (bst l).extract i j = ((bst l).extract 0 j).extract i j := by
  apply ByteArray.ext
  simp
 unfold bst at *
 apply ByteArray.ext
 simp [List.extract_eq_drop_take]
theorem q_part {P : Program} {st : St} {o : Oper} {x y z : Operand} {q q' q2 : PV} {t : TypeId} {l : List UInt8} {k k2 : IntKind} {i j : Int} (hu : P.underlying t = some .string) (ho : o.op = .slice t x (some y) (some z) none := by exact rfl) (hx : ev st.slots x = some (.string (bst l), q) := by exact rfl) (hy : ev st.slots y = some (.int k i, q') := by exact rfl) (hz : ev st.slots z = some (.int k2 j, q2) := by exact rfl) (h0 : 0 ≤ i := by omega) (h1 : i ≤ j := by omega) (h2 : j ≤ l.length := by omega) : YE P st o (· = .string (bst ((l.drop i.toNat).take (j.toNat - i.toNat)))) (pB ((l.drop i.toNat).take (j.toNat - i.toNat))) := by
 have := q_sft hu h0 h1 (by rw [bst_size]; exact h2) ho hx hy hz
 rw [bst_part l i.toNat j.toNat (by omega)] at this
 exact this
set_option maxHeartbeats 4000000 in
theorem rkName_e (l : List UInt8) (hl : l.length ≤ 16384) (i : Nat) (c : UInt8) (hc : l[i]? = some c) (hlc : isLB c = true) : AF Tryz.prog 91 [pB l, pInt (i : Int)] (· = rtX i (lexB (l.drop i))) := by
 have hsz := bst_size l
 have hil := lt_of_get hc
 have hlex : lexB (l.drop i) = (if 40 < ((l.drop i).takeWhile isPB).length then .err 5 else .ok 1 ((l.drop i).takeWhile isPB) 0 ((l.drop i).takeWhile isPB).length) := by
  rw [blk_tt hc, lexB, if_pos hlc]
 have htk := tw_take isPB (l.drop i)
 refine AF.of_body 56 Tryz.func91 rfl Tryz.ntmps91 (Nat.le_of_ble_eq_true rfl) ?_
 intro w0 M0 vs hl hv
 obtain ⟨v0, v1, rfl⟩ := len2 hl
 obtain rfl := hv 0 _ _ rfl rfl
 obtain rfl := hv 1 _ _ rfl rfl
 clear hl hv
 refine nav ?_
 (refine aC_region ?_ <;> refine s_alloc [(.int .i64 0), (.string ByteArray.empty), (.int .i64 0), (.int .i64 0), (.int .i64 0)] 5 4 tZr71_PuO fun h4 => ?_ <;> refine xL 5 q_assign ?_ <;> refine xL 6 q_assign ?_ <;> refine aL_end (nav ?_) <;> try dsimp only)
 (refine aC_region ?_ <;> refine xL 8 q_move ?_ <;> refine xL 7 q_assign ?_ <;> refine aL_end (nav ?_) <;> try dsimp only)
 refine aC_loop (ι := { k : Nat // i ≤ k ∧ k ≤ l.length ∧ ∀ j d, i ≤ j → j < k → l[j]? = some d → isPB d = true }) (fun k => ⟨[(0, _, _), (4, _, _), (7, _, _), (1, .int .i64 k.1, pInt k.1)], [(4, _, _)]⟩) (fun k => l.length - k.1) ⟨i, Nat.le_refl _, by omega, fun j d h1 h2 => by omega⟩ (fun a w H => H.weaken ⟨rfl, rfl, rfl, rfl, trivial⟩ ⟨rfl, trivial⟩) ?_
 rintro ⟨k, hik, hk, hp⟩
 dsimp only
 refine nav ?_
 (refine aC_region ?_ <;> refine xL 9 q_move ?_ <;> refine xL 10 q_move ?_ <;> refine xL 11 (q_slen Tryz.underlying9) ?_ <;> refine xL 12 q_lss ?_ <;> (refine xL 13 q_move ?_; refine bLd 13 (fun hb13 => ?_) (fun hb13 => ?_)) <;> (first | refine kL 14 ?_ | refine xL 14 q_move ?_) <;> (first | refine kL 15 ?_ | refine xL 15 q_move ?_) <;> (first | refine kL 16 ?_ | refine kL 16 ?_ | (obtain ⟨d, hdx⟩ := get_byte (show k < l.length by omega); have hdy := bst_at hdx; refine xL 16 (q_index Tryz.underlying9 rfl rfl rfl (by omega) hdy) ?_)) <;> (first | refine kL 17 ?_ | refine kL 17 ?_ | (refine cS 17 (cA (Tryz.call90) (rkLetter_e d.toNat)) fun v17 hv17 => ?_; cases hv17)) <;> (first | refine kL 18 ?_ | refine xL 18 q_move ?_) <;> (first | refine kL 19 ?_ | (refine bL 18 (fun hb18 => ?_) (fun hb18 => ?_) <;> (first | refine kL 19 ?_ | refine xL 19 q_move ?_))) <;> (first | refine kL 20 ?_ | refine xL 20 q_move ?_) <;> (first | refine kL 21 ?_ | refine kL 21 ?_ | refine xL 21 (q_index Tryz.underlying9 rfl rfl rfl (by omega) hdy) ?_) <;> (first | refine kL 22 ?_ | refine kL 22 ?_ | (refine cS 22 (cA (Tryz.call92) (rkDigit_e d)) fun v22 hv22 => ?_; cases hv22)) <;> (first | refine kL 23 ?_ | refine xL 23 q_pick ?_) <;> (first | refine kL 24 ?_ | refine xL 24 q_move ?_) <;> (first | refine kL 25 ?_ | (refine bL 24 (fun hb24 => ?_) (fun hb24 => ?_) <;> (first | refine kL 25 ?_ | refine xL 25 q_move ?_))) <;> (first | refine kL 26 ?_ | refine xL 26 q_move ?_) <;> (first | refine kL 27 ?_ | refine kL 27 ?_ | refine xL 27 (q_index Tryz.underlying9 rfl rfl rfl (by omega) hdy) ?_) <;> (first | refine kL 28 ?_ | refine xL 28 q_eql ?_) <;> (first | refine kL 29 ?_ | refine xL 29 q_pick ?_) <;> (first | refine kL 30 ?_ | refine xL 30 q_move ?_) <;> (first | refine kL 31 ?_ | (refine bLd 30 (fun hb30 => ?_) (fun hb30 => ?_) <;> (first | refine kL 31 ?_ | refine xL 31 q_move ?_))) <;> (first | refine kL 32 ?_ | refine xL 32 q_move ?_) <;> (first | refine kL 33 ?_ | refine kL 33 ?_ | refine xL 33 (q_index Tryz.underlying9 rfl rfl rfl (by omega) hdy) ?_) <;> (first | refine kL 34 ?_ | refine xL 34 q_eql ?_) <;> (first | refine kL 35 ?_ | refine xL 35 q_pick ?_) <;> (first | refine kL 36 ?_ | refine xL 36 q_move ?_) <;> (first | refine kL 37 ?_ | (refine bLd 36 (fun hb36 => ?_) (fun hb36 => ?_) <;> (first | refine kL 37 ?_ | refine xL 37 q_move ?_))) <;> (first | refine kL 38 ?_ | refine xL 38 q_move ?_) <;> (first | refine kL 39 ?_ | refine kL 39 ?_ | refine xL 39 (q_index Tryz.underlying9 rfl rfl rfl (by omega) hdy) ?_) <;> (first | refine kL 40 ?_ | refine xL 40 q_eql ?_) <;> (first | refine kL 41 ?_ | refine xL 41 q_pick ?_) <;> refine xL 42 q_pick ?_ <;> refine aL_end (nav ?_) <;> try dsimp only) <;> (
  (first | refine cCd ?_ ?_ | refine cC ?_ ?_) <;> intro hb42
  · first
    | exact Bool.noConfusion hb42
    | (
     have hpd : isPB d = true := (pb_iff d).2 (by simp_all)
     refine nav ?_
     (refine aC_region ?_ <;> refine xL 43 q_move ?_ <;> refine xL 44 q_add ?_ <;> refine xL 1 q_assign ?_ <;> refine aL_end (nav ?_) <;> try dsimp only)
     refine aN_again (
      ⟨k + 1, by omega, lt_of_get hdx, fun j e h1 h2 h3 => by
       rcases Nat.lt_or_ge j k with h | h
       · exact hp j e h1 h h3
       · obtain rfl : j = k := by omega
         rw [hdx] at h3; cases h3; exact hpd⟩
      ) (by dsimp only; omega) ⟨rfl, rfl, rfl, rfl, trivial⟩ ⟨rfl, trivial⟩)
  · first
    | exact Bool.noConfusion hb42
    | (
     refine nav ?_
     have hlen : ((l.drop i).takeWhile isPB).length = k - i := tw_at hik hk hp fun e he => by
      first
       | (exfalso; have := lt_of_get he; omega)
       | (rw [hdx] at he; cases he
          cases h9 : isPB d with
          | false => rfl
          | true => exfalso; have := (pb_iff d).1 h9; simp_all)
     rw [hlen] at hlex htk
     (refine aC_region ?_ <;> refine xL 45 q_move ?_ <;> refine xL 46 q_move ?_ <;> refine xL 47 q_sub ?_ <;> refine xL 48 q_gtr ?_ <;> refine aL_end (nav ?_) <;> try dsimp only)
     (first | refine cCd ?_ ?_ | refine cC ?_ ?_) <;> intro hb48
     · first
       | exact Bool.noConfusion hb48
       | (
        refine nav ?_
        (refine aC_region ?_ <;> (refine yL 49 (q_buildM tSq71_PuO) fun v49 hv49 => ?_; cases hv49) <;> refine s_sta 4 tAgg71_PuO ?_ <;> refine xL 5 q_assign ?_ <;> refine xL 6 q_assign ?_ <;> refine aL_end (nav ?_) <;> try dsimp only)
        refine ret_3 (Tryz.results91) (.cell (k := 5) 4 (by kernel_rfl) rfl rfl (Nat.le_of_ble_eq_true rfl) (by decide) rfl) (.tmp rfl) (.tmp rfl) ?_
        rw [hlex, if_pos (by omega)]; rfl)
     · first
       | exact Bool.noConfusion hb48
       | (
        refine nav ?_
        (refine aC_region ?_ <;> refine xL 50 q_move ?_ <;> refine xL 51 q_move ?_ <;> refine xL 52 q_move ?_ <;> refine xL 53 (q_part Tryz.underlying9) ?_ <;> (refine yL 54 (q_buildM tSq71_PuO) fun v54 hv54 => ?_; cases hv54) <;> refine xL 55 q_move ?_ <;> refine s_sta 4 tAgg71_PuO ?_ <;> refine xL 5 q_assign ?_ <;> refine xL 6 q_assign ?_ <;> refine aL_end (nav ?_) <;> try dsimp only)
        refine ret_3 (Tryz.results91) (.cell (k := 5) 4 (by kernel_rfl) rfl rfl (Nat.le_of_ble_eq_true rfl) (by decide) rfl) (.tmp rfl) (.tmp rfl) ?_
        rw [hlex, if_neg (by omega), ← htk]
        dsimp only [rtX]
        rw [Nat.add_sub_cancel' hik]; rfl)))
theorem tAgg71_PuP : AggT Tryz.prog 71 5 = true := by kernel_rfl
theorem tSq71_PuP : stInfo Tryz.prog 71 = some ((.agg #[(.int .i64 0), (.string ByteArray.empty), (.int .i64 0), (.int .i64 0), (.int .i64 0)]), [(0, 1), (1, 1), (2, 1), (3, 2)]) := by kernel_rfl
theorem tZr71_PuP : ZeroT Tryz.prog 71 (.agg #[(.int .i64 0), (.string ByteArray.empty), (.int .i64 0), (.int .i64 0), (.int .i64 0)]) := by unfold ZeroT; kernel_rfl
theorem q_subU8 {P : Program} {st : St} {o : Oper} {x y : Operand} {q q' : PV} {t t' : TypeId} {a b : Int} (ho : o.op = .binOp .sub t x y t' := by exact rfl) (hx : ev st.slots x = some (.int .u8 a, q) := by exact rfl) (hy : ev st.slots y = some (.int .u8 b, q') := by exact rfl) (h1 : 0 ≤ a - b := by omega) (h2 : a - b ≤ 255 := by omega) : YE P st o (· = .int .u8 (a - b)) (.val (.int .u8 (a - b))) :=
 y2 hx hy fun ρ w h3 h4 => by
  simp [execOp, ho, h3, h4, eqGuard, binOp, Op.intArith]
  exact IntWalk.u8_in _ ⟨h1, h2⟩
theorem val_step {l : List UInt8} {i k : Nat} {d : UInt8} (hik : i ≤ k) (h : l[k]? = some d) : valD ((l.drop i).take (k + 1 - i)) = 10 * valD ((l.drop i).take (k - i)) + (d.toNat - 48) := by
 rw [show k + 1 - i = (k - i) + 1 by omega, take_snoc (x := d) (by rw [List.getElem?_drop, Nat.add_sub_cancel' hik]; exact h)]
 unfold valD
 rw [List.foldl_append]; rfl
theorem isDB_bd {c : UInt8} (h : isDB c = true) : 48 ≤ c.toNat ∧ c.toNat ≤ 57 := by
 unfold isDB at h
 simpa using h
set_option maxHeartbeats 4000000 in
theorem rkNumber_e (l : List UInt8) (hl : l.length ≤ 16384) (i : Nat) (c : UInt8) (hc : l[i]? = some c) (hlc : isLB c = false) (hdc : isDB c = true) : AF Tryz.prog 93 [pB l, pInt (i : Int)] (· = rtX i (lexB (l.drop i))) := by
 have hsz := bst_size l
 have hil := lt_of_get hc
 have hlex : lexB (l.drop i) = (if ((l.drop i).dropWhile isDB).head?.any (fun d => isLB d || d.toNat == 95) then .err 3 else if 4503599627370496 < valD ((l.drop i).takeWhile isDB) then .err 6 else .ok 2 [] (valD ((l.drop i).takeWhile isDB)) ((l.drop i).takeWhile isDB).length) := by
  rw [blk_tt hc, lexB, if_neg (by rw [hlc]; exact Bool.false_ne_true), if_pos hdc]
 have htk := tw_take isDB (l.drop i)
 refine AF.of_body 58 Tryz.func93 rfl Tryz.ntmps93 (Nat.le_of_ble_eq_true rfl) ?_
 intro w0 M0 vs hl hv
 obtain ⟨v0, v1, rfl⟩ := len2 hl
 obtain rfl := hv 0 _ _ rfl rfl
 obtain rfl := hv 1 _ _ rfl rfl
 clear hl hv
 refine nav ?_
 (refine aC_region ?_ <;> refine s_alloc [(.int .i64 0), (.string ByteArray.empty), (.int .i64 0), (.int .i64 0), (.int .i64 0)] 5 4 tZr71_PuP fun h4 => ?_ <;> refine xL 5 q_assign ?_ <;> refine xL 6 q_assign ?_ <;> refine aL_end (nav ?_) <;> try dsimp only)
 (refine aC_region ?_ <;> refine xL 7 q_assign ?_ <;> refine xL 8 q_assign ?_ <;> refine aL_end (nav ?_) <;> try dsimp only)
 refine aC_loop (ι := { q : Nat × Int × Bool // i ≤ q.1 ∧ q.1 ≤ l.length ∧ (∀ j d, i ≤ j → j < q.1 → l[j]? = some d → isDB d = true) ∧ (q.2.2 = false → q.2.1 = valD ((l.drop i).take (q.1 - i)) ∧ q.2.1 ≤ 4503599627370496) ∧ (q.2.2 = true → 4503599627370496 < valD ((l.drop i).take (q.1 - i))) }) (fun k => ⟨[(0, _, _), (4, _, _), (1, .int .i64 k.1.1, pInt k.1.1), (7, .int .i64 k.1.2.1, pInt k.1.2.1), (8, .bool k.1.2.2, pBool k.1.2.2)], [(4, _, _)]⟩) (fun k => l.length - k.1.1) ⟨(i, 0, false), Nat.le_refl _, by dsimp only; omega, fun j d h1 h2 => by dsimp only at h2; omega, fun _ => ⟨by dsimp only; rw [Nat.sub_self]; rfl, by show (0 : Int) ≤ 4503599627370496; decide⟩, fun h => by cases h⟩ (fun a w H => H.weaken ⟨rfl, rfl, rfl, rfl, rfl, trivial⟩ ⟨rfl, trivial⟩) ?_
 rintro ⟨⟨k, n, b⟩, hik, hk, hp, hbf, hbt⟩
 dsimp only
 dsimp only at hik hk hp hbf hbt
 refine nav ?_
 (refine aC_region ?_ <;> refine xL 9 q_move ?_ <;> refine xL 10 q_move ?_ <;> refine xL 11 (q_slen Tryz.underlying9) ?_ <;> refine xL 12 q_lss ?_ <;> (refine xL 13 q_move ?_; refine bLd 13 (fun hb13 => ?_) (fun hb13 => ?_)) <;> (first | refine kL 14 ?_ | refine xL 14 q_move ?_) <;> (first | refine kL 15 ?_ | refine xL 15 q_move ?_) <;> (first | refine kL 16 ?_ | refine kL 16 ?_ | (obtain ⟨d, hdx⟩ := get_byte (show k < l.length by omega); have hdy := bst_at hdx; refine xL 16 (q_index Tryz.underlying9 rfl rfl rfl (by omega) hdy) ?_)) <;> (first | refine kL 17 ?_ | refine kL 17 ?_ | (refine cS 17 (cA (Tryz.call92) (rkDigit_e d)) fun v17 hv17 => ?_; cases hv17)) <;> refine xL 18 q_pick ?_ <;> refine aL_end (nav ?_) <;> try dsimp only) <;> (
  (first | refine cCd ?_ ?_ | refine cC ?_ ?_) <;> intro hb18
  · first
    | exact Bool.noConfusion hb18
    | (
     have hpd : isDB d = true := by assumption
     have hbd := isDB_bd hpd
     have hvs := val_step hik hdx
     refine nav ?_
     (refine aC_region ?_ <;> refine xL 19 q_move ?_ <;> refine xL 20 q_not ?_ <;> refine aL_end (nav ?_) <;> try dsimp only)
     (first | refine cCd ?_ ?_ | refine cC ?_ ?_) <;> intro hb20
     · first
       | exact Bool.noConfusion hb20
       | (
        have hb0 : b = false := by simpa using hb20
        subst hb0
        obtain ⟨hn, hn2⟩ := hbf rfl
        refine nav ?_
        (refine aC_region ?_ <;> refine xL 21 q_move ?_ <;> refine xL 22 q_mul ?_ <;> refine xL 23 q_move ?_ <;> refine xL 24 q_move ?_ <;> refine xL 25 (q_index Tryz.underlying9 rfl rfl rfl (by omega) hdy) ?_ <;> refine xL 26 q_subU8 ?_ <;> refine xL 27 (q_conv Tryz.underlying5 Tryz.underlying3) ?_ <;> refine xL 28 q_add ?_ <;> refine xL 7 q_assign ?_ <;> refine aL_end (nav ?_) <;> try dsimp only)
        (refine aC_region ?_ <;> refine xL 29 q_move ?_ <;> refine xL 30 q_move ?_ <;> refine xL 31 q_move ?_ <;> refine xL 32 q_gtr ?_ <;> refine xL 33 q_pick ?_ <;> refine xL 8 q_assign ?_ <;> refine aL_end (nav ?_) <;> try dsimp only) <;> (
         (refine aC_region ?_ <;> refine xL 34 q_move ?_ <;> refine xL 35 q_add ?_ <;> refine xL 1 q_assign ?_ <;> refine aL_end (nav ?_) <;> try dsimp only)
         first
          | (exact aN_again (
              ⟨(k + 1, n, true), by dsimp only; omega, lt_of_get hdx, fun j e h1 h2 h3 => by
                dsimp only at h2
                rcases Nat.lt_or_ge j k with h | h
                · exact hp j e h1 h h3
                · obtain rfl : j = k := by omega
                  rw [hdx] at h3; cases h3; exact hpd, fun h => by (cases h), fun _ => by dsimp only; omega⟩
              ) (by dsimp only; omega) ⟨rfl, rfl, rfl, rfl, rfl, trivial⟩ ⟨rfl, trivial⟩)
          | (exact aN_again (
              ⟨(k + 1, 10 * n + ((d.toNat : Int) - 48), decide (4503599627370496 < 10 * n + ((d.toNat : Int) - 48))), by dsimp only; omega, lt_of_get hdx, fun j e h1 h2 h3 => by
                dsimp only at h2
                rcases Nat.lt_or_ge j k with h | h
                · exact hp j e h1 h h3
                · obtain rfl : j = k := by omega
                  rw [hdx] at h3; cases h3; exact hpd, fun h => by
                have h' := of_decide_eq_false h
                dsimp only at h' ⊢
                omega, fun h => by
                have h' := of_decide_eq_true h
                dsimp only at h' ⊢
                omega⟩
              ) (by dsimp only; omega) ⟨rfl, rfl, rfl, rfl, rfl, trivial⟩ ⟨rfl, trivial⟩)))
     · first
       | exact Bool.noConfusion hb20
       | (
        have hb1 : b = true := by simpa using hb20
        subst hb1
        have hbt' := hbt rfl
        refine nav ?_
        (refine aC_region ?_ <;> refine xL 29 q_move ?_ <;> refine xL 30 q_move ?_ <;> refine kL 31 ?_ <;> refine kL 32 ?_ <;> refine xL 33 q_pick ?_ <;> refine xL 8 q_assign ?_ <;> refine aL_end (nav ?_) <;> try dsimp only) <;> (
         (refine aC_region ?_ <;> refine xL 34 q_move ?_ <;> refine xL 35 q_add ?_ <;> refine xL 1 q_assign ?_ <;> refine aL_end (nav ?_) <;> try dsimp only)
         first
          | (exact aN_again (
              ⟨(k + 1, n, true), by dsimp only; omega, lt_of_get hdx, fun j e h1 h2 h3 => by
                dsimp only at h2
                rcases Nat.lt_or_ge j k with h | h
                · exact hp j e h1 h h3
                · obtain rfl : j = k := by omega
                  rw [hdx] at h3; cases h3; exact hpd, fun h => by (cases h), fun _ => by dsimp only; omega⟩
              ) (by dsimp only; omega) ⟨rfl, rfl, rfl, rfl, rfl, trivial⟩ ⟨rfl, trivial⟩)
          | (exact aN_again (
              ⟨(k + 1, 10 * n + ((d.toNat : Int) - 48), decide (4503599627370496 < 10 * n + ((d.toNat : Int) - 48))), by dsimp only; omega, lt_of_get hdx, fun j e h1 h2 h3 => by
                dsimp only at h2
                rcases Nat.lt_or_ge j k with h | h
                · exact hp j e h1 h h3
                · obtain rfl : j = k := by omega
                  rw [hdx] at h3; cases h3; exact hpd, fun h => by
                have h' := of_decide_eq_false h
                dsimp only at h' ⊢
                omega, fun h => by
                have h' := of_decide_eq_true h
                dsimp only at h' ⊢
                omega⟩
              ) (by dsimp only; omega) ⟨rfl, rfl, rfl, rfl, rfl, trivial⟩ ⟨rfl, trivial⟩))))
  · first
    | exact Bool.noConfusion hb18
    | (
     refine nav ?_
     have hlen : ((l.drop i).takeWhile isDB).length = k - i := tw_at hik hk hp fun e he => by
      first
       | (exfalso; have := lt_of_get he; omega)
       | (rw [hdx] at he; cases he; assumption)
     have htk2 := htk
     rw [hlen] at htk2
     rw [← htk2] at hlex
     rw [htk2, hlen] at hlex
     rw [htk2] at hbf hbt
     first
      | (have hany : ((l.drop i).dropWhile isDB).head?.any (fun d => isLB d || d.toNat == 95) = (isLB d || d.toNat == 95) := by
          rw [dw_head (d := d) (by rw [hlen, List.getElem?_drop, Nat.add_sub_cancel' hik]; exact hdx)]; rfl
         rw [hany] at hlex)
      | (have hany : ((l.drop i).dropWhile isDB).head?.any (fun d => isLB d || d.toNat == 95) = false := by
          rw [dw_none (by rw [hlen, List.length_drop]; omega)]; rfl
         rw [hany, if_neg (by decide)] at hlex)
     clear htk htk2 hp
     (refine aC_region ?_ <;> refine xL 36 q_move ?_ <;> refine xL 37 q_move ?_ <;> refine xL 38 (q_slen Tryz.underlying9) ?_ <;> refine xL 39 q_lss ?_ <;> (refine xL 40 q_move ?_; refine bLd 40 (fun hb40 => ?_) (fun hb40 => ?_)) <;> (first | refine kL 41 ?_ | refine xL 41 q_move ?_) <;> (first | refine kL 42 ?_ | refine xL 42 q_move ?_) <;> (first | refine kL 43 ?_ | refine kL 43 ?_ | refine xL 43 (q_index Tryz.underlying9 rfl rfl rfl (by omega) hdy) ?_ | ((exfalso; omega))) <;> (first | refine kL 44 ?_ | refine kL 44 ?_ | (refine cS 44 (cA (Tryz.call90) (rkLetter_e d.toNat)) fun v44 hv44 => ?_; cases hv44)) <;> (first | refine kL 45 ?_ | refine xL 45 q_move ?_) <;> (first | refine kL 46 ?_ | (refine bL 45 (fun hb45 => ?_) (fun hb45 => ?_) <;> (first | refine kL 46 ?_ | refine xL 46 q_move ?_))) <;> (first | refine kL 47 ?_ | refine xL 47 q_move ?_) <;> (first | refine kL 48 ?_ | refine kL 48 ?_ | refine xL 48 (q_index Tryz.underlying9 rfl rfl rfl (by omega) hdy) ?_) <;> (first | refine kL 49 ?_ | refine xL 49 q_eql ?_) <;> (first | refine kL 50 ?_ | refine xL 50 q_pick ?_) <;> refine xL 51 q_pick ?_ <;> refine aL_end (nav ?_) <;> try dsimp only) <;> (try (exfalso; omega)) <;> (
      (first | refine cCd ?_ ?_ | refine cC ?_ ?_) <;> intro hb51
      · first
        | exact Bool.noConfusion hb51
        | (
         refine nav ?_
         (refine aC_region ?_ <;> (refine yL 52 (q_buildM tSq71_PuP) fun v52 hv52 => ?_; cases hv52) <;> refine s_sta 4 tAgg71_PuP ?_ <;> refine xL 5 q_assign ?_ <;> refine xL 6 q_assign ?_ <;> refine aL_end (nav ?_) <;> try dsimp only)
         refine ret_3 (Tryz.results93) (.cell (k := 5) 4 (by kernel_rfl) rfl rfl (Nat.le_of_ble_eq_true rfl) (by decide) rfl) (.tmp rfl) (.tmp rfl) ?_
         have hq : (isLB d || d.toNat == 95) = true := by
          unfold isLB
          first
           | (rw [hb45]; rfl)
           | (rw [show d.toNat = 95 by omega]; simp)
         rw [hlex, if_pos hq]; rfl)
      · first
        | exact Bool.noConfusion hb51
        | (
         first
          | (have hq : (isLB d || d.toNat == 95) = false := by
              unfold isLB
              rw [hb45]
              simp only [Bool.false_or, beq_eq_false_iff_ne]; omega
             rw [if_neg (by rw [hq]; decide)] at hlex)
          | skip
         refine nav ?_
         (refine aC_region ?_ <;> refine xL 53 q_move ?_ <;> refine aL_end (nav ?_) <;> try dsimp only)
         (first | refine cCd ?_ ?_ | refine cC ?_ ?_) <;> intro hb53
         · first
           | exact Bool.noConfusion hb53
           | (
            refine nav ?_
            (refine aC_region ?_ <;> (refine yL 54 (q_buildM tSq71_PuP) fun v54 hv54 => ?_; cases hv54) <;> refine s_sta 4 tAgg71_PuP ?_ <;> refine xL 5 q_assign ?_ <;> refine xL 6 q_assign ?_ <;> refine aL_end (nav ?_) <;> try dsimp only)
            refine ret_3 (Tryz.results93) (.cell (k := 5) 4 (by kernel_rfl) rfl rfl (Nat.le_of_ble_eq_true rfl) (by decide) rfl) (.tmp rfl) (.tmp rfl) ?_
            rw [hlex, if_pos (hbt hb53)]; rfl)
         · first
           | exact Bool.noConfusion hb53
           | (
            refine nav ?_
            (refine aC_region ?_ <;> refine xL 55 q_move ?_ <;> (refine yL 56 (q_buildM tSq71_PuP) fun v56 hv56 => ?_; cases hv56) <;> refine xL 57 q_move ?_ <;> refine s_sta 4 tAgg71_PuP ?_ <;> refine xL 5 q_assign ?_ <;> refine xL 6 q_assign ?_ <;> refine aL_end (nav ?_) <;> try dsimp only)
            obtain ⟨hn, hn2⟩ := hbf hb53
            refine ret_3 (Tryz.results93) (.cell (k := 5) 4 (by kernel_rfl) rfl rfl (Nat.le_of_ble_eq_true rfl) (by decide) rfl) (.tmp rfl) (.tmp rfl) ?_
            rw [hlex, if_neg (by omega), ← hn]
            dsimp only [rtX]
            rw [Nat.add_sub_cancel' hik]; rfl)))))
theorem tAgg71_PuQ : AggT Tryz.prog 71 5 = true := by kernel_rfl
theorem tSq71_PuQ : stInfo Tryz.prog 71 = some ((.agg #[(.int .i64 0), (.string ByteArray.empty), (.int .i64 0), (.int .i64 0), (.int .i64 0)]), [(0, 1), (1, 1), (2, 1), (3, 2)]) := by kernel_rfl
theorem tZr71_PuQ : ZeroT Tryz.prog 71 (.agg #[(.int .i64 0), (.string ByteArray.empty), (.int .i64 0), (.int .i64 0), (.int .i64 0)]) := by unfold ZeroT; kernel_rfl
theorem bst_cat (l m : List UInt8) : bst l ++ bst m = bst (l ++ m) := by
 unfold bst
 apply ByteArray.ext
 simp
theorem part_one {l : List UInt8} {j : Nat} {d : UInt8} (h : l[j]? = some d) {i k : Int} (hi : i = j) (hk : k = j + 1) : (l.drop i.toNat).take (k.toNat - i.toNat) = [d] := by
 subst hi hk
 rw [show ((j : Int)).toNat = j from rfl, show ((j : Int) + 1).toNat - j = 1 by omega, blk_tt h]
 rfl
theorem rlit_q {c : UInt8} {m : List UInt8} (h : c.toNat = 34) : litB (c :: m) = .ok 1 [] := by
 rw [litB.eq_def]; simp only; rw [if_pos h]
theorem rlit_bad {c : UInt8} {m : List UInt8} (h1 : c.toNat ≠ 34) (h : c.toNat < 32 ∨ 126 < c.toNat) : litB (c :: m) = .err 3 := by
 rw [litB.eq_def]; simp only; rw [if_neg h1, if_pos h]
theorem rlit_e0 {c : UInt8} (h : c.toNat = 92) : litB [c] = .err 4 := by
 rw [litB.eq_def]; simp only; rw [if_neg (by omega), if_neg (by omega), if_pos h]
theorem rlit_e1 {c d : UInt8} {m : List UInt8} (h : c.toNat = 92) (hd : ¬ (d.toNat = 34 ∨ d.toNat = 92)) : litB (c :: d :: m) = .err 3 := by
 rw [litB.eq_def]; simp only; rw [if_neg (by omega), if_neg (by omega), if_pos h, if_neg hd]
def litA (n : Nat) (out : List UInt8) : Lt → Lt
 | .ok k t => .ok (n + k) (out ++ t)
 | .err e => .err e
theorem rlit_e2 {c d : UInt8} {m : List UInt8} (h : c.toNat = 92) (hd : d.toNat = 34 ∨ d.toNat = 92) : litB (c :: d :: m) = litA 2 [d] (litB m) := by
 rw [litB.eq_def]; simp only; rw [if_neg (by omega), if_neg (by omega), if_pos h, if_pos hd]
 cases litB m with
 | ok n t => simp only [litA]; congr 1; omega
 | err e => rfl
theorem rlit_c {c : UInt8} {m : List UInt8} (h1 : c.toNat ≠ 34) (h2 : ¬ (c.toNat < 32 ∨ 126 < c.toNat)) (h3 : c.toNat ≠ 92) : litB (c :: m) = litA 1 [c] (litB m) := by
 rw [litB.eq_def]; simp only; rw [if_neg h1, if_neg h2, if_neg h3]
 cases litB m with
 | ok n t => simp only [litA]; congr 1; omega
 | err e => rfl
theorem litA_zero (x : Lt) : x = litA 0 [] x := by
 cases x with
 | ok n t => simp [litA]
 | err e => rfl
theorem litA_add (a b : Nat) (s t : List UInt8) (x : Lt) : litA a s (litA b t x) = litA (a + b) (s ++ t) x := by
 cases x with
 | ok n u => simp only [litA, List.append_assoc, Nat.add_assoc]
 | err e => rfl
set_option maxHeartbeats 4000000 in
theorem rkText_e (l : List UInt8) (hl : l.length ≤ 16384) (i : Nat) (c : UInt8) (hc : l[i]? = some c) (hlc : isLB c = false) (hdc : isDB c = false) (h34 : c.toNat = 34) : AF Tryz.prog 94 [pB l, pInt (i : Int)] (· = rtX i (lexB (l.drop i))) := by
 have hsz := bst_size l
 have hil := lt_of_get hc
 have hlex : lexB (l.drop i) = (match litB (l.drop (i + 1)) with | .err e => .err e | .ok n t => .ok 3 t 0 (n + 1)) := by
  rw [blk_tt hc, lexB, if_neg (by rw [hlc]; exact Bool.false_ne_true), if_neg (by rw [hdc]; exact Bool.false_ne_true), if_pos h34]
  cases litB (l.drop (i + 1)) <;> rfl
 clear hc hlc hdc h34
 refine AF.of_body 64 Tryz.func94 rfl Tryz.ntmps94 (Nat.le_of_ble_eq_true rfl) ?_
 intro w0 M0 vs hl hv
 obtain ⟨v0, v1, rfl⟩ := len2 hl
 obtain rfl := hv 0 _ _ rfl rfl
 obtain rfl := hv 1 _ _ rfl rfl
 clear hl hv
 refine nav ?_
 (refine aC_region ?_ <;> refine s_alloc [(.int .i64 0), (.string ByteArray.empty), (.int .i64 0), (.int .i64 0), (.int .i64 0)] 5 4 tZr71_PuQ fun h4 => ?_ <;> refine xL 5 q_assign ?_ <;> refine xL 6 q_assign ?_ <;> refine aL_end (nav ?_) <;> try dsimp only)
 (refine aC_region ?_ <;> refine xL 7 q_assign ?_ <;> refine aL_end (nav ?_) <;> try dsimp only)
 (refine aC_region ?_ <;> refine xL 8 q_move ?_ <;> refine xL 9 (q_addE (c := ((i + 1 : Nat) : Int))) ?_ <;> refine xL 1 q_assign ?_ <;> refine aL_end (nav ?_) <;> try dsimp only)
 refine aC_loop (ι := { q : Nat × List UInt8 // i + 1 ≤ q.1 ∧ q.1 ≤ l.length ∧ q.2.length ≤ q.1 ∧ litB (l.drop (i + 1)) = litA (q.1 - (i + 1)) q.2 (litB (l.drop q.1)) }) (fun k => ⟨[(0, _, _), (4, _, _), (1, .int .i64 k.1.1, pInt k.1.1), (7, .string (bst k.1.2), pB k.1.2)], [(4, _, _)]⟩) (fun k => l.length - k.1.1) ⟨(i + 1, []), Nat.le_refl _, hil, Nat.zero_le _, by dsimp only; rw [Nat.sub_self]; exact (litA_zero _)⟩ (fun a w H => H.weaken ⟨rfl, rfl, rfl, rfl, trivial⟩ ⟨rfl, trivial⟩) ?_
 rintro ⟨⟨k, out⟩, hik, hk, hol, hp⟩
 dsimp only
 dsimp only at hik hk hol hp
 refine nav ?_
 (refine aC_region ?_ <;> refine xL 10 q_move ?_ <;> refine xL 11 q_move ?_ <;> refine xL 12 (q_slen Tryz.underlying9) ?_ <;> refine xL 13 q_lss ?_ <;> refine aL_end (nav ?_) <;> try dsimp only)
 (first | refine cCd ?_ ?_ | refine cC ?_ ?_) <;> intro hb13
 · first
   | exact Bool.noConfusion hb13
   | (
    obtain ⟨d, hdx⟩ := get_byte (show k < l.length by omega)
    have hdy := bst_at hdx
    have hkl := lt_of_get hdx
    have hdr := blk_tt hdx
    have hosz := bst_size out
    have hone : ∀ x : UInt8, (bst [x]).size = 1 := fun x => bst_size [x]
    refine nav ?_
    (refine aC_region ?_ <;> refine xL 14 q_move ?_ <;> refine xL 15 q_move ?_ <;> refine xL 16 (q_index Tryz.underlying9) ?_ <;> refine xL 17 q_eql ?_ <;> refine aL_end (nav ?_) <;> try dsimp only)
    (first | refine cCd ?_ ?_ | refine cC ?_ ?_) <;> intro hb17
    · first
      | exact Bool.noConfusion hb17
      | (
       refine nav ?_
       (refine aC_region ?_ <;> refine xL 18 q_move ?_ <;> (refine yL 19 (q_buildM tSq71_PuQ) fun v19 hv19 => ?_; cases hv19) <;> refine xL 20 q_move ?_ <;> refine xL 21 q_add ?_ <;> refine s_sta 4 tAgg71_PuQ ?_ <;> refine xL 5 q_assign ?_ <;> refine xL 6 q_assign ?_ <;> refine aL_end (nav ?_) <;> try dsimp only)
       refine ret_3 (Tryz.results94) (.cell (k := 5) 4 (by kernel_rfl) rfl rfl (Nat.le_of_ble_eq_true rfl) (by decide) rfl) (.tmp rfl) (.tmp rfl) ?_
       rw [hlex, hp, hdr, rlit_q (by omega)]
       dsimp only [litA, rtX]
       rw [List.append_nil, show i + (k - (i + 1) + 1 + 1) = k + 1 by omega]; rfl)
    · first
      | exact Bool.noConfusion hb17
      | (
       refine nav ?_
       (refine aC_region ?_ <;> refine xL 22 q_move ?_ <;> refine xL 23 q_move ?_ <;> refine xL 24 (q_index Tryz.underlying9) ?_ <;> refine xL 25 q_lss ?_ <;> refine xL 26 q_move ?_ <;> (refine bLd 26 (fun hb26 => ?_) (fun hb26 => ?_) <;> (first | refine kL 27 ?_ | refine xL 27 q_move ?_)) <;> (first | refine kL 28 ?_ | refine xL 28 q_move ?_) <;> (first | refine kL 29 ?_ | refine xL 29 (q_index Tryz.underlying9) ?_) <;> (first | refine kL 30 ?_ | refine xL 30 q_gtr ?_) <;> refine xL 31 q_pick ?_ <;> refine aL_end (nav ?_) <;> try dsimp only) <;> (
        (first | refine cCd ?_ ?_ | refine cC ?_ ?_) <;> intro hb31
        · first
          | exact Bool.noConfusion hb31
          | (
           refine nav ?_
           (refine aC_region ?_ <;> (refine yL 32 (q_buildM tSq71_PuQ) fun v32 hv32 => ?_; cases hv32) <;> refine s_sta 4 tAgg71_PuQ ?_ <;> refine xL 5 q_assign ?_ <;> refine xL 6 q_assign ?_ <;> refine aL_end (nav ?_) <;> try dsimp only)
           refine ret_3 (Tryz.results94) (.cell (k := 5) 4 (by kernel_rfl) rfl rfl (Nat.le_of_ble_eq_true rfl) (by decide) rfl) (.tmp rfl) (.tmp rfl) ?_
           rw [hlex, hp, hdr, rlit_bad (by omega) (by omega)]; rfl)
        · first
          | exact Bool.noConfusion hb31
          | (
           refine nav ?_
           (refine aC_region ?_ <;> refine xL 33 q_move ?_ <;> refine xL 34 q_move ?_ <;> refine xL 35 (q_index Tryz.underlying9) ?_ <;> refine xL 36 q_eql ?_ <;> refine aL_end (nav ?_) <;> try dsimp only)
           (first | refine cCd ?_ ?_ | refine cC ?_ ?_) <;> intro hb36
           · first
             | exact Bool.noConfusion hb36
             | (
              refine nav ?_
              (refine aC_region ?_ <;> refine xL 37 q_move ?_ <;> refine xL 38 (q_addE (c := ((k + 1 : Nat) : Int))) ?_ <;> refine xL 1 q_assign ?_ <;> refine aL_end (nav ?_) <;> try dsimp only)
              (refine aC_region ?_ <;> refine xL 39 q_move ?_ <;> refine xL 40 q_move ?_ <;> refine xL 41 (q_slen Tryz.underlying9) ?_ <;> refine xL 42 q_eql ?_ <;> refine aL_end (nav ?_) <;> try dsimp only)
              (first | refine cCd ?_ ?_ | refine cC ?_ ?_) <;> intro hb42
              · first
                | exact Bool.noConfusion hb42
                | (
                 refine nav ?_
                 (refine aC_region ?_ <;> (refine yL 63 (q_buildM tSq71_PuQ) fun v63 hv63 => ?_; cases hv63) <;> refine s_sta 4 tAgg71_PuQ ?_ <;> refine xL 5 q_assign ?_ <;> refine xL 6 q_assign ?_ <;> refine aL_end (nav ?_) <;> try dsimp only)
                 refine ret_3 (Tryz.results94) (.cell (k := 5) 4 (by kernel_rfl) rfl rfl (Nat.le_of_ble_eq_true rfl) (by decide) rfl) (.tmp rfl) (.tmp rfl) ?_
                 have h4' : litB (l.drop k) = .err 4 := by
                  first
                   | (rw [List.drop_of_length_le (by omega)]; rw [litB.eq_def])
                   | (rw [hdr, List.drop_of_length_le (show l.length ≤ k + 1 by omega), rlit_e0 (by omega)])
                 rw [hlex, hp, h4']; rfl)
              · first
                | exact Bool.noConfusion hb42
                | (
                 obtain ⟨e, hex⟩ := get_byte (show k + 1 < l.length by omega)
                 have hey := bst_at hex
                 have hdr2 := blk_tt hex
                 refine nav ?_
                 (refine aC_region ?_ <;> refine xL 43 q_move ?_ <;> refine xL 44 q_move ?_ <;> refine xL 45 (q_index Tryz.underlying9 rfl rfl rfl (by omega) hey) ?_ <;> refine xL 46 q_neq ?_ <;> refine xL 47 q_move ?_ <;> (refine bLd 47 (fun hb47 => ?_) (fun hb47 => ?_) <;> (first | refine kL 48 ?_ | refine xL 48 q_move ?_)) <;> (first | refine kL 49 ?_ | refine xL 49 q_move ?_) <;> (first | refine kL 50 ?_ | refine kL 50 ?_ | refine xL 50 (q_index Tryz.underlying9 rfl rfl rfl (by omega) hey) ?_) <;> (first | refine kL 51 ?_ | refine xL 51 q_neq ?_) <;> refine xL 52 q_pick ?_ <;> refine aL_end (nav ?_) <;> try dsimp only) <;> (
                  (first | refine cCd ?_ ?_ | refine cC ?_ ?_) <;> intro hb52
                  · first
                    | exact Bool.noConfusion hb52
                    | (
                     refine nav ?_
                     (refine aC_region ?_ <;> (refine yL 53 (q_buildM tSq71_PuQ) fun v53 hv53 => ?_; cases hv53) <;> refine s_sta 4 tAgg71_PuQ ?_ <;> refine xL 5 q_assign ?_ <;> refine xL 6 q_assign ?_ <;> refine aL_end (nav ?_) <;> try dsimp only)
                     refine ret_3 (Tryz.results94) (.cell (k := 5) 4 (by kernel_rfl) rfl rfl (Nat.le_of_ble_eq_true rfl) (by decide) rfl) (.tmp rfl) (.tmp rfl) ?_
                     rw [hlex, hp, hdr, hdr2, rlit_e1 (by omega) (by omega)]; rfl)
                  · first
                    | exact Bool.noConfusion hb52
                    | (
                     refine nav ?_
                     (refine aC_region ?_ <;> refine xL 54 q_move ?_ <;> refine xL 55 q_move ?_ <;> refine xL 56 q_move ?_ <;> refine xL 57 q_move ?_ <;> refine xL 58 (q_addE (c := ((k + 1 + 1 : Nat) : Int))) ?_ <;> (refine xL 59 (q_part Tryz.underlying9) ?_; rw [part_one hex (by omega) (by omega)]) <;> (refine xL 60 (q_sadd (hs := by rw [hone]; omega)) ?_; rw [bst_cat]) <;> refine xL 7 q_assign ?_ <;> refine aL_end (nav ?_) <;> try dsimp only)
                     (refine aC_region ?_ <;> refine xL 61 q_move ?_ <;> refine xL 62 q_add ?_ <;> refine xL 1 q_assign ?_ <;> refine aL_end (nav ?_) <;> try dsimp only)
                     first
                      | (exact aN_again (
                          ⟨(k + 1, out ++ [d]), by dsimp only; omega, by dsimp only; omega, by dsimp only; rw [List.length_append, List.length_singleton]; omega, by
                            dsimp only
                            rw [hp, hdr, rlit_c (by omega) (by omega) (by omega), litA_add, show k - (i + 1) + 1 = k + 1 - (i + 1) by omega]⟩
                          ) (by dsimp only; omega) ⟨rfl, rfl, rfl, rfl, trivial⟩ ⟨rfl, trivial⟩)
                      | (exact aN_again (
                          ⟨(k + 1 + 1, out ++ [e]), by dsimp only; omega, by dsimp only; omega, by dsimp only; rw [List.length_append, List.length_singleton]; omega, by
                            dsimp only
                            rw [hp, hdr, hdr2, rlit_e2 (by omega) (by omega), litA_add, show k - (i + 1) + 2 = k + 1 + 1 - (i + 1) by omega]⟩
                          ) (by dsimp only; omega) ⟨rfl, rfl, rfl, rfl, trivial⟩ ⟨rfl, trivial⟩)))))
           · first
             | exact Bool.noConfusion hb36
             | (
              refine nav ?_
              (refine aC_region ?_ <;> refine xL 54 q_move ?_ <;> refine xL 55 q_move ?_ <;> refine xL 56 q_move ?_ <;> refine xL 57 q_move ?_ <;> refine xL 58 (q_addE (c := ((k + 1 : Nat) : Int))) ?_ <;> (refine xL 59 (q_part Tryz.underlying9) ?_; rw [part_one hdx (by omega) (by omega)]) <;> (refine xL 60 (q_sadd (hs := by rw [hone]; omega)) ?_; rw [bst_cat]) <;> refine xL 7 q_assign ?_ <;> refine aL_end (nav ?_) <;> try dsimp only)
              (refine aC_region ?_ <;> refine xL 61 q_move ?_ <;> refine xL 62 q_add ?_ <;> refine xL 1 q_assign ?_ <;> refine aL_end (nav ?_) <;> try dsimp only)
              first
               | (exact aN_again (
                   ⟨(k + 1, out ++ [d]), by dsimp only; omega, by dsimp only; omega, by dsimp only; rw [List.length_append, List.length_singleton]; omega, by
                     dsimp only
                     rw [hp, hdr, rlit_c (by omega) (by omega) (by omega), litA_add, show k - (i + 1) + 1 = k + 1 - (i + 1) by omega]⟩
                   ) (by dsimp only; omega) ⟨rfl, rfl, rfl, rfl, trivial⟩ ⟨rfl, trivial⟩)
               | (exact aN_again (
                   ⟨(k + 1 + 1, out ++ [e]), by dsimp only; omega, by dsimp only; omega, by dsimp only; rw [List.length_append, List.length_singleton]; omega, by
                     dsimp only
                     rw [hp, hdr, hdr2, rlit_e2 (by omega) (by omega), litA_add, show k - (i + 1) + 2 = k + 1 + 1 - (i + 1) by omega]⟩
                   ) (by dsimp only; omega) ⟨rfl, rfl, rfl, rfl, trivial⟩ ⟨rfl, trivial⟩))))))
 · first
   | exact Bool.noConfusion hb13
   | (
    refine nav ?_
    (refine aC_region ?_ <;> (refine yL 63 (q_buildM tSq71_PuQ) fun v63 hv63 => ?_; cases hv63) <;> refine s_sta 4 tAgg71_PuQ ?_ <;> refine xL 5 q_assign ?_ <;> refine xL 6 q_assign ?_ <;> refine aL_end (nav ?_) <;> try dsimp only)
    refine ret_3 (Tryz.results94) (.cell (k := 5) 4 (by kernel_rfl) rfl rfl (Nat.le_of_ble_eq_true rfl) (by decide) rfl) (.tmp rfl) (.tmp rfl) ?_
    have h4' : litB (l.drop k) = .err 4 := by
     first
      | (rw [List.drop_of_length_le (by omega)]; rw [litB.eq_def])
      | (rw [hdr, List.drop_of_length_le (show l.length ≤ k + 1 by omega), rlit_e0 (by omega)])
    rw [hlex, hp, h4']; rfl)
theorem tAgg71_PuR : AggT Tryz.prog 71 5 = true := by kernel_rfl
theorem tEl54_PuR : ElT Tryz.prog 54 9 1 16 (.string ByteArray.empty) := ⟨Tryz.underlying54, by kernel_rfl, rfl, by decide⟩
theorem tNa9_PuR : NoAgg Tryz.prog 9 = true := by kernel_rfl
theorem tSl54_PuR : SlT Tryz.prog 54 9 1 = true := by kernel_rfl
theorem tSq71_PuR : stInfo Tryz.prog 71 = some ((.agg #[(.int .i64 0), (.string ByteArray.empty), (.int .i64 0), (.int .i64 0), (.int .i64 0)]), [(0, 1), (1, 1), (2, 1), (3, 2)]) := by kernel_rfl
theorem tZr71_PuR : ZeroT Tryz.prog 71 (.agg #[(.int .i64 0), (.string ByteArray.empty), (.int .i64 0), (.int .i64 0), (.int .i64 0)]) := by unfold ZeroT; kernel_rfl
set_option maxHeartbeats 4000000 in
theorem rkSymbols_e : AF Tryz.prog 124 [] (· = pSyms) := by
 refine AF.of_body 2 Tryz.func124 rfl Tryz.ntmps124 (Nat.le_of_ble_eq_true rfl) ?_
 intro w0 M0 vs hl hv
 obtain rfl := List.eq_nil_of_length_eq_zero hl
 clear hl hv
 refine nav ?_
 (refine aC_region ?_ <;> refine xL 0 q_assign ?_ <;> refine aL_end (nav ?_) <;> try dsimp only)
 (refine aC_region ?_ <;> (refine s_litn (xs := [_, _, _, _, _, _, _, _, _, _, _, _, _, _, _, _, _, _, _, _, _, _, _, _, _, _, _, _, _, _, _, _, _]) 1 tEl54_PuR fun h1 ho1 => ?_; refine aL_ent (En.freeze (l := 1) (t := 1) rfl rfl) fun _ => ?_) <;> refine xL 0 q_assign ?_ <;> refine aL_end (nav ?_) <;> try dsimp only)
 exact ret_shr (Tryz.results124) rfl rfl
theorem rkBegins_e (l m : List UInt8) (hl : l.length ≤ 1000000) (hm : m.length ≤ 1000000) : AF Tryz.prog 125 [pB l, pB m] (· = pBool (m.isPrefixOf l)) := by
 have hsz := bst_size l
 have hsz2 := bst_size m
 refine AF.of_body 18 Tryz.func125 rfl Tryz.ntmps125 (Nat.le_of_ble_eq_true rfl) ?_
 intro w0 M0 vs hl hv
 obtain ⟨v0, v1, rfl⟩ := len2 hl
 obtain rfl := hv 0 _ _ rfl rfl
 obtain rfl := hv 1 _ _ rfl rfl
 clear hl hv
 refine nav ?_
 (refine aC_region ?_ <;> refine xL 4 q_assign ?_ <;> refine aL_end (nav ?_) <;> try dsimp only)
 (refine aC_region ?_ <;> refine xL 5 q_move ?_ <;> refine xL 6 (q_slen Tryz.underlying9) ?_ <;> refine xL 7 q_move ?_ <;> refine xL 8 (q_slen Tryz.underlying9) ?_ <;> refine xL 9 q_geq ?_ <;> refine xL 10 q_move ?_ <;> (refine bLd 10 (fun hb10 => ?_) (fun hb10 => ?_) <;> (first | refine kL 11 ?_ | refine xL 11 q_move ?_)) <;> (first | refine kL 12 ?_ | refine xL 12 q_move ?_) <;> (first | refine kL 13 ?_ | refine xL 13 (q_slen Tryz.underlying9) ?_) <;> (first | refine kL 14 ?_ | refine xL 14 (q_upto Tryz.underlying9) ?_) <;> (first | refine kL 15 ?_ | refine xL 15 q_move ?_) <;> (first | refine kL 16 ?_ | refine xL 16 q_seql ?_) <;> refine xL 17 q_pick ?_ <;> refine xL 4 q_assign ?_ <;> refine aL_end (nav ?_) <;> try dsimp only) <;> (
  refine ret_shr (Tryz.results125) rfl ?_
  first
   | (rw [pre_long (by omega)]; done)
   | (rw [pre_take (by omega), bst_eq]
      simp only [hsz2, Int.toNat_natCast]; done))
theorem rkSymbol_e (l : List UInt8) (hl : l.length ≤ 1000000) : AF Tryz.prog 95 [pB l] (· = pB ((symB l).getD [])) := by
 have hsl : syms.length = 33 := rfl
 refine AF.of_body 22 Tryz.func95 rfl Tryz.ntmps95 (Nat.le_of_ble_eq_true rfl) ?_
 intro w0 M0 vs hl hv
 obtain ⟨v0, rfl⟩ := len1 hl
 obtain rfl := hv 0 _ _ rfl rfl
 clear hl hv
 refine nav ?_
 (refine aC_region ?_ <;> refine xL 2 q_assign ?_ <;> refine aL_end (nav ?_) <;> try dsimp only)
 (refine aC_region ?_ <;> (refine cS 5 (cA (Tryz.call124) rkSymbols_e) fun v5 hv5 => ?_; refine aL_ent (reslot (t := 5) (p' := .sl 33 (syms.map pB)) rfl rfl) fun _ => ?_) <;> refine xL 3 q_assign ?_ <;> refine aL_end (nav ?_) <;> try dsimp only)
 (refine aC_region ?_ <;> refine xL 4 q_assign ?_ <;> refine aL_end (nav ?_) <;> try dsimp only)
 refine aC_loop (ι := { k : Nat // k ≤ 33 ∧ ∀ (j : Nat) (y : List UInt8), j < k → syms[j]? = some y → y.isPrefixOf l = false }) (fun k => ⟨[(0, _, _), (3, _, _), (4, .int .i64 k.1, pInt k.1)], []⟩) (fun k => 33 - k.1) ⟨0, Nat.zero_le _, fun j d hj => absurd hj (Nat.not_lt_zero _)⟩ (fun a w H => H.weaken ⟨rfl, rfl, rfl, trivial⟩ trivial) ?_
 rintro ⟨k, hk, hp⟩
 dsimp only
 try dsimp only at hk hp
 refine nav ?_
 (refine aC_region ?_ <;> refine xL 6 q_move ?_ <;> refine xL 7 q_move ?_ <;> refine xL 8 (q_len tSl54_PuR) ?_ <;> refine xL 9 q_lss ?_ <;> refine aL_end (nav ?_) <;> try dsimp only)
 (first | refine cCd ?_ ?_ | refine cC ?_ ?_) <;> intro hb9
 · first
   | exact Bool.noConfusion hb9
   | (
    obtain ⟨x, hx⟩ := get_some (l := syms) (i := k) (by rw [hsl]; omega)
    have e1 := map_at (f := pB) hx
    have hxl := syms_len (List.mem_of_getElem? hx)
    refine nav ?_
    (refine aC_region ?_ <;> refine xL 12 q_move ?_ <;> refine xL 13 q_move ?_ <;> refine xL 14 q_move ?_ <;> refine xL 15 (q_idxN tSl54_PuR) ?_ <;> (refine yL 16 (q_ld tNa9_PuR) fun v16 hv16 => ?_; cases hv16) <;> (refine cS 17 (cA Tryz.call125 (rkBegins_e l x hl (by omega))) fun v17 hv17 => ?_; cases hv17) <;> refine aL_end (nav ?_) <;> try dsimp only)
    (first | refine cCd ?_ ?_ | refine cC ?_ ?_) <;> intro hb17
    · first
      | exact Bool.noConfusion hb17
      | (
       refine nav ?_
       (refine aC_region ?_ <;> refine xL 18 q_move ?_ <;> refine xL 19 q_move ?_ <;> refine xL 20 (q_idxN tSl54_PuR) ?_ <;> (refine yL 21 (q_ld tNa9_PuR) fun v21 hv21 => ?_; cases hv21) <;> refine xL 2 q_assign ?_ <;> refine aL_end (nav ?_) <;> try dsimp only)
       refine ret_shr (Tryz.results95) rfl ?_
       rw [show symB l = some x from find_at hp hx hb17]; rfl)
    · first
      | exact Bool.noConfusion hb17
      | (
       refine nav ?_
       (refine aC_region ?_ <;> refine xL 10 q_move ?_ <;> refine xL 11 q_add ?_ <;> refine xL 4 q_assign ?_ <;> refine aL_end (nav ?_) <;> try dsimp only)
       refine aN_again (
        ⟨k + 1, by omega, fun j y hj hy => by
         rcases Nat.lt_or_ge j k with h | h
         · exact hp j y h hy
         · obtain rfl : j = k := by omega
           rw [hx] at hy; cases hy; exact hb17⟩
        ) (by dsimp only; omega) ⟨rfl, rfl, rfl, trivial⟩ trivial))
 · first
   | exact Bool.noConfusion hb9
   | (
    refine nav ?_
    (refine aC_region ?_ <;> refine xL 2 q_assign ?_ <;> refine aL_end (nav ?_) <;> try dsimp only)
    refine ret_shr (Tryz.results95) rfl ?_
    rw [show symB l = none from find_no fun j y hy => hp j y (by have := lt_of_get hy; rw [hsl] at this; omega) hy]; rfl)
def lxF : Lx → Int × List UInt8 × Int × Int
 | .ok kd tx n _ => (kd, tx, n, 0)
 | .err e => (0, [], 0, e)
def lxI (i : Nat) : Lx → Int
 | .ok _ _ _ len => ((i + len : Nat) : Int)
 | .err _ => 0
theorem rtX_eq (i : Nat) (x : Lx) : rtX i x = .tup [.agg [pInt (lxF x).1, pB (lxF x).2.1, pInt (lxF x).2.2.1, pInt 0, pInt 0], pInt (lxI i x), pInt (lxF x).2.2.2] := by cases x <;> rfl
set_option maxHeartbeats 4000000 in
theorem rkToken_e (l : List UInt8) (hl : l.length ≤ 16384) (i : Nat) (hi : i < l.length) : AF Tryz.prog 63 [pB l, pInt (i : Int)] (· = rtX i (lexB (l.drop i))) := by
 have hsz := bst_size l
 obtain ⟨c, hcx⟩ := get_byte hi
 have hcy := bst_at hcx
 have hdr := blk_tt hcx
 refine AF.of_body 51 Tryz.func63 rfl Tryz.ntmps63 (Nat.le_of_ble_eq_true rfl) ?_
 intro w0 M0 vs hl hv
 obtain ⟨v0, v1, rfl⟩ := len2 hl
 obtain rfl := hv 0 _ _ rfl rfl
 obtain rfl := hv 1 _ _ rfl rfl
 clear hl hv
 refine nav ?_
 (refine aC_region ?_ <;> refine s_alloc [(.int .i64 0), (.string ByteArray.empty), (.int .i64 0), (.int .i64 0), (.int .i64 0)] 5 4 tZr71_PuR fun h4 => ?_ <;> refine xL 5 q_assign ?_ <;> refine xL 6 q_assign ?_ <;> refine aL_end (nav ?_) <;> try dsimp only)
 (refine aC_region ?_ <;> refine xL 8 q_move ?_ <;> refine xL 9 q_move ?_ <;> refine xL 10 (q_index Tryz.underlying9 rfl rfl rfl (by omega) hcy) ?_ <;> (refine cS 11 (cA Tryz.call90 (rkLetter_e c.toNat)) fun v11 hv11 => ?_; cases hv11) <;> refine aL_end (nav ?_) <;> try dsimp only)
 (first | refine cCd ?_ ?_ | refine cC ?_ ?_) <;> intro hb11
 · first
   | exact Bool.noConfusion hb11
   | (
    have hN := rkName_e l hl i c hcx hb11
    rw [rtX_eq] at hN
    refine nav ?_
    (refine aC_region ?_ <;> refine xL 12 q_move ?_ <;> refine xL 13 q_move ?_ <;> (refine cPx3 14 (cA (Tryz.call91) hN) fun va14 vb14 vc14 hva14 hvb14 hvc14 => ?_; cases hvb14; cases hvc14) <;> refine xL 15 q_extract ?_ <;> refine xL 16 q_extract ?_ <;> refine xL 17 q_extract ?_ <;> refine s_sta 4 tAgg71_PuR ?_ <;> refine xL 5 q_assign ?_ <;> refine xL 6 q_assign ?_ <;> refine aL_end (nav ?_) <;> try dsimp only)
    refine ret_3 (Tryz.results63) (.cell (k := 5) 4 (by kernel_rfl) rfl rfl (Nat.le_of_ble_eq_true rfl) (by decide) rfl) (.tmp rfl) (.tmp rfl) ?_
    rw [rtX_eq]; rfl)
 · first
   | exact Bool.noConfusion hb11
   | (
    refine nav ?_
    (refine aC_region ?_ <;> refine xL 18 q_move ?_ <;> refine xL 19 q_move ?_ <;> refine xL 20 (q_index Tryz.underlying9 rfl rfl rfl (by omega) hcy) ?_ <;> (refine cS 21 (cA Tryz.call92 (rkDigit_e c)) fun v21 hv21 => ?_; cases hv21) <;> refine aL_end (nav ?_) <;> try dsimp only)
    (first | refine cCd ?_ ?_ | refine cC ?_ ?_) <;> intro hb21
    · first
      | exact Bool.noConfusion hb21
      | (
       have hN := rkNumber_e l hl i c hcx hb11 hb21
       rw [rtX_eq] at hN
       refine nav ?_
       (refine aC_region ?_ <;> refine xL 22 q_move ?_ <;> refine xL 23 q_move ?_ <;> (refine cPx3 24 (cA (Tryz.call93) hN) fun va24 vb24 vc24 hva24 hvb24 hvc24 => ?_; cases hvb24; cases hvc24) <;> refine xL 25 q_extract ?_ <;> refine xL 26 q_extract ?_ <;> refine xL 27 q_extract ?_ <;> refine s_sta 4 tAgg71_PuR ?_ <;> refine xL 5 q_assign ?_ <;> refine xL 6 q_assign ?_ <;> refine aL_end (nav ?_) <;> try dsimp only)
       refine ret_3 (Tryz.results63) (.cell (k := 5) 4 (by kernel_rfl) rfl rfl (Nat.le_of_ble_eq_true rfl) (by decide) rfl) (.tmp rfl) (.tmp rfl) ?_
       rw [rtX_eq]; rfl)
    · first
      | exact Bool.noConfusion hb21
      | (
       refine nav ?_
       (refine aC_region ?_ <;> refine xL 28 q_move ?_ <;> refine xL 29 q_move ?_ <;> refine xL 30 (q_index Tryz.underlying9 rfl rfl rfl (by omega) hcy) ?_ <;> refine xL 31 q_eql ?_ <;> refine aL_end (nav ?_) <;> try dsimp only)
       (first | refine cCd ?_ ?_ | refine cC ?_ ?_) <;> intro hb31
       · first
         | exact Bool.noConfusion hb31
         | (
          have hN := rkText_e l hl i c hcx hb11 hb21 (by omega)
          rw [rtX_eq] at hN
          refine nav ?_
          (refine aC_region ?_ <;> refine xL 32 q_move ?_ <;> refine xL 33 q_move ?_ <;> (refine cPx3 34 (cA (Tryz.call94) hN) fun va34 vb34 vc34 hva34 hvb34 hvc34 => ?_; cases hvb34; cases hvc34) <;> refine xL 35 q_extract ?_ <;> refine xL 36 q_extract ?_ <;> refine xL 37 q_extract ?_ <;> refine s_sta 4 tAgg71_PuR ?_ <;> refine xL 5 q_assign ?_ <;> refine xL 6 q_assign ?_ <;> refine aL_end (nav ?_) <;> try dsimp only)
          refine ret_3 (Tryz.results63) (.cell (k := 5) 4 (by kernel_rfl) rfl rfl (Nat.le_of_ble_eq_true rfl) (by decide) rfl) (.tmp rfl) (.tmp rfl) ?_
          rw [rtX_eq]; rfl)
       · first
         | exact Bool.noConfusion hb31
         | (
          have hlex : lexB (l.drop i) = (match symB (l.drop i) with | some x => .ok 4 x 0 x.length | none => .err 3) := by
           rw [hdr, lexB, if_neg (by show ¬ isLB c = true; unfold isLB; rw [hb11]; exact Bool.false_ne_true), if_neg (by rw [hb21]; exact Bool.false_ne_true), if_neg (by omega)]
           cases symB (c :: l.drop (i + 1)) <;> rfl
          have hdl : (l.drop i).length = l.length - i := List.length_drop
          have hsy : AF Tryz.prog 95 [pB (l.drop ((i : Nat) : Int).toNat)] (· = pB ((symB (l.drop i)).getD [])) := rkSymbol_e (l.drop i) (by omega)
          refine nav ?_
          (refine aC_region ?_ <;> refine xL 38 q_move ?_ <;> refine xL 39 q_move ?_ <;> refine xL 40 (q_from Tryz.underlying9) ?_ <;> (refine cS 41 (cA Tryz.call95 (hsy)) fun v41 hv41 => ?_; cases hv41) <;> refine xL 7 q_assign ?_ <;> refine aL_end (nav ?_) <;> try dsimp only)
          have hlex' : lexB (l.drop i) = if (symB (l.drop i)).getD [] = [] then .err 3 else .ok 4 ((symB (l.drop i)).getD []) 0 ((symB (l.drop i)).getD []).length := by
           rw [hlex]
           cases hs : symB (l.drop i) with
           | none => rfl
           | some x =>
             have := (syms_len (symB_some hs).1).1
             have hne : x ≠ [] := fun e => by (subst e; simp at this)
             show Lx.ok 4 x 0 x.length = if x = [] then .err 3 else .ok 4 x 0 x.length
             rw [if_neg hne]
          have hsl : ((symB (l.drop i)).getD []).length ≤ 2 := by
           cases hs : symB (l.drop i) with
           | none => exact Nat.zero_le _
           | some x => exact (syms_len (symB_some hs).1).2
          clear hlex hsy
          generalize (symB (l.drop i)).getD [] = sy at hlex' hsl ⊢
          have h43 : ((bst sy).toList == (bst []).toList) = decide (sy = []) := bst_eq sy []
          have hsz2 := bst_size sy
          (refine aC_region ?_ <;> refine xL 42 q_move ?_ <;> refine xL 43 q_sneq ?_ <;> refine aL_end (nav ?_) <;> try dsimp only)
          (first | refine cCd ?_ ?_ | refine cC ?_ ?_) <;> intro hb43
          · first
            | exact Bool.noConfusion hb43
            | (
             refine nav ?_
             (refine aC_region ?_ <;> refine xL 44 q_move ?_ <;> (refine yL 45 (q_buildM tSq71_PuR) fun v45 hv45 => ?_; cases hv45) <;> refine xL 46 q_move ?_ <;> refine xL 47 q_move ?_ <;> refine xL 48 (q_slen Tryz.underlying9) ?_ <;> refine xL 49 q_add ?_ <;> refine s_sta 4 tAgg71_PuR ?_ <;> refine xL 5 q_assign ?_ <;> refine xL 6 q_assign ?_ <;> refine aL_end (nav ?_) <;> try dsimp only)
             have hb : (!decide (sy = [])) = true := by rw [← h43]; exact hb43
             have hne : sy ≠ [] := by simpa using hb
             refine ret_3 (Tryz.results63) (.cell (k := 5) 4 (by kernel_rfl) rfl rfl (Nat.le_of_ble_eq_true rfl) (by decide) rfl) (.tmp rfl) (.tmp rfl) ?_
             rw [hlex', if_neg hne, hsz2]; rfl)
          · first
            | exact Bool.noConfusion hb43
            | (
             refine nav ?_
             (refine aC_region ?_ <;> (refine yL 50 (q_buildM tSq71_PuR) fun v50 hv50 => ?_; cases hv50) <;> refine s_sta 4 tAgg71_PuR ?_ <;> refine xL 5 q_assign ?_ <;> refine xL 6 q_assign ?_ <;> refine aL_end (nav ?_) <;> try dsimp only)
             have hb : (!decide (sy = [])) = false := by rw [← h43]; exact hb43
             have hne : sy = [] := by simpa using hb
             refine ret_3 (Tryz.results63) (.cell (k := 5) 4 (by kernel_rfl) rfl rfl (Nat.le_of_ble_eq_true rfl) (by decide) rfl) (.tmp rfl) (.tmp rfl) ?_
             rw [hlex', if_pos hne]; rfl))))
theorem tAgg33_PtV : AggT Tryz.prog 33 2 = true := by kernel_rfl
theorem tAgg71_PtV : AggT Tryz.prog 71 5 = true := by kernel_rfl
theorem tEl67_PtV : ElT Tryz.prog 67 71 5 48 (.agg #[(.int .i64 0), (.string ByteArray.empty), (.int .i64 0), (.int .i64 0), (.int .i64 0)]) := ⟨Tryz.underlying67, by kernel_rfl, rfl, by decide⟩
theorem tFl71_0_PtV : FldT Tryz.prog 71 0 0 = true := by kernel_rfl
theorem tFl99_1_PtV : FldT Tryz.prog 99 1 1 = true := by kernel_rfl
theorem tNa3_PtV : NoAgg Tryz.prog 3 = true := by kernel_rfl
theorem tSl67_PtV : SlT Tryz.prog 67 71 5 = true := by kernel_rfl
theorem tSq99_PtV : stInfo Tryz.prog 99 = some ((.agg #[(.string ByteArray.empty), (.int .i64 0), (.int .i64 0)]), [(0, 1), (1, 2)]) := by kernel_rfl
theorem tSt33_PtV : stInfo Tryz.prog 33 = some ((.agg #[(.int .i64 0), (.int .i64 0)]), ([0, 1] : List Nat).map fun o => (o, 1)) := by kernel_rfl
theorem tZr33_PtV : ZeroT Tryz.prog 33 (.agg #[(.int .i64 0), (.int .i64 0)]) := by unfold ZeroT; kernel_rfl
theorem tZr71_PtV : ZeroT Tryz.prog 71 (.agg #[(.int .i64 0), (.string ByteArray.empty), (.int .i64 0), (.int .i64 0), (.int .i64 0)]) := by unfold ZeroT; kernel_rfl
def cTk (t : Tk) : List PV := [pInt t.kind, pB t.text, pInt t.n, pInt t.ln, pInt t.col]
def cTks (l : List Tk) : List PV := l.flatMap cTk
def pTks (l : List Tk) : PV := .sl l.length (cTks l)
theorem cTk_len (t : Tk) : (cTk t).length = 5 := rfl
theorem tks_drop {l : List Tk} {k : Nat} {x : Tk} (h : l[k]? = some x) : ((cTks l).drop (k * 5)).take 5 = cTk x := flat_drop cTk_len l k x h
theorem tks_fit {l : List Tk} {k : Nat} {x : Tk} (h : l[k]? = some x) : k * 5 + 5 ≤ (cTks l).length := flat_fit cTk_len h
theorem cTks_snoc (l : List Tk) (t : Tk) : cTks (l ++ [t]) = cTks l ++ cTk t := by unfold cTks; rw [List.flatMap_append]; simp
theorem share_tks (e n : Nat) (l : List Tk) (hn : n = l.length) : share (.own e 5 n (cTks l)) = pTks l := by
 subst hn
 rw [share, shares_eq, cTks, List.map_flatMap]
 rfl
def tk3 (r : List Tk × (Int × Int) × Int) : PV := .tup [pTks r.1, .agg [pInt r.2.1.1, pInt r.2.1.2], pInt r.2.2]
def tokP (l : List UInt8) : PV := if 16384 < l.length then tk3 ([], (0, 0), 5) else tk3 (toksB l (1, 1) [])
theorem adv_bd2 {p : Int × Int} (h1 : 1 ≤ p.1) (h2 : 1 ≤ p.2) : ∀ l : List UInt8, 1 ≤ (advs p l).1 ∧ 1 ≤ (advs p l).2 ∧ (advs p l).1 ≤ p.1 + l.length ∧ (advs p l).2 ≤ p.2 + l.length
 | [] => by simp only [advs, List.foldl_nil, List.length_nil]; omega
 | c :: l => by
   have hb : 1 ≤ (adv p c).1 ∧ 1 ≤ (adv p c).2 ∧ (adv p c).1 ≤ p.1 + 1 ∧ (adv p c).2 ≤ p.2 + 1 := by
    unfold adv; split <;> simp only <;> omega
   have := adv_bd2 (p := adv p c) hb.1 hb.2.1 l
   rw [show advs p (c :: l) = advs (adv p c) l from rfl, List.length_cons]
   omega
structure TokI (l l' : List UInt8) (p : Int × Int) (out : List Tk) : Prop where
 eq : toksB l' p out = toksB l (1, 1) []
 len : l'.length ≤ l.length
 suf : ∀ c ∈ l', c ∈ l
 a1 : 1 ≤ p.1
 a2 : p.1 + l'.length ≤ 1 + l.length
 b1 : 1 ≤ p.2
 b2 : p.2 + l'.length ≤ 1 + l.length
 out : out.length ≤ 4000
set_option maxHeartbeats 4000000 in
theorem tkTokens_e (l : List UInt8) (hA : (∃ c ∈ l, isDB c = true) → AtoiC Tryz.prog 82) (hb : l.length ≤ 1000000000) : AF Tryz.prog 37 [pB l] (· = tokP l) := by
 have hsz := bst_size l
 refine AF.of_body 57 Tryz.func37 rfl Tryz.ntmps37 (Nat.le_of_ble_eq_true rfl) ?_
 intro w0 M0 vs hl hv
 obtain ⟨v0, rfl⟩ := len1 hl
 obtain rfl := hv 0 _ _ rfl rfl
 clear hl hv
 refine nav ?_
 (refine aC_region ?_ <;> refine xL 2 q_assign ?_ <;> refine s_alloc [(.int .i64 0), (.int .i64 0)] 2 3 tZr33_PtV fun h3 => ?_ <;> refine xL 4 q_assign ?_ <;> refine aL_end (nav ?_) <;> try dsimp only)
 (refine aC_region ?_ <;> refine xL 10 q_move ?_ <;> refine xL 11 (q_slen Tryz.underlying9) ?_ <;> refine xL 12 q_gtr ?_ <;> refine aL_end (nav ?_) <;> try dsimp only)
 (first | refine cCd ?_ ?_ | refine cC ?_ ?_) <;> intro hb12
 · first
   | exact Bool.noConfusion hb12
   | (
    refine nav ?_
    (refine aC_region ?_ <;> refine xL 13 (q_build tSt33_PtV) ?_ <;> refine xL 2 q_assign ?_ <;> refine s_sta 3 tAgg33_PtV ?_ <;> refine xL 4 q_assign ?_ <;> refine aL_end (nav ?_) <;> try dsimp only)
    refine aR_ent (rslot (t := 2) (p' := .sl 0 []) rfl Rr.nil) fun _ => ?_
    refine ret_3 (Tryz.results37) (.tmp rfl) (.cell (k := 2) 3 (by kernel_rfl) rfl rfl (Nat.le_of_ble_eq_true rfl) (by decide) rfl) (.tmp rfl) ?_
    rw [tokP, if_pos (by omega)]; rfl)
 · first
   | exact Bool.noConfusion hb12
   | (
    refine nav ?_
    (refine aC_region ?_ <;> refine xL 14 q_move ?_ <;> refine xL 15 (q_build tSt33_PtV) ?_ <;> (refine yL 16 (q_buildM tSq99_PtV) fun v16 hv16 => ?_; cases hv16) <;> refine s_boxa1 17 3 fun b => ?_ <;> refine xL 5 q_assign ?_ <;> refine aL_end (nav ?_) <;> try dsimp only)
    refine aC_ent (recast (l := 17) (p' := .own 99 3 1 [pB l, pInt 1, pInt 1]) rfl rfl) fun _ => ?_
    refine aC_ent (relabel (l := 17) 1000 rfl rfl) fun _ => ?_
    (refine aC_region ?_ <;> refine xL 6 q_assign ?_ <;> refine aL_end (nav ?_) <;> try dsimp only)
    refine aC_ent (nilOwn 200 71 5 rfl) fun _ => ?_
    refine aC_loop (ι := { q : (List UInt8 × (Int × Int)) × (Value × List Tk) // TokI l q.1.1 q.1.2 q.2.2 ∧ q.2.1.oneCell' = true }) (fun k => ⟨[(3, _, _), (5, _, _), (6, k.1.2.1, .val k.1.2.1)], [(3, _, _), (1000, hdr1 b, .own 99 3 1 [pB k.1.1.1, pInt k.1.1.2.1, pInt k.1.1.2.2]), (200, k.1.2.1, .own 71 5 k.1.2.2.length (cTks k.1.2.2))]⟩) (fun k => k.1.1.1.length) ⟨((l, (1, 1)), (.slice none 0 0, [])), ⟨rfl, Nat.le_refl _, fun _ h => h, Int.le_refl 1, by dsimp only; omega, Int.le_refl 1, by dsimp only; omega, Nat.zero_le _⟩, rfl⟩ (fun a w H => H.weaken ⟨rfl, rfl, rfl, trivial⟩ ⟨rfl, rfl, rfl, trivial⟩) ?_
    rintro ⟨⟨⟨l', p⟩, ov, out⟩, hI, hov⟩
    dsimp only
    dsimp only at hI hov; have hone : En.one (PV.val ov) = true := hov
    have hle := hI.len
    have ha1 := hI.a1
    have ha2 := hI.a2
    have hb1 := hI.b1
    have hb2 := hI.b2
    have hol := hI.out
    have heq := hI.eq
    rw [toksB_eq] at heq
    obtain ⟨n, hn⟩ : ∃ n, n = blkN false l' := ⟨_, rfl⟩
    have hnl := blkN_le l' false
    have hbd := adv_bd2 ha1 hb1 (l'.take n)
    rw [List.length_take] at hbd
    have hdl : (l'.drop n).length = l'.length - n := List.length_drop ..
    have hblk := tkBlanks_e b l' p (by omega) (by omega) (by omega) (by omega) (by omega)
    rw [← hn] at hblk heq hnl
    obtain ⟨p1, hp1⟩ : ∃ p1, p1 = advs p (l'.take n) := ⟨_, rfl⟩
    rw [← hp1] at hblk hbd heq
    have hnx := tkNext_e b (l'.drop n) (fun ⟨c, hc, hd⟩ => hA ⟨c, hI.suf c (List.mem_of_mem_drop hc), hd⟩) p1 (by omega)
    have hsk : ∀ k, k ≤ (l'.drop n).length → AFh False Tryz.prog 59 [(0, ptr1 b, .val (ptr1 b)), (1, .int .i64 k, pInt k)] (RdH b (l'.drop n) p1) (fun _ _ h => h = RdH b (l'.drop (n + k)) (advs p (l'.take (n + k)))) := fun k hk => by
     have := tkSkip_e b (l'.drop n) p1 k hk (by omega) (by omega) (by omega) (by omega) (by omega)
     rw [List.drop_drop, hp1, advs_app, ← hp1] at this
     exact this
    refine nav ?_
    (refine aC_region ?_ <;> refine xL 18 q_move ?_ <;> (refine aL_ch [3, 200] 19 (Tryz.call57) hblk (fun v19 p19 h19 hR19 => ?_); subst hR19; dsimp only [RdH]) <;> refine aL_end (nav ?_) <;> try dsimp only)
    (refine aC_region ?_ <;> refine xL 21 q_move ?_ <;> (rcases hlx : lexB (l'.drop n) with ⟨kd, tx, nn, len⟩ | e <;> rw [hlx] at hnx heq <;> dsimp only at heq <;> (refine aL_ch [3, 200] 22 (Tryz.call58) hnx ?_; rintro _ _ _ ⟨⟨V22, rfl⟩, rfl, rfl⟩; dsimp only [RdH, nexV, nexP]) <;> (try (have he0 := lexB_err0 hlx)) <;> (try (have hlo := lexB_ok hlx))) <;> refine xL 20 q_move ?_ <;> refine xL 23 q_extract ?_ <;> refine xL 24 q_extract ?_ <;> refine xL 25 q_extract ?_ <;> refine s_alloc [(.int .i64 0), (.string ByteArray.empty), (.int .i64 0), (.int .i64 0), (.int .i64 0)] 5 7 tZr71_PtV fun h7 => ?_ <;> refine s_sta 7 tAgg71_PtV ?_ <;> refine xL 8 q_assign ?_ <;> refine xL 9 q_assign ?_ <;> refine aL_end (nav ?_) <;> try dsimp only) <;> (
     (refine aC_region ?_ <;> refine xL 26 q_move ?_ <;> (first | refine xL 27 (q_neqB true rfl rfl rfl (decide_eq_true he0)) ?_ | refine xL 27 (q_neqB false) ?_) <;> refine aL_end (nav ?_) <;> try dsimp only)
     (first | refine cCd ?_ ?_ | refine cC ?_ ?_) <;> intro hb27
     · first
       | exact Bool.noConfusion hb27
       | (
        refine nav ?_
        (refine aC_draw (fun i => ([] : List Nat).elem i) [1000] (by kernel_rfl) ?_ <;> refine xD 0 28 rfl q_move ?_ <;> refine xD 1 29 rfl (q_nilo 1000) ?_ <;> refine xD 2 30 rfl (q_fldo 1000 tFl99_1_PtV) ?_ <;> (refine yD 3 31 rfl (q_ldao 1000 tAgg33_PtV) fun v31 hv31 => ?_; cases hv31) <;> refine xD 4 32 rfl q_move ?_ <;> refine xE 5 2 rfl q_assign ?_ <;> (refine aD_one 6 (by kernel_rfl) ?_) <;> (refine aW_run rfl fun w9 M9 N9 DQ back => ?_) <;> refine s_sta 3 tAgg33_PtV ?_ <;> refine aL_end (back _ (nrm ?_)) <;> refine xE 7 4 rfl q_assign ?_ <;> refine aD_end (by kernel_rfl) (nav ?_) <;> try dsimp only)
        refine aR_ent (rslot (t := 2) (p' := .sl 0 []) rfl Rr.nil) fun _ => ?_
        refine ret_3 (Tryz.results37) (.tmp rfl) (.cell (k := 2) 3 (by kernel_rfl) rfl rfl (Nat.le_of_ble_eq_true rfl) (by decide) rfl) (.tmp rfl) ?_
        rw [tokP, if_neg (by omega), ← heq]; rfl)
     · first
       | exact Bool.noConfusion hb27
       | (
        refine nav ?_
        (refine aC_region ?_ <;> refine xL 33 (q_fldo 7 tFl71_0_PtV) ?_ <;> (refine yL 34 (q_ldo 7 tNa3_PtV) fun v34 hv34 => ?_; cases hv34) <;> refine xL 35 q_neq ?_ <;> refine xL 36 q_move ?_ <;> (refine bLd 36 (fun hb36 => ?_) (fun hb36 => ?_) <;> (first | refine kL 37 ?_ | refine xL 37 q_move ?_)) <;> (first | refine kL 38 ?_ | refine xL 38 (q_leno 200 tSl67_PtV) ?_) <;> (first | refine kL 39 ?_ | refine xL 39 q_eql ?_) <;> refine xL 40 q_pick ?_ <;> refine aL_end (nav ?_) <;> try dsimp only) <;> (
         (first | refine cCd ?_ ?_ | refine cC ?_ ?_) <;> intro hb40
         · first
           | exact Bool.noConfusion hb40
           | (
            refine nav ?_
            (refine aC_draw (fun i => ([] : List Nat).elem i) [1000] (by kernel_rfl) ?_ <;> refine xD 0 41 rfl q_move ?_ <;> refine xD 1 42 rfl (q_nilo 1000) ?_ <;> refine xD 2 43 rfl (q_fldo 1000 tFl99_1_PtV) ?_ <;> (refine yD 3 44 rfl (q_ldao 1000 tAgg33_PtV) fun v44 hv44 => ?_; cases hv44) <;> refine xE 4 2 rfl q_assign ?_ <;> (refine aD_one 5 (by kernel_rfl) ?_) <;> (refine aW_run rfl fun w9 M9 N9 DQ back => ?_) <;> refine s_sta 3 tAgg33_PtV ?_ <;> refine aL_end (back _ (nrm ?_)) <;> refine xE 6 4 rfl q_assign ?_ <;> refine aD_end (by kernel_rfl) (nav ?_) <;> try dsimp only)
            refine aR_ent (rslot (t := 2) (p' := .sl 0 []) rfl Rr.nil) fun _ => ?_
            refine ret_3 (Tryz.results37) (.tmp rfl) (.cell (k := 2) 3 (by kernel_rfl) rfl rfl (Nat.le_of_ble_eq_true rfl) (by decide) rfl) (.tmp rfl) ?_
            rw [if_pos ⟨by omega, by omega⟩] at heq
            rw [tokP, if_neg (by omega), ← heq]; rfl)
         · first
           | exact Bool.noConfusion hb40
           | (
            refine nav ?_
            rw [if_neg (by omega)] at heq
            (refine aC_region ?_ <;> refine xL 45 q_move ?_ <;> (refine yL 46 (q_ldao 7 tAgg71_PtV) fun v46 hv46 => ?_; cases hv46) <;> refine s_lit1a 47 tEl67_PtV fun h47 ho47 => ?_ <;> (refine s_app 200 47 48 tEl67_PtV fun h48 ho48 => ?_; refine aL_ent (relabel (l := 48) 200 rfl rfl) fun _ => ?_; refine aL_ent (recast (l := 200) rfl (show PV.own 71 5 (out.length + 1) (cTks out ++ cTk (Tk.mk kd tx nn p1.1 p1.2)) = .own 71 5 (out ++ [Tk.mk kd tx nn p1.1 p1.2]).length (cTks (out ++ [Tk.mk kd tx nn p1.1 p1.2])) by rw [cTks_snoc, List.length_append]; rfl)) fun _ => ?_) <;> refine xL 6 q_assign ?_ <;> refine aL_end (nav ?_) <;> try dsimp only)
            (refine aC_region ?_ <;> refine xL 49 (q_fldo 7 tFl71_0_PtV) ?_ <;> (refine yL 50 (q_ldo 7 tNa3_PtV) fun v50 hv50 => ?_; cases hv50) <;> refine xL 51 q_eql ?_ <;> refine aL_end (nav ?_) <;> try dsimp only)
            (first | refine cCd ?_ ?_ | refine cC ?_ ?_) <;> intro hb51
            · first
              | exact Bool.noConfusion hb51
              | (
               refine nav ?_
               (refine aC_region ?_ <;> refine xL 52 q_move ?_ <;> refine xL 53 (q_build tSt33_PtV) ?_ <;> refine xL 2 q_assign ?_ <;> refine s_sta 3 tAgg33_PtV ?_ <;> refine xL 4 q_assign ?_ <;> refine aL_end (nav ?_) <;> try dsimp only)
               refine aR_ent (En.freeze (l := 200) (t := 2) rfl rfl) fun _ => ?_
               refine ret_3 (Tryz.results37) (.tmp rfl) (.cell (k := 2) 3 (by kernel_rfl) rfl rfl (Nat.le_of_ble_eq_true rfl) (by decide) rfl) (.tmp rfl) ?_
               rw [if_pos (by omega)] at heq
               rw [tokP, if_neg (by omega), ← heq, share_tks _ _ _ rfl]; rfl)
            · first
              | exact Bool.noConfusion hb51
              | (
               rw [if_neg (by omega)] at heq
               have hlne : l'.drop n ≠ [] := fun h => by have := hlo.endk.1 h; omega
               have hl1 := hlo.pos hlne
               have hl2 := hlo.le
               have hbd2 := adv_bd2 ha1 hb1 (l'.take (n + len))
               rw [List.length_take] at hbd2
               refine nav ?_
               (refine aC_region ?_ <;> refine xL 54 q_move ?_ <;> refine xL 55 q_move ?_ <;> (refine aL_ch [3, 7, 200] 56 (Tryz.call59) (hsk len hl2) (fun v56 p56 h56 hR56 => ?_); subst hR56; dsimp only [RdH]) <;> refine aL_end (nav ?_) <;> try dsimp only)
               refine aN_again (
                ⟨((l'.drop (n + len), advs p (l'.take (n + len))), (h48, out ++ [Tk.mk kd tx nn p1.1 p1.2])), ⟨heq, by dsimp only; rw [List.length_drop]; omega, fun c hc => hI.suf c (List.mem_of_mem_drop hc), hbd2.1, by dsimp only; rw [List.length_drop]; omega, hbd2.2.1, by dsimp only; rw [List.length_drop]; omega, by dsimp only; rw [List.length_append, List.length_singleton]; omega⟩, ho48⟩
                ) (by dsimp only; rw [List.length_drop]; omega) ⟨rfl, rfl, rfl, trivial⟩ ⟨rfl, rfl, rfl, trivial⟩))))))
theorem tAgg33_PuS : AggT Tryz.prog 33 2 = true := by kernel_rfl
theorem tAgg71_PuS : AggT Tryz.prog 71 5 = true := by kernel_rfl
theorem tEl67_PuS : ElT Tryz.prog 67 71 5 48 (.agg #[(.int .i64 0), (.string ByteArray.empty), (.int .i64 0), (.int .i64 0), (.int .i64 0)]) := ⟨Tryz.underlying67, by kernel_rfl, rfl, by decide⟩
theorem tFl33_0_PuS : FldT Tryz.prog 33 0 0 = true := by kernel_rfl
theorem tFl33_1_PuS : FldT Tryz.prog 33 1 1 = true := by kernel_rfl
theorem tFl71_3_PuS : FldT Tryz.prog 71 3 3 = true := by kernel_rfl
theorem tNa3_PuS : NoAgg Tryz.prog 3 = true := by kernel_rfl
theorem tSl67_PuS : SlT Tryz.prog 67 71 5 = true := by kernel_rfl
theorem tSq71_PuS : stInfo Tryz.prog 71 = some ((.agg #[(.int .i64 0), (.string ByteArray.empty), (.int .i64 0), (.int .i64 0), (.int .i64 0)]), [(0, 1), (1, 1), (2, 1), (3, 2)]) := by kernel_rfl
theorem tSt33_PuS : stInfo Tryz.prog 33 = some ((.agg #[(.int .i64 0), (.int .i64 0)]), ([0, 1] : List Nat).map fun o => (o, 1)) := by kernel_rfl
theorem tSz3_PuS : (Tryz.prog.info? 3).map (·.size) = some 1 := by kernel_rfl
theorem tZr33_PuS : ZeroT Tryz.prog 33 (.agg #[(.int .i64 0), (.int .i64 0)]) := by unfold ZeroT; kernel_rfl
theorem tZr71_PuS : ZeroT Tryz.prog 71 (.agg #[(.int .i64 0), (.string ByteArray.empty), (.int .i64 0), (.int .i64 0), (.int .i64 0)]) := by unfold ZeroT; kernel_rfl
set_option maxHeartbeats 4000000 in
theorem rkPlace_e (l : List UInt8) (hl : l.length ≤ 16384) (n : Nat) (hn : n ≤ l.length) : AF Tryz.prog 64 [pB l, pInt (n : Int)] (· = .agg [pInt (advs (1, 1) (l.take n)).1, pInt (advs (1, 1) (l.take n)).2]) := by
 have hsz := bst_size l
 refine AF.of_body 26 Tryz.func64 rfl Tryz.ntmps64 (Nat.le_of_ble_eq_true rfl) ?_
 intro w0 M0 vs hl hv
 obtain ⟨v0, v1, rfl⟩ := len2 hl
 obtain rfl := hv 0 _ _ rfl rfl
 obtain rfl := hv 1 _ _ rfl rfl
 clear hl hv
 refine nav ?_
 (refine aC_region ?_ <;> refine s_alloc [(.int .i64 0), (.int .i64 0)] 2 4 tZr33_PuS fun h4 => ?_ <;> refine aL_end (nav ?_) <;> try dsimp only)
 (refine aC_region ?_ <;> refine xL 7 (q_build tSt33_PuS) ?_ <;> refine s_alloc [(.int .i64 0), (.int .i64 0)] 2 5 tZr33_PuS fun h5 => ?_ <;> refine s_sta 5 tAgg33_PuS ?_ <;> refine aL_end (nav ?_) <;> try dsimp only)
 (refine aC_region ?_ <;> refine xL 6 q_assign ?_ <;> refine aL_end (nav ?_) <;> try dsimp only)
 refine aC_loop (ι := { q : Nat × Int × Int // q.1 ≤ n ∧ (q.2.1, q.2.2) = advs (1, 1) (l.take q.1) }) (fun k => ⟨[(0, _, _), (1, _, _), (4, _, _), (5, _, _), (6, .int .i64 k.1.1, pInt k.1.1)], [(4, _, _), (5, h5, .own 33 2 1 [pInt k.1.2.1, pInt k.1.2.2])]⟩) (fun k => n - k.1.1) ⟨(0, 1, 1), Nat.zero_le _, by rw [List.take_zero]; rfl⟩ (fun a w H => H.weaken ⟨rfl, rfl, rfl, rfl, rfl, trivial⟩ ⟨rfl, rfl, trivial⟩) ?_
 rintro ⟨⟨k, a, b⟩, hk, hp⟩
 dsimp only
 dsimp only at hk hp
 refine nav ?_
 (refine aC_region ?_ <;> refine xL 8 q_move ?_ <;> refine xL 9 q_move ?_ <;> refine xL 10 q_lss ?_ <;> refine aL_end (nav ?_) <;> try dsimp only)
 (first | refine cCd ?_ ?_ | refine cC ?_ ?_) <;> intro hb10
 · first
   | exact Bool.noConfusion hb10
   | (
    obtain ⟨d, hdx⟩ := get_byte (show k < l.length by omega)
    have hdy := bst_at hdx
    have hst := advs_step (p := ((1 : Int), (1 : Int))) hdx
    rw [← hp] at hst
    have hbd := adv_bd (p := ((1 : Int), (1 : Int))) (by decide) (by decide) (l.take k)
    rw [← hp] at hbd
    have htl : (l.take k).length = k := by rw [List.length_take]; omega
    rw [htl] at hbd
    dsimp only at hbd
    refine nav ?_
    (refine aC_region ?_ <;> refine xL 13 (q_fldo 5 tFl33_1_PuS) ?_ <;> (refine yL 14 (q_ldo 5 tNa3_PuS) fun v14 hv14 => ?_; cases hv14) <;> refine xL 15 q_add ?_ <;> refine xL 16 (q_fldo 5 tFl33_1_PuS) ?_ <;> refine s_st 5 tNa3_PuS tSz3_PuS ?_ <;> refine aL_end (nav ?_) <;> try dsimp only)
    (refine aC_region ?_ <;> refine xL 17 q_move ?_ <;> refine xL 18 q_move ?_ <;> refine xL 19 (q_index Tryz.underlying9 rfl rfl rfl (by omega) hdy) ?_ <;> refine xL 20 q_eql ?_ <;> refine aL_end (nav ?_) <;> try dsimp only)
    (first | refine cCd ?_ ?_ | refine cC ?_ ?_) <;> intro hb20
    · first
      | exact Bool.noConfusion hb20
      | (
       refine nav ?_
       (refine aC_region ?_ <;> refine xL 21 (q_fldo 5 tFl33_0_PuS) ?_ <;> (refine yL 22 (q_ldo 5 tNa3_PuS) fun v22 hv22 => ?_; cases hv22) <;> refine xL 23 q_add ?_ <;> refine xL 24 (q_build tSt33_PuS) ?_ <;> refine s_sta 5 tAgg33_PuS ?_ <;> refine aL_end (nav ?_) <;> try dsimp only)
       (refine aC_region ?_ <;> refine xL 11 q_move ?_ <;> refine xL 12 q_add ?_ <;> refine xL 6 q_assign ?_ <;> refine aL_end (nav ?_) <;> try dsimp only)
       first
        | (exact aN_again (
            ⟨(k + 1, a + 1, 1), by dsimp only; omega, by dsimp only; rw [hst]; unfold adv; rw [if_pos (by omega)]⟩
            ) (by dsimp only; omega) ⟨rfl, rfl, rfl, rfl, rfl, trivial⟩ ⟨rfl, rfl, trivial⟩)
        | (exact aN_again (
            ⟨(k + 1, a, b + 1), by dsimp only; omega, by dsimp only; rw [hst]; unfold adv; rw [if_neg (by omega)]⟩
            ) (by dsimp only; omega) ⟨rfl, rfl, rfl, rfl, rfl, trivial⟩ ⟨rfl, rfl, trivial⟩))
    · first
      | exact Bool.noConfusion hb20
      | (
       refine nav ?_
       (refine aC_region ?_ <;> refine xL 11 q_move ?_ <;> refine xL 12 q_add ?_ <;> refine xL 6 q_assign ?_ <;> refine aL_end (nav ?_) <;> try dsimp only)
       first
        | (exact aN_again (
            ⟨(k + 1, a + 1, 1), by dsimp only; omega, by dsimp only; rw [hst]; unfold adv; rw [if_pos (by omega)]⟩
            ) (by dsimp only; omega) ⟨rfl, rfl, rfl, rfl, rfl, trivial⟩ ⟨rfl, rfl, trivial⟩)
        | (exact aN_again (
            ⟨(k + 1, a, b + 1), by dsimp only; omega, by dsimp only; rw [hst]; unfold adv; rw [if_neg (by omega)]⟩
            ) (by dsimp only; omega) ⟨rfl, rfl, rfl, rfl, rfl, trivial⟩ ⟨rfl, rfl, trivial⟩)))
 · first
   | exact Bool.noConfusion hb10
   | (
    obtain rfl : k = n := by omega
    refine nav ?_
    (refine aC_region ?_ <;> (refine yL 25 (q_ldao 5 tAgg33_PuS) fun v25 hv25 => ?_; cases hv25) <;> refine s_sta 4 tAgg33_PuS ?_ <;> refine aL_end (nav ?_) <;> try dsimp only)
    refine ret_cell (k := 2) 4 (by kernel_rfl) (Tryz.results64) rfl rfl (Nat.le_of_ble_eq_true rfl) (by decide) rfl ?_
    rw [← hp]; rfl)
theorem q_eqB {P : Program} {st : St} {o : Oper} {x y : Operand} {q q' : PV} {t t' : TypeId} {a b : Int} (B : Bool) (ho : o.op = .binOp .eql t x y t' := by exact rfl) (hx : ev st.slots x = some (.int .i64 a, q) := by exact rfl) (hy : ev st.slots y = some (.int .i64 b, q') := by exact rfl) (hB : decide (a = b) = B := by decide) : YE P st o (· = .bool B) (.val (.bool B)) := by
 subst hB
 exact q_eql ho hx hy
def posB (l : List UInt8) (i : Nat) : Int × Int := advs (1, 1) (l.take i)
def rkR (l : List UInt8) (i : Nat) (out : List Tk) : List Tk × (Int × Int) × Int := match lexB (l.drop i) with
 | .err e => ([], posB l i, e)
 | .ok kd tx n len =>
   if kd ≠ 5 ∧ out.length = 4000 then ([], posB l i, 5)
   else if kd = 5 then (out ++ [⟨kd, tx, n, (posB l i).1, (posB l i).2⟩], (0, 0), 0)
   else toksB (l.drop (i + len)) (posB l (i + len)) (out ++ [⟨kd, tx, n, (posB l i).1, (posB l i).2⟩])
theorem rkR_step (l : List UInt8) (j : Nat) (out : List Tk) : toksB (l.drop j) (posB l j) out = rkR l (j + blkN false (l.drop j)) out := by
 rw [toksB_eq, rkR, List.drop_drop]
 generalize blkN false (l.drop j) = b
 have e : ∀ k, advs (posB l j) ((l.drop j).take k) = posB l (j + k) := fun k => advs_add (1, 1) l j k
 rw [e]
 cases lexB (l.drop (j + b)) with
 | err e => rfl
 | ok kd tx n len =>
   dsimp only
   rw [e, List.drop_drop, Nat.add_assoc]
set_option maxHeartbeats 4000000 in
theorem rkTokens_e (l : List UInt8) (hb : l.length ≤ 1000000000) : AF Tryz.prog 39 [pB l] (· = tokP l) := by
 have hsz := bst_size l
 refine AF.of_body 60 Tryz.func39 rfl Tryz.ntmps39 (Nat.le_of_ble_eq_true rfl) ?_
 intro w0 M0 vs hl hv
 obtain ⟨v0, rfl⟩ := len1 hl
 obtain rfl := hv 0 _ _ rfl rfl
 clear hl hv
 refine nav ?_
 (refine aC_region ?_ <;> refine xL 2 q_assign ?_ <;> refine s_alloc [(.int .i64 0), (.int .i64 0)] 2 3 tZr33_PuS fun h3 => ?_ <;> refine xL 4 q_assign ?_ <;> refine aL_end (nav ?_) <;> try dsimp only)
 (refine aC_region ?_ <;> refine xL 10 q_move ?_ <;> refine xL 11 (q_slen Tryz.underlying9) ?_ <;> refine xL 12 q_gtr ?_ <;> refine aL_end (nav ?_) <;> try dsimp only)
 (first | refine cCd ?_ ?_ | refine cC ?_ ?_) <;> intro hb12
 · first
   | exact Bool.noConfusion hb12
   | (
    refine nav ?_
    (refine aC_region ?_ <;> refine xL 13 (q_build tSt33_PuS) ?_ <;> refine xL 2 q_assign ?_ <;> refine s_sta 3 tAgg33_PuS ?_ <;> refine xL 4 q_assign ?_ <;> refine aL_end (nav ?_) <;> try dsimp only)
    refine aR_ent (rslot (t := 2) (p' := .sl 0 []) rfl Rr.nil) fun _ => ?_
    refine ret_3 (Tryz.results39) (.tmp rfl) (.cell (k := 2) 3 (by kernel_rfl) rfl rfl (Nat.le_of_ble_eq_true rfl) (by decide) rfl) (.tmp rfl) ?_
    rw [tokP, if_pos (by omega)]; rfl)
 · first
   | exact Bool.noConfusion hb12
   | (
    have hl : l.length ≤ 16384 := by omega
    have h0 : rkR l (0 + blkN false (l.drop 0)) [] = toksB l (1, 1) [] := (rkR_step l 0 []).symm
    have hbl := blkN_le (l.drop 0) false
    rw [List.length_drop] at hbl
    have hsk := rkSkip_e l hl 0 (Nat.zero_le _)
    refine nav ?_
    (refine aC_region ?_ <;> refine xL 5 q_assign ?_ <;> refine aL_end (nav ?_) <;> try dsimp only)
    (refine aC_region ?_ <;> refine xL 14 q_move ?_ <;> (refine cS 15 (cA Tryz.call62 (hsk)) fun v15 hv15 => ?_; cases hv15) <;> refine xL 6 q_assign ?_ <;> refine aL_end (nav ?_) <;> try dsimp only)
    refine aC_ent (nilOwn 200 71 5 rfl) fun _ => ?_
    refine aC_loop (ι := { q : Nat × Value × List Tk // q.1 ≤ l.length ∧ q.2.2.length ≤ 4000 ∧ q.2.1.oneCell' = true ∧ rkR l q.1 q.2.2 = toksB l (1, 1) [] }) (fun k => ⟨[(0, _, _), (3, _, _), (6, .int .i64 k.1.1, pInt k.1.1), (5, k.1.2.1, .val k.1.2.1)], [(3, _, _), (200, k.1.2.1, .own 71 5 k.1.2.2.length (cTks k.1.2.2))]⟩) (fun k => l.length - k.1.1) ⟨(0 + blkN false (l.drop 0), .slice none 0 0, []), by dsimp only; omega, Nat.zero_le _, rfl, h0⟩ (fun a w H => H.weaken ⟨rfl, rfl, rfl, rfl, trivial⟩ ⟨rfl, rfl, trivial⟩) ?_
    rintro ⟨⟨i, ov, out⟩, hi, hol, hov, hR⟩
    dsimp only
    dsimp only at hi hol hov hR; have hone : En.one (PV.val ov) = true := hov
    refine nav ?_
    (refine aC_region ?_ <;> refine xL 16 q_move ?_ <;> refine xL 17 q_move ?_ <;> refine xL 18 (q_slen Tryz.underlying9) ?_ <;> refine xL 19 q_lss ?_ <;> refine aL_end (nav ?_) <;> try dsimp only)
    (first | refine cCd ?_ ?_ | refine cC ?_ ?_) <;> intro hb19
    · first
      | exact Bool.noConfusion hb19
      | (
       have hT := rkToken_e l hl i (by omega)
       have hP := rkPlace_e l hl i hi
       have hdl : (l.drop i).length = l.length - i := List.length_drop
       have hne : l.drop i ≠ [] := fun h => by rw [h] at hdl; simp only [List.length_nil] at hdl; omega
       have hpd : advs (1, 1) (l.take i) = posB l i := rfl
       rw [hpd] at hP
       rw [rkR] at hR
       refine nav ?_
       (refine aC_region ?_ <;> refine xL 21 q_move ?_ <;> refine xL 22 q_move ?_ <;> (rcases hlx : lexB (l.drop i) with ⟨kd, tx, nn, len⟩ | e <;> rw [hlx] at hT hR <;> dsimp only at hR <;> dsimp only [rtX] at hT <;> (refine cPx3 23 (cA (Tryz.call63) hT) fun va23 vb23 vc23 hva23 hvb23 hvc23 => ?_; cases hvb23; cases hvc23) <;> (try (have he0 := lexB_err0 hlx)) <;> (try (have hlo := lexB_ok hlx))) <;> refine xL 20 q_move ?_ <;> refine xL 24 q_extract ?_ <;> refine xL 25 q_extract ?_ <;> refine xL 26 q_extract ?_ <;> refine s_alloc [(.int .i64 0), (.string ByteArray.empty), (.int .i64 0), (.int .i64 0), (.int .i64 0)] 5 7 tZr71_PuS fun h7 => ?_ <;> refine s_sta 7 tAgg71_PuS ?_ <;> refine xL 8 q_assign ?_ <;> refine xL 9 q_assign ?_ <;> refine aL_end (nav ?_) <;> try dsimp only) <;> (
        (refine aC_region ?_ <;> refine xL 27 q_move ?_ <;> (first | refine xL 28 (q_eqB false rfl rfl rfl (decide_eq_false he0)) ?_ | refine xL 28 (q_eqB true) ?_) <;> refine xL 29 q_move ?_ <;> (first | refine kL 30 ?_ | refine xL 30 q_move ?_) <;> (first | refine kL 31 ?_ | refine xL 31 (q_leno 200 tSl67_PuS) ?_) <;> (first | refine kL 32 ?_ | refine xL 32 q_eql ?_) <;> refine xL 33 q_pick ?_ <;> refine aL_end (nav ?_) <;> try dsimp only) <;> (
         (first | refine cCd ?_ ?_ | refine cC ?_ ?_) <;> intro hb33
         · first
           | exact Bool.noConfusion hb33
           | (
            refine nav ?_
            (refine aC_region ?_ <;> refine xL 9 q_assign ?_ <;> refine aL_end (nav ?_) <;> try dsimp only)
            (refine aC_region ?_ <;> refine xL 34 q_move ?_ <;> refine xL 35 (q_neqB true) ?_ <;> refine aL_end (nav ?_) <;> try dsimp only)
            (first | refine cCd ?_ ?_ | refine cC ?_ ?_) <;> intro hb35
            · first
              | exact Bool.noConfusion hb35
              | (
               refine nav ?_
               (refine aC_region ?_ <;> refine xL 36 q_move ?_ <;> refine xL 37 q_move ?_ <;> (refine cD 38 (cA Tryz.call64 (hP)) fun v38 hv38 => ?_; clear hv38) <;> refine xL 39 q_move ?_ <;> refine xL 2 q_assign ?_ <;> refine s_sta 3 tAgg33_PuS ?_ <;> refine xL 4 q_assign ?_ <;> refine aL_end (nav ?_) <;> try dsimp only)
               refine aR_ent (rslot (t := 2) (p' := .sl 0 []) rfl Rr.nil) fun _ => ?_
               refine ret_3 (Tryz.results39) (.tmp rfl) (.cell (k := 2) 3 (by kernel_rfl) rfl rfl (Nat.le_of_ble_eq_true rfl) (by decide) rfl) (.tmp rfl) ?_
               first
                | (rw [tokP, if_neg (by omega), ← hR]; rfl)
                | (rw [if_pos ⟨fun h => hne (hlo.endk.2 h), by omega⟩] at hR
                   rw [tokP, if_neg (by omega), ← hR]; rfl))
            · first
              | exact Bool.noConfusion hb35
              | skip)
         · first
           | exact Bool.noConfusion hb33
           | (
            refine nav ?_
            (refine aC_region ?_ <;> refine xL 34 q_move ?_ <;> (first | refine xL 35 (q_neqB true rfl rfl rfl (decide_eq_true he0)) ?_ | refine xL 35 (q_neqB false) ?_) <;> refine aL_end (nav ?_) <;> try dsimp only)
            (first | refine cCd ?_ ?_ | refine cC ?_ ?_) <;> intro hb35
            · first
              | exact Bool.noConfusion hb35
              | (
               refine nav ?_
               (refine aC_region ?_ <;> refine xL 36 q_move ?_ <;> refine xL 37 q_move ?_ <;> (refine cD 38 (cA Tryz.call64 (hP)) fun v38 hv38 => ?_; clear hv38) <;> refine xL 39 q_move ?_ <;> refine xL 2 q_assign ?_ <;> refine s_sta 3 tAgg33_PuS ?_ <;> refine xL 4 q_assign ?_ <;> refine aL_end (nav ?_) <;> try dsimp only)
               refine aR_ent (rslot (t := 2) (p' := .sl 0 []) rfl Rr.nil) fun _ => ?_
               refine ret_3 (Tryz.results39) (.tmp rfl) (.cell (k := 2) 3 (by kernel_rfl) rfl rfl (Nat.le_of_ble_eq_true rfl) (by decide) rfl) (.tmp rfl) ?_
               first
                | (rw [tokP, if_neg (by omega), ← hR]; rfl)
                | (rw [if_pos ⟨fun h => hne (hlo.endk.2 h), by omega⟩] at hR
                   rw [tokP, if_neg (by omega), ← hR]; rfl))
            · first
              | exact Bool.noConfusion hb35
              | (
               refine nav ?_
               have hk5 : kd ≠ 5 := fun h => hne (hlo.endk.2 h)
               rw [if_neg (fun h => by omega), if_neg hk5] at hR
               have hln := hlo.pos hne
               have hle := hlo.le
               rw [hdl] at hle
               have hsk := rkSkip_e l hl (i + len) (by omega)
               have hbl := blkN_le (l.drop (i + len)) false
               rw [List.length_drop] at hbl
               rw [rkR_step] at hR
               (refine aC_region ?_ <;> refine xL 40 q_move ?_ <;> refine xL 41 q_move ?_ <;> (refine cD 42 (cA Tryz.call64 (hP)) fun v42 hv42 => ?_; clear hv42) <;> refine xL 43 (q_fldo 7 tFl71_3_PuS) ?_ <;> refine s_sta 7 tAgg33_PuS ?_ <;> refine aL_end (nav ?_) <;> try dsimp only)
               (refine aC_region ?_ <;> refine xL 44 q_move ?_ <;> (refine yL 45 (q_ldao 7 tAgg71_PuS) fun v45 hv45 => ?_; cases hv45) <;> refine s_lit1a 46 tEl67_PuS fun h46 ho46 => ?_ <;> (refine s_app 200 46 47 tEl67_PuS fun h47 ho47 => ?_; refine aL_ent (relabel (l := 47) 200 rfl rfl) fun _ => ?_; refine aL_ent (recast (l := 200) rfl (show PV.own 71 5 (out.length + 1) (cTks out ++ cTk (Tk.mk kd tx nn (posB l i).1 (posB l i).2)) = .own 71 5 (out ++ [Tk.mk kd tx nn (posB l i).1 (posB l i).2]).length (cTks (out ++ [Tk.mk kd tx nn (posB l i).1 (posB l i).2])) by rw [cTks_snoc, List.length_append]; rfl)) fun _ => ?_) <;> refine xL 5 q_assign ?_ <;> refine aL_end (nav ?_) <;> try dsimp only)
               (refine aC_region ?_ <;> refine xL 48 q_move ?_ <;> refine xL 49 q_move ?_ <;> (refine cS 50 (cA Tryz.call62 (hsk)) fun v50 hv50 => ?_; cases hv50) <;> refine xL 6 q_assign ?_ <;> refine aL_end (nav ?_) <;> try dsimp only)
               refine aN_again (
                ⟨(i + len + blkN false (l.drop (i + len)), h47, out ++ [Tk.mk kd tx nn (posB l i).1 (posB l i).2]), by dsimp only; omega, by dsimp only; rw [List.length_append, List.length_singleton]; omega, ho47, hR⟩
                ) (by dsimp only; omega) ⟨rfl, rfl, rfl, rfl, trivial⟩ ⟨rfl, rfl, trivial⟩)))))
    · first
      | exact Bool.noConfusion hb19
      | (
       have hP := rkPlace_e l hl l.length (Nat.le_refl _)
       have hil : i = l.length := by omega
       have hpd : advs (1, 1) (l.take l.length) = posB l i := by rw [hil]; rfl
       rw [hpd] at hP
       have hR' : rkR l i out = (out ++ [⟨5, [], 0, (posB l i).1, (posB l i).2⟩], (0, 0), 0) := by
        rw [rkR, List.drop_of_length_le (by omega), lexB]
        dsimp only
        rw [if_neg (fun h => h.1 rfl), if_pos rfl]
       rw [hR'] at hR
       refine nav ?_
       (refine aC_region ?_ <;> refine xL 51 q_move ?_ <;> refine xL 52 q_move ?_ <;> refine xL 53 q_move ?_ <;> refine xL 54 (q_slen Tryz.underlying9) ?_ <;> (refine cD 55 (cA Tryz.call64 (hP)) fun v55 hv55 => ?_; clear hv55) <;> (refine yL 56 (q_buildM tSq71_PuS) fun v56 hv56 => ?_; cases hv56) <;> refine s_lit1a 57 tEl67_PuS fun h57 ho57 => ?_ <;> (refine s_app 200 57 58 tEl67_PuS fun h58 ho58 => ?_; refine aL_ent (relabel (l := 58) 200 rfl rfl) fun _ => ?_; refine aL_ent (recast (l := 200) rfl (show PV.own 71 5 (out.length + 1) (cTks out ++ cTk (Tk.mk 5 [] 0 (posB l i).1 (posB l i).2)) = .own 71 5 (out ++ [Tk.mk 5 [] 0 (posB l i).1 (posB l i).2]).length (cTks (out ++ [Tk.mk 5 [] 0 (posB l i).1 (posB l i).2])) by rw [cTks_snoc, List.length_append]; rfl)) fun _ => ?_) <;> refine xL 59 (q_build tSt33_PuS) ?_ <;> refine xL 2 q_assign ?_ <;> refine s_sta 3 tAgg33_PuS ?_ <;> refine xL 4 q_assign ?_ <;> refine aL_end (nav ?_) <;> try dsimp only)
       refine aR_ent (En.freeze (l := 200) (t := 2) rfl rfl) fun _ => ?_
       refine ret_3 (Tryz.results39) (.tmp rfl) (.cell (k := 2) 3 (by kernel_rfl) rfl rfl (Nat.le_of_ble_eq_true rfl) (by decide) rfl) (.tmp rfl) ?_
       rw [tokP, if_neg (by omega), ← hR, share_tks _ _ _ rfl]; rfl))
theorem toksB_tok {l : List UInt8} {p : Int × Int} {out : List Tk} {kd : Int} {tx : List UInt8} {n : Int} {len : Nat} (hb : blkN false l = 0) (h : lexB l = .ok kd tx n len) (h5 : kd ≠ 5) (ho : out.length < 4000) : toksB l p out = toksB (l.drop len) (advs p (l.take len)) (out ++ [⟨kd, tx, n, p.1, p.2⟩]) := by
 rw [toksB_eq, hb, List.drop_zero, h]
 simp only
 rw [if_neg (by omega), if_neg h5, Nat.zero_add, List.take_zero]
 rfl
theorem toksB_blank (r : List UInt8) (p : Int × Int) (out : List Tk) : toksB (32 :: r) p out = toksB r (adv p 32) out := by
 rw [toksB_eq, toksB_eq r]
 have e : blkN false (32 :: r) = 1 + blkN false r := by rw [blkN, if_pos (by decide)]
 have e2 : ∀ k, (32 :: r).drop (1 + k) = r.drop k := fun k => by rw [Nat.add_comm, List.drop_succ_cons]
 have e3 : ∀ k, advs p ((32 :: r).take (1 + k)) = advs (adv p 32) (r.take k) := fun k => by rw [Nat.add_comm, List.take_succ_cons]; rfl
 rw [e, e2, e3]
 cases lexB (r.drop (blkN false r)) with
 | err e => rfl
 | ok kd tx n len => simp only; rw [Nat.add_assoc, e2, e3]
theorem tw_all {q : UInt8 → Bool} : ∀ {n r : List UInt8}, (∀ c ∈ n, q c = true) → (∀ c ∈ r.head?, q c = false) → (n ++ r).takeWhile q = n
 | [], [], _, _ => rfl
 | [], c :: r, _, h => by rw [List.nil_append, List.takeWhile_cons, h c rfl]; rfl
 | c :: n, r, h1, h2 => by
   rw [List.cons_append, List.takeWhile_cons, h1 c (by simp)]
   simp only [if_true]
   rw [tw_all (fun d hd => h1 d (by simp [hd])) h2]
theorem lex_name {a : ByteArray} (ha : isName a = true) {r : List UInt8} (hr : ∀ c ∈ r.head?, isPB c = false) : lexB (a.data.toList ++ r) = .ok 1 a.data.toList 0 a.data.toList.length ∧ blkN false (a.data.toList ++ r) = 0 := by
 unfold isName at ha
 simp only [Bool.and_eq_true, decide_eq_true_eq, List.all_eq_true] at ha
 obtain ⟨⟨⟨h1, h2⟩, h3⟩, h4⟩ := ha
 have hs : a.data.toList.length = a.size := Array.length_toList
 have h0 : a.data[0]? = a.data.toList[0]? := by simp
 rw [h0] at h3
 have htw : (a.data.toList ++ r).takeWhile isPB = a.data.toList := tw_all (fun c hc => h4 c hc) hr
 cases hd : a.data.toList with
 | nil => rw [hd] at hs; simp at hs; omega
 | cons c m =>
   rw [hd] at h3 htw hs
   have hl : isLB c = true := h3
   refine ⟨?_, ?_⟩
   · rw [List.cons_append] at htw ⊢
     rw [lexB, if_pos hl, htw, if_neg (by omega)]
   · rw [List.cons_append]
     have : (c.toNat : Int) ≥ 65 := by
      unfold isLB letterB at hl
      simp only [Bool.or_eq_true, Bool.and_eq_true, decide_eq_true_eq] at hl
      omega
     refine blkN_not ?_ (by omega)
     unfold isBB
     simp only [Bool.or_eq_false_iff, beq_eq_false_iff_ne]
     omega
theorem lex_sym {c : UInt8} (hc : c = 40 ∨ c = 41 ∨ c = 44) (r : List UInt8) : lexB (c :: r) = .ok 4 [c] 0 1 ∧ blkN false (c :: r) = 0 := by
 rcases hc with rfl | rfl | rfl <;> refine ⟨?_, blkN_not (by decide) (by decide)⟩ <;> rw [lexB, if_neg (by decide), if_neg (by decide), if_neg (by decide)] <;> simp [symB, syms, List.isPrefixOf]
def tkP (t : Tk) : Int × List UInt8 := (t.kind, t.text)
def comS : List (List (Int × List UInt8)) → List (Int × List UInt8)
 | [] => []
 | [x] => x
 | x :: y :: m => x ++ [(4, [44])] ++ comS (y :: m)
mutual
def tkS : Nd → List (Int × List UInt8)
 | .mk o a l => if o = 1 then [(1, a.data.toList)] else if o = 2 then [(4, [40]), (4, [41])] else [(1, (wordT o).data.toList), (4, [40])] ++ comS (tkSL l) ++ [(4, [41])]
def tkSL : List Nd → List (List (Int × List UInt8))
 | [] => []
 | x :: l => tkS x :: tkSL l
end
theorem word_name (o : Int) : isName (wordT o) = true := by
 unfold wordT
 split
 · decide
 · split
   · decide
   · split <;> decide
def Lexes (tx : List UInt8) (ks : List (Int × List UInt8)) : Prop := ∀ (r : List UInt8) (p : Int × Int) (out : List Tk), (∀ c ∈ r.head?, isPB c = false) → out.length + ks.length ≤ 4000 → ∃ p' toks, toksB (tx ++ r) p out = toksB r p' (out ++ toks) ∧ toks.map tkP = ks
theorem Lexes.name {a : ByteArray} (ha : isName a = true) : Lexes a.data.toList [(1, a.data.toList)] := fun r p out hr ho => by
 obtain ⟨h1, h2⟩ := lex_name ha hr
 refine ⟨advs p a.data.toList, [⟨1, a.data.toList, 0, p.1, p.2⟩], ?_, rfl⟩
 rw [toksB_tok h2 h1 (by decide) (by simp only [List.length_cons, List.length_nil] at ho; omega), List.drop_left, List.take_left]
theorem Lexes.sym' {c : UInt8} (hc : c = 40 ∨ c = 41 ∨ c = 44) (r : List UInt8) (p : Int × Int) (out : List Tk) (ho : out.length + 1 ≤ 4000) : ∃ p' toks, toksB (c :: r) p out = toksB r p' (out ++ toks) ∧ toks.map tkP = [(4, [c])] := by
 obtain ⟨h1, h2⟩ := lex_sym hc r
 exact ⟨_, [⟨4, [c], 0, p.1, p.2⟩], by rw [toksB_tok h2 h1 (by decide) (by omega)]; rfl, rfl⟩
theorem npb : ∀ c : UInt8, c = 40 ∨ c = 41 ∨ c = 44 → isPB c = false := by rintro c (rfl | rfl | rfl) <;> decide
theorem lexes_com : ∀ (l : List Nd), (∀ x ∈ l, Lexes (textT x) (tkS x)) → l ≠ [] → ∀ (c : UInt8) (r : List UInt8) (p : Int × Int) (out : List Tk), (c = 40 ∨ c = 41 ∨ c = 44) → out.length + (comS (tkSL l)).length ≤ 4000 → ∃ p' toks, toksB (comB (textL l) ++ c :: r) p out = toksB (c :: r) p' (out ++ toks) ∧ toks.map tkP = comS (tkSL l)
 | [], _, h => absurd rfl h
 | [x], hx, _ => fun c r p out hc ho => by
   simp only [textL, tkSL, comB, comS] at ho ⊢
   exact hx x (by simp) (c :: r) p out (fun d hd => by simp at hd; subst hd; exact npb _ hc) ho
 | x :: y :: l, hx, _ => fun c r p out hc ho => by
   have ih := lexes_com (y :: l) (fun z hz => hx z (List.mem_cons_of_mem _ hz)) (by simp)
   simp only [textL, tkSL] at ho ih ⊢
   rw [comB, comS] at *
   rw [List.length_append, List.length_append, List.length_cons, List.length_nil] at ho
   obtain ⟨p1, t1, h1, e1⟩ := hx x (by simp) ([44, 32] ++ comB (textT y :: textL l) ++ c :: r) p out (fun d hd => by simp at hd; subst hd; exact npb _ (.inr (.inr rfl))) (by omega)
   have l1 : t1.length = (tkS x).length := by rw [← e1, List.length_map]
   obtain ⟨p2, t2, h2, e2⟩ := Lexes.sym' (c := 44) (.inr (.inr rfl)) (32 :: (comB (textT y :: textL l) ++ c :: r)) p1 (out ++ t1) (by rw [List.length_append]; omega)
   have l2 : t2.length = 1 := by have := congrArg List.length e2; simpa using this
   obtain ⟨p3, t3, h3, e3⟩ := ih c r (adv p2 32) (out ++ t1 ++ t2) hc (by rw [List.length_append, List.length_append]; omega)
   refine ⟨p3, t1 ++ t2 ++ t3, ?_, by rw [List.map_append, List.map_append, e1, e2, e3]⟩
   rw [show textT x ++ [44, 32] ++ comB (textT y :: textL l) ++ c :: r = textT x ++ ([44, 32] ++ comB (textT y :: textL l) ++ c :: r) by simp only [List.append_assoc], h1]
   rw [show [44, 32] ++ comB (textT y :: textL l) ++ c :: r = 44 :: 32 :: (comB (textT y :: textL l) ++ c :: r) by simp only [List.cons_append, List.nil_append], h2, toksB_blank, h3]
   simp only [List.append_assoc]
theorem lexes_tree : ∀ t : Nd, okT t = true → Lexes (textT t) (tkS t) := Nd.ind fun o a l ih hok r p out hr ho => by
 obtain ⟨hrt, hp⟩ := okT_iff.1 hok
 have hp : ∀ x ∈ l, okT x = true := hp
 have hops : o = 1 ∨ o = 2 ∨ o = 3 ∨ o = 4 ∨ o = 5 ∨ o = 6 := right_ops hrt
 rw [textT]
 rw [tkS] at ho ⊢
 by_cases h1 : o = 1
 · subst h1
   simp only [if_true] at ho ⊢
   unfold rightT at hrt
   simp [Nd.op, Nd.l, Nd.act] at hrt
   exact Lexes.name hrt.2 r p out hr ho
 · rw [if_neg h1] at ho ⊢
   rw [if_neg h1]
   by_cases h2 : o = 2
   · rw [if_pos h2] at ho ⊢
     rw [if_pos h2]
     simp only [List.length_cons, List.length_nil] at ho
     obtain ⟨p1, t1, g1, e1⟩ := Lexes.sym' (c := 40) (.inl rfl) (41 :: r) p out (by omega)
     have l1 : t1.length = 1 := by have := congrArg List.length e1; simpa using this
     obtain ⟨p2, t2, g2, e2⟩ := Lexes.sym' (c := 41) (.inr (.inl rfl)) r p1 (out ++ t1) (by rw [List.length_append]; omega)
     exact ⟨p2, t1 ++ t2, by rw [show [40, 41] ++ r = (40 : UInt8) :: 41 :: r from rfl, g1, g2, List.append_assoc], by rw [List.map_append, e1, e2]; rfl⟩
   · rw [if_neg h2] at ho ⊢
     rw [if_neg h2]
     have hne : l ≠ [] := by
      rintro rfl
      rcases hops with h | h | h | h | h | h
      · exact h1 h
      · exact h2 h
      all_goals
       subst h
       unfold rightT at hrt
       simp [Nd.op, Nd.l, Nd.act] at hrt
     simp only [List.length_append, List.length_cons, List.length_nil] at ho
     obtain ⟨p1, t1, g1, e1⟩ := Lexes.name (word_name o) (40 :: (comB (textL l) ++ 41 :: r)) p out (fun d hd => by simp at hd; subst hd; exact npb _ (.inl rfl)) (by simp only [List.length_cons, List.length_nil]; omega)
     have l1 : t1.length = 1 := by have := congrArg List.length e1; simpa using this
     obtain ⟨p2, t2, g2, e2⟩ := Lexes.sym' (c := 40) (.inl rfl) (comB (textL l) ++ 41 :: r) p1 (out ++ t1) (by rw [List.length_append]; omega)
     have l2 : t2.length = 1 := by have := congrArg List.length e2; simpa using this
     obtain ⟨p3, t3, g3, e3⟩ := lexes_com l (fun x hx => ih x hx (hp x hx)) hne 41 r p2 (out ++ t1 ++ t2) (.inr (.inl rfl)) (by rw [List.length_append, List.length_append]; omega)
     have l3 : t3.length = (comS (tkSL l)).length := by rw [← e3, List.length_map]
     obtain ⟨p4, t4, g4, e4⟩ := Lexes.sym' (c := 41) (.inr (.inl rfl)) r p3 (out ++ t1 ++ t2 ++ t3) (by rw [List.length_append, List.length_append, List.length_append]; omega)
     refine ⟨p4, t1 ++ t2 ++ t3 ++ t4, ?_, by rw [List.map_append, List.map_append, List.map_append, e1, e2, e3, e4]; rfl⟩
     rw [show (wordT o).data.toList ++ [40] ++ comB (textL l) ++ [41] ++ r = (wordT o).data.toList ++ 40 :: (comB (textL l) ++ 41 :: r) by simp only [List.append_assoc, List.cons_append, List.nil_append], g1, g2, g3, g4]
     simp only [List.append_assoc]
theorem opOf_word {o : Int} (h : o = 3 ∨ o = 4 ∨ o = 5 ∨ o = 6) : opOf (wordT o).data.toList = o := by
 rcases h with rfl | rfl | rfl | rfl <;> decide
theorem isSy_of {t : Tk} {m : List Tk} {s : List UInt8} (h : tkP t = (4, s)) : isSy (t :: m) s = true := by
 have h1 : t.kind = 4 := congrArg Prod.fst h
 have h2 : t.text = s := congrArg Prod.snd h
 simp [isSy, h1, h2]
theorem isSy_no {t : Tk} {m : List Tk} {s : List UInt8} (h : tkP t ≠ (4, s)) : isSy (t :: m) s = false := by
 unfold isSy
 rw [Bool.and_eq_false_iff]
 by_cases h4 : t.kind = 4
 · right
   rw [beq_eq_false_iff_ne]
   intro e
   exact h (by unfold tkP; rw [h4, e])
 · left; rw [decide_eq_false h4]
def Reads (ks : List (Int × List UInt8)) (x : Nd) : Prop := ∀ (toks m : List Tk) (f : Nat), toks.map tkP = ks → isSy m [40] = false → ks.length < f → rdT f (toks ++ m) = .ok x m
theorem map_cons {α β : Type} {g : α → β} {l : List α} {b : β} {m : List β} (h : l.map g = b :: m) : ∃ a l', l = a :: l' ∧ g a = b ∧ l'.map g = m := by
 cases l with
 | nil => cases h
 | cons a l' => rw [List.map_cons, List.cons.injEq] at h; exact ⟨a, l', rfl, h.1, h.2⟩
theorem map_app {α β : Type} {g : α → β} {l : List α} {m n : List β} (h : l.map g = m ++ n) : ∃ a b, l = a ++ b ∧ a.map g = m ∧ b.map g = n := List.map_eq_append_iff.1 h
theorem comS_cons (x : List (Int × List UInt8)) (y : List (Int × List UInt8)) (m : List (List (Int × List UInt8))) : comS (x :: y :: m) = x ++ (4, [44]) :: comS (y :: m) := by rw [comS]; simp
theorem reads_rest : ∀ (l : List Nd), (∀ x ∈ l, Reads (tkS x) x) → ∀ (op : Int) (d : List Nd) (toks m : List Tk) (f : Nat), (op = 6 → d.length + l.length = 2) → toks.map tkP = (l.flatMap fun x => (4, [44]) :: tkS x) ++ [(4, [41])] → toks.length < f → rdL f op d (toks ++ m) = .ok (.mk op ByteArray.empty (d ++ l)) m
 | [], _, op, d, toks, m, f, h6, ht, hf => by
   rw [List.flatMap_nil, List.nil_append] at ht
   obtain ⟨t, t', rfl, e1, e2⟩ := map_cons ht
   obtain rfl : t' = [] := List.map_eq_nil_iff.1 e2
   cases f with
   | zero => simp at hf
   | succ f =>
     rw [rdL, List.append_nil]
     have h44 : isSy (t :: m) [44] = false := isSy_no (by rw [e1]; simp)
     have h41 : isSy (t :: m) [41] = true := isSy_of e1
     simp only [List.cons_append, List.nil_append, h44, h41, if_true, List.tail_cons]
     rw [if_neg]
     rintro (⟨h, h'⟩ | ⟨_, h⟩)
     · have := h6 h; simp at this; omega
     · cases h
 | x :: l, hx, op, d, toks, m, f, h6, ht, hf => by
   rw [List.flatMap_cons, List.cons_append, List.cons_append] at ht
   obtain ⟨t, t1, rfl, e1, e2⟩ := map_cons ht
   rw [List.append_assoc] at e2
   obtain ⟨a, b, rfl, e3, e4⟩ := map_app e2
   cases f with
   | zero => simp at hf
   | succ f =>
     simp only [List.length_cons, List.length_append] at hf
     have h44 : isSy (t :: (a ++ b) ++ m) [44] = true := isSy_of e1
     have hb : isSy (b ++ m) [40] = false := by
      cases b with
      | nil => cases l <;> simp at e4
      | cons b0 b1 =>
        refine isSy_no ?_
        cases l with
        | nil => simp only [List.flatMap_nil, List.nil_append, List.map_cons, List.cons.injEq] at e4; rw [e4.1]; simp
        | cons y l => simp only [List.flatMap_cons, List.cons_append, List.map_cons, List.cons.injEq] at e4; rw [e4.1]; simp
     have hr := hx x (by simp) a (b ++ m) f e3 hb (by rw [← e3, List.length_map]; omega)
     rw [rdL, if_pos, if_pos h44]
     · simp only [List.cons_append, List.tail_cons, List.append_assoc]
       rw [hr]
       simp only
       rw [reads_rest l (fun y hy => hx y (List.mem_cons_of_mem _ hy)) op (d ++ [x]) b m f (fun h => by have := h6 h; simp only [List.length_append, List.length_cons, List.length_nil] at this ⊢; omega) e4 (by omega)]
       simp only [List.append_assoc, List.cons_append, List.nil_append]
     · by_cases h : op = 6
       · left; have := h6 h; simp only [List.length_cons] at this; exact ⟨h, by omega⟩
       · exact .inr ⟨h, h44⟩
theorem comS_flat (x : List (Int × List UInt8)) : ∀ l : List Nd, comS (x :: tkSL l) = x ++ l.flatMap fun y => (4, [44]) :: tkS y
 | [] => by simp [comS, tkSL]
 | y :: l => by rw [tkSL, comS_cons, comS_flat (tkS y) l, List.flatMap_cons]; simp
theorem reads_tree : ∀ t : Nd, okT t = true → Reads (tkS t) t := Nd.ind fun o a l ih hok toks m f ht hm hf => by
 obtain ⟨hrt, hp⟩ := okT_iff.1 hok
 have hp : ∀ x ∈ l, okT x = true := hp
 have hops : o = 1 ∨ o = 2 ∨ o = 3 ∨ o = 4 ∨ o = 5 ∨ o = 6 := right_ops hrt
 cases f with
 | zero => omega
 | succ f =>
   rw [tkS] at ht hf
   by_cases h1 : o = 1
   · subst h1
     simp only [if_true] at ht
     unfold rightT at hrt
     simp [Nd.op, Nd.l, Nd.act] at hrt
     obtain ⟨hl, hn⟩ := hrt
     subst hl
     obtain ⟨t, t', rfl, e1, e2⟩ := map_cons ht
     obtain rfl : t' = [] := List.map_eq_nil_iff.1 e2
     have h40 : isSy (t :: m) [40] = false := isSy_no (by rw [e1]; simp)
     unfold tkP at e1
     cases ht2 : t with
     | mk kind text n ln col =>
       rw [ht2] at e1 h40
       cases e1
       simp only [List.cons_append, List.nil_append]
       rw [rdT]
       simp only
       rw [h40, hm, bst_eta]
       simp
   · rw [if_neg h1] at ht hf
     by_cases h2 : o = 2
     · subst h2
       simp only [if_true] at ht
       unfold rightT at hrt
       simp [Nd.op, Nd.l, Nd.act] at hrt
       obtain ⟨hl, hn⟩ := hrt
       subst hl
       obtain rfl : a = ByteArray.empty := of_decide_eq_true hn
       obtain ⟨t, t', rfl, e1, e2⟩ := map_cons ht
       obtain ⟨u, u', rfl, e3, e4⟩ := map_cons e2
       obtain rfl : u' = [] := List.map_eq_nil_iff.1 e4
       simp only [List.cons_append, List.nil_append]
       rw [rdT]
       try simp only
       rw [isSy_of e1, isSy_of e3]
       rfl
     · rw [if_neg h2] at ht hf
       have hact : a = ByteArray.empty ∧ l ≠ [] ∧ (o = 6 → l.length = 2) := by
        rcases hops with h | h | h | h | h | h
        · exact absurd h h1
        · exact absurd h h2
        all_goals
         subst h
         unfold rightT at hrt
         simp [Nd.op, Nd.l, Nd.act] at hrt
         refine ⟨of_decide_eq_true hrt.2, ?_, ?_⟩
        · exact hrt.1
        · intro h; omega
        · exact hrt.1
        · intro h; omega
        · exact hrt.1
        · intro h; omega
        · intro h; have := of_decide_eq_true hrt.1; rw [h] at this; simp at this
        · intro h; exact of_decide_eq_true hrt.1
       obtain ⟨rfl, hne, h6⟩ := hact
       cases l with
       | nil => exact absurd rfl hne
       | cons x l =>
         rw [tkSL, comS_flat] at ht hf
         simp only [List.cons_append, List.nil_append, List.append_assoc] at ht
         obtain ⟨t, t1, rfl, e1, e2⟩ := map_cons ht
         obtain ⟨u, t2, rfl, e3, e4⟩ := map_cons e2
         obtain ⟨b, c, rfl, e5, e6⟩ := map_app e4
         have h40 : isSy (t :: u :: (b ++ c) ++ m) [40] = false := isSy_no (by rw [e1]; simp)
         have h40' : isSy (u :: (b ++ c) ++ m) [40] = true := isSy_of e3
         have hk : t.kind = 1 := congrArg Prod.fst e1
         have htx : t.text = (wordT o).data.toList := congrArg Prod.snd e1
         have hop : opOf t.text = o := by rw [htx]; exact opOf_word (by omega)
         have hlen : (b ++ c).length + 2 < f + 1 := by
          have := congrArg List.length e4
          simp only [List.length_map, List.length_append, List.length_cons, List.length_nil] at this hf ⊢
          omega
         rw [List.length_append] at hlen
         have hc : isSy (c ++ m) [40] = false := by
          cases c with
          | nil => cases l <;> simp at e6
          | cons b0 b1 =>
            refine isSy_no ?_
            cases l with
            | nil => simp only [List.flatMap_nil, List.nil_append, List.map_cons, List.cons.injEq] at e6; rw [e6.1]; simp
            | cons y l => simp only [List.flatMap_cons, List.cons_append, List.map_cons, List.cons.injEq] at e6; rw [e6.1]; simp
         have hr := ih x (List.mem_cons_self ..) (hp x (List.mem_cons_self ..)) b (c ++ m) f e5 hc (by rw [← e5, List.length_map]; omega)
         try simp only [List.cons_append] at h40 h40'
         try simp only [List.cons_append]
         rw [rdT]
         try simp only
         rw [h40, h40', hop]
         simp only [Bool.false_eq_true, if_false, hk, ne_eq, not_true_eq_false, List.tail_cons, if_true]
         rw [if_neg (by omega), List.append_assoc, hr]
         try simp only
         rw [reads_rest l (fun y hy => ih y (List.mem_cons_of_mem _ hy) (hp y (List.mem_cons_of_mem _ hy))) o [x] c m f (fun h => by have := h6 h; simp only [List.length_cons, List.length_nil] at this ⊢; omega) e6 (by omega)]
         rfl
theorem comS_le : ∀ (l : List Nd), (∀ x ∈ l, (tkS x).length + 1 ≤ 4 * szT x) → (comS (tkSL l)).length ≤ 4 * szL l
 | [], _ => by simp [comS, tkSL]
 | x :: l, hx => by
   rw [tkSL, comS_flat, List.length_append, szL]
   have h1 := hx x (by simp)
   have h2 : ∀ l : List Nd, (∀ x ∈ l, (tkS x).length + 1 ≤ 4 * szT x) → (l.flatMap fun y => ((4 : Int), [(44 : UInt8)]) :: tkS y).length ≤ 4 * szL l := fun l => by
    induction l with
    | nil => intro _; simp
    | cons y l ih =>
      intro hy
      have h3 := hy y (by simp)
      have h4 := ih fun z hz => hy z (List.mem_cons_of_mem _ hz)
      rw [List.flatMap_cons, List.length_append, List.length_cons, szL]; omega
   have h3 := h2 l fun z hz => hx z (List.mem_cons_of_mem _ hz)
   omega
theorem tkS_le : ∀ t : Nd, (tkS t).length + 1 ≤ 4 * szT t := Nd.ind fun o a l ih => by
 have h := comS_le l ih
 rw [tkS, szT]
 split
 · simp only [List.length_cons, List.length_nil]; omega
 · split
   · simp only [List.length_cons, List.length_nil]; omega
   · simp only [List.length_append, List.length_cons, List.length_nil]; omega
theorem par_text {t : Nd} (hv : valT t = true) (hl : (textT t).length ≤ 16384) : parB (textT t) = (t, (0, 0), 0) := by
 have hok := val_ok hv
 have hsz := val_sz hv
 have hk := tkS_le t
 obtain ⟨p', toks, h1, h2⟩ := lexes_tree t hok [] (1, 1) [] (fun c hc => by cases hc) (by simp only [List.length_nil]; omega)
 rw [List.append_nil, List.nil_append] at h1
 have h3 : toksB [] p' toks = (toks ++ [⟨5, [], 0, p'.1, p'.2⟩], (0, 0), 0) := by
  rw [toksB_eq]
  rfl
 have h4 := reads_tree t hok toks [⟨5, [], 0, p'.1, p'.2⟩] ((toks ++ [(⟨5, [], 0, p'.1, p'.2⟩ : Tk)]).length + 1) h2 (by rfl) (by rw [← h2, List.length_map, List.length_append]; omega)
 unfold parB
 rw [if_neg (by omega), h1, h3]
 simp only [ne_eq, not_true_eq_false, if_false]
 rw [h4]
 simp [hv]
def awA : List UInt8 := [115, 101, 113, 40, 97, 44, 32, 115, 101, 113, 40, 40, 41, 44, 32, 120, 111, 114, 40, 99, 44, 32, 98, 44, 32, 99, 41, 41, 44, 32, 97, 110, 100, 40, 40, 41, 41, 41]
def awB : List UInt8 := [108, 111, 111, 112, 40, 108, 111, 111, 112, 40, 97, 44, 32, 98, 41, 44, 32, 40, 41, 41]
def awC : List UInt8 := [115, 101, 113, 40, 97]
def awD : List UInt8 := [108, 111, 111, 112, 40, 97, 41]
def awS : List UInt8 := [115, 101, 113, 40, 97, 44, 32, 120, 111, 114, 40, 98, 44, 32, 99, 41, 41]
theorem awA_e : (parB awA).2 = ((0, 0), 0) := by decide +kernel
theorem awN_e : textT (norT (parB awA).1) = awS := by decide +kernel
theorem awB_e : (parB awB).2 = ((0, 0), 0) := by decide +kernel
theorem awM_e : szT (norT (parB awB).1) = 5 := by decide +kernel
theorem awM_v : valT (norT (parB awB).1) = true := by decide +kernel
theorem awN_v : valT (norT (parB awA).1) = true := by decide +kernel
theorem awC_e : (parB awC).2 = ((1, 6), 4) := by decide +kernel
theorem awD_e : (parB awD).2 = ((1, 7), 3) := by decide +kernel
end Go.Proofs.YtbfilfhgcihhoaaGreatDoor
namespace Go.En
open Go.RowKit Go.Cb
set_option linter.all false
section
variable {P : Program} {c : Ctx} {sL hP : List (Nat × Ent)}
theorem ret_toP {fn : Func} {R : Value → PV → List (Nat × Ent) → Prop} {Rp : List PanicEntry → List (Nat × Ent) → Prop} {st : St} (h : aR c (bodyPost P fn (RetH c R)) st) : aR c (bodyPost P fn (RetP c R Rp)) st := fun a w H => by
 obtain ⟨h1, v, h2, h3⟩ := h a w H
 exact ⟨h1, v, h2, .inl h3⟩
theorem pan_q {R : Value → PV → List (Nat × Ent) → Prop} (Rp : List PanicEntry → List (Nat × Ent) → Prop) {ch : List PanicEntry} {Q : Exit → Act → World → Prop} (h : List (Nat × Ent)) (hs : Sub h hP) (hR : Rp ch h) (hQ : ∀ (a : Act) w, a.defers = [] ∧ RetP c R Rp (.panicked ch) w → Q (.panic ch) a w := by exact fun _ _ h => h) (hdf : c.df = [] := by exact rfl) : aP c Q ch (⟨sL, hP⟩ : St) := fun a w F H0 => by
 have H : HoldsF c (⟨sL, h⟩ : St) F a w := H0.less (fun _ _ h => h) fun t x hx => hs.lk hx
 exact hQ a w ⟨H.df.trans hdf, .inr ⟨ch, h, F, rfl, hR, H.toHeapF⟩⟩
def PanX (c : Ctx) (Rc : List PanicEntry → List (Nat × Ent) → Prop) (ch : List PanicEntry) (w : World) : Prop := ∃ h F, Rc ch h ∧ HeapF c h F w
theorem panD {R : Value → PV → List (Nat × Ent) → Prop} {Rp : List PanicEntry → List (Nat × Ent) → Prop} {Q : Exit → Act → World → Prop} {Rc : List PanicEntry → List (Nat × Ent) → Prop} (hR : ∀ ch h, Rc ch h → Rp ch h) (hQ : ∀ ch (a : Act) w, a.defers = [] ∧ RetP c R Rp (.panicked ch) w → Q (.panic ch) a w := by exact fun _ _ _ h => h) : ∀ ch a w, a.defers = [] → PanX c Rc ch w → Q (.panic ch) a w := fun ch a w hd ⟨h, F, hr, hF⟩ => hQ ch a w ⟨hd, .inr ⟨ch, h, F, rfl, hR ch h hr, hF⟩⟩
theorem HoldsF.panW' {F : Nat → BS} {a : Act} {w : World} (H : HoldsF c (⟨sL, hP⟩ : St) F a w) {Rc : List PanicEntry → List (Nat × Ent) → Prop} {ch : List PanicEntry} (h : List (Nat × Ent)) (hs : Sub h hP) (hR : Rc ch h) : PanX c Rc ch w := by
 have H' : HoldsF c (⟨sL, h⟩ : St) F a w := H.less (fun _ _ h => h) fun t x hx => hs.lk hx
 exact ⟨h, F, hR, H'.toHeapF⟩
end
section
variable {P : Program} {c : Ctx} {ops : Array Oper} {Q : Exit → Act → World → Prop} {Pp : List PanicEntry → World → Prop} {Z : Nat → Bool} {K : List Nat} {fuel : Nat} {listed : Array Bool} {sL hP : List (Nat × Ent)} {o : Oper}
theorem aDp_run (i : Nat) (ho : ops[i]? = some o)
 (h : ∀ (w' : World) (M' N' : BS) (DQ : Exit → Act → World → Prop), (∀ ch (st' : St) (a : Act) (w : World) (F' : Nat → BS), HoldsF ⟨w', M', N', c.nt, c.dr, c.df⟩ st' F' a w → (∀ F2, HoldsF c ⟨st'.slots, st'.heap ++ onlyK K hP⟩ F2 a w → Pp ch w) → DQ (.panic ch) a w) → (∀ st' : St, aDp P c ops Q Pp Z K fuel (listed.setIfInBounds i true) ⟨st'.slots, st'.heap ++ onlyK K hP⟩ → aN ⟨w', M', N', c.nt, c.dr, c.df⟩ DQ st') → aL P ⟨w', M', N', c.nt, c.dr, c.df⟩ ops DQ [o] ⟨sL, minusK K hP⟩)
 (hr : Region.ready .any ops listed = [i] := by kernel_rfl) (hdf : c.df = [] := by exact rfl) : aDp P c ops Q Pp Z K (fuel + 1) listed (⟨sL, hP⟩ : St) := fun a w F H C hC =>
 ⟨(fun hn => by rw [hr] at hn; cases hn), fun j hj => by
   rw [hr] at hj
   obtain rfl : j = i := by simpa using hj
   refine wpOp_of_listP (Q' := fun _ a' w' => (Z j = true ∨ C w') ∧ wpAnyP P .any ops Q Pp C Z fuel (listed.setIfInBounds j true) a' w') ho (fun a' w' hq => hq) ?_
   refine h w _ _ (okN (fun _ a' w' => (Z j = true ∨ C w') ∧ wpAnyP P .any ops Q Pp C Z fuel (listed.setIfInBounds j true) a' w') Pp) (fun ch st' a' w' F' H' hp => ?_) (fun st' hD a' w' ⟨F', H'⟩ => ?_) a w ⟨F, H.frame K⟩
   · obtain ⟨H2, _, _⟩ := H.unframe H'
     exact ⟨H2.df.trans hdf, hp _ H2⟩
   · obtain ⟨H2, hch, hnk⟩ := H.unframe H'
     exact ⟨.inr (hC w' hch), hD a' w' _ H2 C fun W hW => hC W (hch.tr hW hnk)⟩⟩
end
end Go.En
namespace Go.Proofs.YtbfilfhgcihhoaaGreatDoor
open Go.RowKit Go.Cb Go.En
set_option linter.all false
set_option maxRecDepth 100000
theorem tAgg71_PtW : AggT Tryz.prog 71 5 = true := by kernel_rfl
theorem tFl108_0_PtW : FldT Tryz.prog 108 0 0 = true := by kernel_rfl
theorem tFl108_1_PtW : FldT Tryz.prog 108 1 1 = true := by kernel_rfl
theorem tFl71_0_PtW : FldT Tryz.prog 71 0 0 = true := by kernel_rfl
theorem tFl71_1_PtW : FldT Tryz.prog 71 1 1 = true := by kernel_rfl
theorem tNa3_PtW : NoAgg Tryz.prog 3 = true := by kernel_rfl
theorem tNa67_PtW : NoAgg Tryz.prog 67 = true := by kernel_rfl
theorem tNa9_PtW : NoAgg Tryz.prog 9 = true := by kernel_rfl
theorem tSl67_PtW : SlT Tryz.prog 67 71 5 = true := by kernel_rfl
theorem tSq104_PtW : stInfo Tryz.prog 104 = some ((.agg #[(.int .i64 0), (.string ByteArray.empty), (.int .i64 0), (.int .i64 0), (.int .i64 0)]), [(0, 5)]) := by kernel_rfl
theorem tSz3_PtW : (Tryz.prog.info? 3).map (·.size) = some 1 := by kernel_rfl
def RtH (b : Nat) (L : List Tk) (i : Nat) : List (Nat × Ent) := [(1000, hdr1 b, .own 108 2 1 [pTks L, pInt i])]
def tkV (t : Tk) : List Value := [.int .i64 t.kind, .string (bst t.text), .int .i64 t.n, .int .i64 t.ln, .int .i64 t.col]
def panT (t : Tk) : List PanicEntry := [{ v := .iface 104 (.agg (tkV t).toArray), recovered := false }]
theorem tOperator_e (s : List UInt8) (hs : s.length ≤ 1000000) : AF Tryz.prog 88 [pB s] (· = pInt (opOf s)) := by
 refine AF.of_body 13 Tryz.func88 rfl Tryz.ntmps88 (Nat.le_of_ble_eq_true rfl) ?_
 intro w0 M0 vs hl hv
 obtain ⟨v0, rfl⟩ := len1 hl
 obtain rfl := hv 0 _ _ rfl rfl
 clear hl hv
 refine nav ?_
 (refine aC_region ?_ <;> refine xL 2 q_assign ?_ <;> refine aL_end (nav ?_) <;> try dsimp only)
 (refine aC_region ?_ <;> refine xL 3 q_assign ?_ <;> refine aL_end (nav ?_) <;> try dsimp only)
 refine aC_loop (ι := { k : Nat // 3 ≤ k ∧ k ≤ 7 ∧ ∀ j : Nat, 3 ≤ j → j < k → s ≠ (wordT j).data.toList }) (fun k => ⟨[(0, _, _), (3, .int .i64 k.1, pInt k.1)], []⟩) (fun k => 7 - k.1) ⟨3, by decide, by decide, fun j h1 h2 => by omega⟩ (fun a w H => H.weaken ⟨rfl, rfl, trivial⟩ trivial) ?_
 rintro ⟨k, hk1, hk2, hp⟩
 dsimp only
 try dsimp only at hk1 hk2 hp
 refine nav ?_
 (refine aC_region ?_ <;> refine xL 4 q_move ?_ <;> refine xL 5 q_leq ?_ <;> refine aL_end (nav ?_) <;> try dsimp only)
 (first | refine cCd ?_ ?_ | refine cC ?_ ?_) <;> intro hb5
 · first
   | exact Bool.noConfusion hb5
   | (
    have hwe : ((wordT k).toList == (bst s).toList) = decide ((wordT k).data.toList = s) := by
     rw [Bool.eq_iff_iff, decide_eq_true_eq]
     exact (strEq_iff (a := wordT k) (b := bst s)).trans ⟨fun h => by rw [h, bst_list], fun h => by rw [← h, bst_eta]⟩
    refine nav ?_
    (refine aC_region ?_ <;> refine xL 8 q_move ?_ <;> (refine cS 9 (cA Tryz.call55 (tWord_e k)) fun v9 hv9 => ?_; cases hv9) <;> refine xL 10 q_move ?_ <;> refine xL 11 q_seql ?_ <;> refine aL_end (nav ?_) <;> try dsimp only)
    (first | refine cCd ?_ ?_ | refine cC ?_ ?_) <;> intro hb11
    · first
      | exact Bool.noConfusion hb11
      | (
       refine nav ?_
       (refine aC_region ?_ <;> refine xL 12 q_move ?_ <;> refine xL 2 q_assign ?_ <;> refine aL_end (nav ?_) <;> try dsimp only)
       refine ret_shr (Tryz.results88) rfl ?_
       rw [hwe] at hb11
       have h1 : (wordT k).data.toList = s := by simpa using hb11
       rw [← h1]
       have : opOf (wordT (k : Int)).data.toList = (k : Int) := opOf_word (by omega)
       rw [this])
    · first
      | exact Bool.noConfusion hb11
      | (
       have h1 : ¬ (wordT k).data.toList = s := by rw [hwe] at hb11; simpa using hb11
       refine nav ?_
       (refine aC_region ?_ <;> refine xL 6 q_move ?_ <;> refine xL 7 q_add ?_ <;> refine xL 3 q_assign ?_ <;> refine aL_end (nav ?_) <;> try dsimp only)
       refine aN_again (
        ⟨k + 1, by omega, by omega, fun j h2 h3 => by
         rcases Nat.lt_or_ge j k with h | h
         · exact hp j h2 h
         · obtain rfl : j = k := by omega
           exact fun e => h1 e.symm⟩
        ) (by dsimp only; omega) ⟨rfl, rfl, trivial⟩ trivial))
 · first
   | exact Bool.noConfusion hb5
   | (
    refine nav ?_
    (refine aC_region ?_ <;> refine xL 2 q_assign ?_ <;> refine aL_end (nav ?_) <;> try dsimp only)
    refine ret_shr (Tryz.results88) rfl ?_
    have h3 : s ≠ [115, 101, 113] := by have := hp 3 (by omega) (by omega); rwa [show (wordT ((3 : Nat) : Int)).data.toList = [115, 101, 113] by decide] at this
    have h4 : s ≠ [120, 111, 114] := by have := hp 4 (by omega) (by omega); rwa [show (wordT ((4 : Nat) : Int)).data.toList = [120, 111, 114] by decide] at this
    have h5 : s ≠ [97, 110, 100] := by have := hp 5 (by omega) (by omega); rwa [show (wordT ((5 : Nat) : Int)).data.toList = [97, 110, 100] by decide] at this
    have h6 : s ≠ [108, 111, 111, 112] := by have := hp 6 (by omega) (by omega); rwa [show (wordT ((6 : Nat) : Int)).data.toList = [108, 111, 111, 112] by decide] at this
    unfold opOf
    rw [if_neg h3, if_neg h4, if_neg h5, if_neg h6])
theorem tks_get {l : List Tk} {k j : Nat} {x : Tk} (h : l[k]? = some x) (hj : j < 5) : (cTks l)[k * 5 + j]? = (cTk x)[j]? := by
 rw [← tks_drop h, List.getElem?_take_of_lt hj, List.getElem?_drop]
theorem tIs_e (b : Nat) (L : List Tk) (i : Nat) (s : List UInt8) (hL : L.length ≤ 1000000) (hi : i ≤ L.length) : AFh False Tryz.prog 86 [(0, ptr1 b, .val (ptr1 b)), (1, .int .i64 0, .val (.int .i64 0)), (2, .string (bst s), pB s)] (RtH b L i) (fun u q h => u = .bool (isSy (L.drop i) s) ∧ q = pBool (isSy (L.drop i) s) ∧ h = RtH b L i) := by
 obtain ⟨x, hx⟩ : ∃ x : Tk, i < L.length → L[i]? = some x := by
  rcases Nat.lt_or_ge i L.length with h | h
  · exact ⟨_, fun _ => List.getElem?_eq_getElem h⟩
  · exact ⟨tk0, fun h' => by omega⟩
 have hk0 : i < L.length → (cTks L)[(i + 0) * 5 + 0]? = some (pInt x.kind) := fun h => tks_get (j := 0) (hx h) (by decide)
 have hk1 : i < L.length → (cTks L)[(i + 0) * 5 + 1]? = some (pB x.text) := fun h => tks_get (j := 1) (hx h) (by decide)
 have e1 : i < L.length → ((cTks L).drop (i * 5)).take 5 = [pInt x.kind, pB x.text, pInt x.n, pInt x.ln, pInt x.col] := fun h => tks_drop (hx h)
 have e2 : i < L.length → i * 5 + 5 ≤ (cTks L).length := fun h => tks_fit (hx h)
 have e3 : i < L.length → isSy (L.drop i) s = (decide (x.kind = 4) && decide (x.text = s)) := fun h => by
  rw [drop_get (hx h), isSy]
  congr 1
  rw [Bool.eq_iff_iff, beq_iff_eq, decide_eq_true_eq]
 have e4 : ¬ i < L.length → isSy (L.drop i) s = false := fun h => by rw [drop_all (by omega)]; rfl
 unfold RtH
 refine AFh.of_body 44 Tryz.func86 rfl Tryz.ntmps86 (Nat.le_of_ble_eq_true rfl) rfl ?_
 intro w0 M0 N0
 refine nav ?_
 (refine aC_region ?_ <;> refine xL 6 q_assign ?_ <;> refine aL_end (nav ?_) <;> try dsimp only)
 (refine aC_region ?_ <;> refine xL 8 q_move ?_ <;> refine xL 9 (q_nilo 1000) ?_ <;> refine xL 10 (q_fldo 1000 tFl108_1_PtW) ?_ <;> (refine yL 11 (q_ldo 1000 tNa3_PtW) fun v11 hv11 => ?_; cases hv11) <;> refine xL 12 q_move ?_ <;> refine xL 13 q_add ?_ <;> refine xL 7 q_assign ?_ <;> refine aL_end (nav ?_) <;> try dsimp only)
 (refine aC_region ?_ <;> refine xL 14 q_move ?_ <;> refine xL 15 q_move ?_ <;> refine xL 16 (q_nilo 1000) ?_ <;> refine xL 17 (q_fldo 1000 tFl108_0_PtW) ?_ <;> (refine yL 18 (q_ldo 1000 tNa67_PtW) fun v18 hv18 => ?_; cases hv18) <;> refine xL 19 (q_len tSl67_PtW) ?_ <;> refine xL 20 q_lss ?_ <;> refine xL 21 q_move ?_ <;> (refine bLd 21 (fun hb21 => ?_) (fun hb21 => ?_) <;> (first | refine kL 22 ?_ | refine xL 22 q_move ?_)) <;> (first | refine kL 23 ?_ | refine xL 23 (q_nilo 1000) ?_) <;> (first | refine kL 24 ?_ | refine xL 24 (q_fldo 1000 tFl108_0_PtW) ?_) <;> (first | refine kL 25 ?_ | (refine yL 25 (q_ldo 1000 tNa67_PtW) fun v25 hv25 => ?_; cases hv25)) <;> (first | refine kL 26 ?_ | refine xL 26 q_move ?_) <;> (first | refine kL 27 ?_ | refine xL 27 (q_idxN tSl67_PtW) ?_) <;> (first | refine kL 28 ?_ | refine xL 28 (q_fld tFl71_0_PtW) ?_) <;> (first | refine kL 29 ?_ | (refine yL 29 (q_ld tNa3_PtW rfl rfl (hk0 (by omega))) fun v29 hv29 => ?_; cases hv29)) <;> (first | refine kL 30 ?_ | refine xL 30 q_eql ?_) <;> refine xL 31 q_pick ?_ <;> refine xL 32 q_move ?_ <;> (first | refine kL 33 ?_ | (refine bLd 32 (fun hb32 => ?_) (fun hb32 => ?_) <;> (first | refine kL 33 ?_ | refine xL 33 q_move ?_))) <;> (first | refine kL 34 ?_ | refine xL 34 (q_nilo 1000) ?_) <;> (first | refine kL 35 ?_ | refine xL 35 (q_fldo 1000 tFl108_0_PtW) ?_) <;> (first | refine kL 36 ?_ | (refine yL 36 (q_ldo 1000 tNa67_PtW) fun v36 hv36 => ?_; cases hv36)) <;> (first | refine kL 37 ?_ | refine xL 37 q_move ?_) <;> (first | refine kL 38 ?_ | refine xL 38 (q_idxN tSl67_PtW) ?_) <;> (first | refine kL 39 ?_ | refine xL 39 (q_fld tFl71_1_PtW) ?_) <;> (first | refine kL 40 ?_ | (refine yL 40 (q_ld tNa9_PtW rfl rfl (hk1 (by omega))) fun v40 hv40 => ?_; cases hv40)) <;> (first | refine kL 41 ?_ | refine xL 41 q_move ?_) <;> (first | refine kL 42 ?_ | refine xL 42 q_seql ?_) <;> refine xL 43 q_pick ?_ <;> refine xL 6 q_assign ?_ <;> refine aL_end (nav ?_) <;> try dsimp only) <;> (
  refine ret_h (RtH b L i) (Tryz.results86) rfl ⟨rfl, trivial⟩ ?_
  first
   | (rw [e3 (by omega), bst_eq, decide_eq_true hb32, Bool.true_and]; exact ⟨rfl, rfl, rfl⟩)
   | (rw [e3 (by omega), decide_eq_false hb32, Bool.false_and]; exact ⟨rfl, rfl, rfl⟩)
   | (rw [e4 (by omega)]; exact ⟨rfl, rfl, rfl⟩))
theorem tWant_e (b : Nat) (L : List Tk) (i : Nat) (s : List UInt8) (x : Tk) (hL : L.length ≤ 1000000) (hx : L[i]? = some x) : AFp False Tryz.prog 87 [(0, ptr1 b, .val (ptr1 b)), (1, .string (bst s), pB s)] (RtH b L i) (fun _ _ h => isSy (L.drop i) s = true ∧ h = RtH b L (i + 1)) (fun ch h => isSy (L.drop i) s = false ∧ ch = panT x ∧ h = RtH b L i) := by
 have hi := lt_of_get hx
 have e1 : ((cTks L).drop (i * 5)).take 5 = [pInt x.kind, pB x.text, pInt x.n, pInt x.ln, pInt x.col] := tks_drop hx
 have e2 : i * 5 + 5 ≤ (cTks L).length := tks_fit hx
 unfold RtH
 refine AFp.of_body 27 Tryz.func87 rfl Tryz.ntmps87 (Nat.le_of_ble_eq_true rfl) rfl ?_
 intro w0 M0 N0
 refine nav ?_
 (refine aC_region ?_ <;> refine xL 4 q_move ?_ <;> refine xL 5 q_move ?_ <;> (refine aL_ch [] 6 (Tryz.call86) (tIs_e b L i s hL (by omega)) ?_; rintro _ _ _ ⟨rfl, rfl, rfl⟩; dsimp only [RtH]) <;> refine xL 7 q_not ?_ <;> refine aL_end (nav ?_) <;> try dsimp only)
 (first | refine cCd ?_ ?_ | refine cC ?_ ?_) <;> intro hb7
 · first
   | exact Bool.noConfusion hb7
   | (
    refine nav ?_
    (refine aC_drawP (PanX ⟨w0, M0, N0, 27, False, []⟩ (fun ch h => isSy (L.drop i) s = false ∧ ch = panT x ∧ h = RtH b L i)) (fun i => ([] : List Nat).elem i) [1000] (by kernel_rfl) (panD (fun _ _ h => h)) ?_ <;> refine xDp 0 8 rfl q_move ?_ <;> refine xDp 1 9 rfl (q_nilo 1000) ?_ <;> refine xDp 2 10 rfl (q_fldo 1000 tFl108_0_PtW) ?_ <;> (refine yDp 3 11 rfl (q_ldo 1000 tNa67_PtW) fun v11 hv11 => ?_; cases hv11) <;> refine xDp 4 12 rfl q_move ?_ <;> refine xDp 5 13 rfl (q_nilo 1000) ?_ <;> refine xDp 6 14 rfl (q_fldo 1000 tFl108_1_PtW) ?_ <;> (refine yDp 7 15 rfl (q_ldo 1000 tNa3_PtW) fun v15 hv15 => ?_; cases hv15) <;> refine xDp 8 16 rfl (q_idxN tSl67_PtW) ?_ <;> (refine yDp 9 17 rfl (q_lda tAgg71_PtW) fun v17 hv17 => ?_; cases hv17) <;> (refine yDp 10 18 rfl (q_buildM tSq104_PtW) fun v18 hv18 => ?_; cases hv18) <;> refine xDp 11 19 rfl (q_mkif (by kernel_rfl)) ?_ <;> (refine aDp_agv (d := 18) (tkV x) rfl (fun h18 => ?_); subst h18; exact aDp_panic 12 rfl (fun a w F H => H.panW' (RtH b L i) ⟨rfl, trivial⟩ ⟨by simpa using hb7, rfl, rfl⟩)) <;> try dsimp only))
 · first
   | exact Bool.noConfusion hb7
   | (
    refine nav ?_
    (refine aC_region ?_ <;> refine xL 20 q_move ?_ <;> refine xL 21 (q_nilo 1000) ?_ <;> refine xL 22 (q_fldo 1000 tFl108_1_PtW) ?_ <;> (refine yL 23 (q_ldo 1000 tNa3_PtW) fun v23 hv23 => ?_; cases hv23) <;> refine xL 24 q_add ?_ <;> refine xL 25 (q_nilo 1000) ?_ <;> refine xL 26 (q_fldo 1000 tFl108_1_PtW) ?_ <;> refine s_st 1000 tNa3_PtW tSz3_PtW ?_ <;> refine aL_end (nav ?_) <;> try dsimp only)
    exact end_p0 (RtH b L (i + 1)) (Tryz.results87) ⟨rfl, trivial⟩ ⟨by simpa using hb7, rfl⟩)
theorem tAgg24_PtI : AggT Tryz.prog 24 3 = true := by kernel_rfl
theorem tEl22_PtI : ElT Tryz.prog 22 24 3 48 (.agg #[(.int .i64 0), (.string ByteArray.empty), (.slice none 0 0)]) := ⟨Tryz.underlying22, by kernel_rfl, rfl, by decide⟩
theorem tFl24_0_PtI : FldT Tryz.prog 24 0 0 = true := by kernel_rfl
theorem tFl24_1_PtI : FldT Tryz.prog 24 1 1 = true := by kernel_rfl
theorem tFl24_2_PtI : FldT Tryz.prog 24 2 2 = true := by kernel_rfl
theorem tNa22_PtI : NoAgg Tryz.prog 22 = true := by kernel_rfl
theorem tNa3_PtI : NoAgg Tryz.prog 3 = true := by kernel_rfl
theorem tNa9_PtI : NoAgg Tryz.prog 9 = true := by kernel_rfl
theorem tSl22_PtI : SlT Tryz.prog 22 24 3 = true := by kernel_rfl
theorem tSt24_PtI : stInfo Tryz.prog 24 = some ((.agg #[(.int .i64 0), (.string ByteArray.empty), (.slice none 0 0)]), ([0, 1, 2] : List Nat).map fun o => (o, 1)) := by kernel_rfl
theorem tZr24_PtI : ZeroT Tryz.prog 24 (.agg #[(.int .i64 0), (.string ByteArray.empty), (.slice none 0 0)]) := by unfold ZeroT; kernel_rfl
theorem two_trs (x y : Nd) : PV.sl 2 ([x, y].flatMap cN) = pTrs [x, y] := by
 unfold pTrs
 rw [cTrs_eq]; rfl
theorem rr_leaf (o : Int) (a : ByteArray) : Rr (.agg [pInt o, pStr a, .val (.slice none 0 0)]) (pTr (.mk o a [])) := Rr.agg rfl fun i x b ha hb => by
 match i with
 | 0 => cases ha; cases hb; exact Rr.rfl' _
 | 1 => cases ha; cases hb; exact Rr.rfl' _
 | 2 => cases ha; cases hb; exact Rr.nil
 | i + 3 => simp at ha
theorem norL_get {l : List Nd} {k : Nat} {x : Nd} (h : l[k]? = some x) : (norL l)[k]? = some (norT x) := by
 rw [norL_eq, List.getElem?_map, h]; rfl
theorem norL_len (l : List Nd) : (norL l).length = l.length := by rw [norL_eq, List.length_map]
theorem loop_two {t : Nd} (h : rightT t = true) (h6 : t.op = 6) : ∃ x y, t.l = [x, y] := by
 unfold rightT at h
 rw [h6] at h
 simp at h
 match t.l, h.1 with
 | [x, y], _ => exact ⟨x, y, rfl⟩
theorem szL_two {x y : Nd} : szL [x, y] = szT x + szT y := by simp only [szL]; omega
set_option maxHeartbeats 4000000 in
theorem tNormal_e : ∀ t : Nd, okT t = true → szT t ≤ 1000000 → AF Tryz.prog 42 [pTr t] (· = pTr (norT t)) := Nd.ind fun o a l ih hok hs => by
 have e0 : pTr (.mk o a l) = .agg [pInt o, pStr a, pTrs l] := rfl
 rw [e0]
 obtain ⟨hr, hp⟩ := okT_iff.1 hok
 have hf := fit_ok _ hok hs
 have hsz := szT_eq (.mk o a l)
 have hlz := len_szL l
 have hops := right_ops hr
 simp only [Nd.l, Nd.op] at hp hsz hops
 have hnl := norL_len l
 have hnz : szL (norL l) ≤ szL l := by
  have := sz_nor (.mk o a l)
  clear this e0 hr hf hsz hlz hnl
  clear ih hok hs
  induction l with
  | nil => exact Nat.le_refl _
  | cons x l ih2 =>
    have h3 := sz_nor x
    have h4 := ih2 (fun y hy => hp y (List.mem_cons_of_mem _ hy))
    rw [norL, szL, szL]; omega
 have hnf : ∀ y ∈ norL l, FitT y := fun y hy => by
  rw [norL_eq] at hy
  obtain ⟨x, hx, rfl⟩ := List.mem_map.1 hy
  have := szL_mem hx
  exact fit_nor (hp x hx) (by omega)
 refine AF.of_body 70 Tryz.func42 rfl Tryz.ntmps42 (Nat.le_of_ble_eq_true rfl) ?_
 intro w0 M0 vs hl hv
 obtain ⟨v0, rfl⟩ := len1 hl
 clear hl hv
 refine nav ?_
 (refine aC_region ?_ <;> refine s_boxa 1 3 fun h1 => ?_ <;> refine s_alloc [(.int .i64 0), (.string ByteArray.empty), (.slice none 0 0)] 3 2 tZr24_PtI fun h2 => ?_ <;> refine aL_end (nav ?_) <;> try dsimp only)
 (refine aC_region ?_ <;> refine xL 3 q_assign ?_ <;> refine aL_end (nav ?_) <;> try dsimp only)
 refine aC_ent (nilOwn 200 24 3 rfl) fun _ => ?_
 (refine aC_region ?_ <;> refine xL 8 (q_fldo 1 tFl24_2_PtI) ?_ <;> (refine yL 9 (q_ldo 1 tNa22_PtI) fun v9 hv9 => ?_; cases hv9) <;> refine xL 10 (q_len tSl22_PtI) ?_ <;> refine xL 11 q_move ?_ <;> refine aL_end (nav ?_) <;> try dsimp only)
 refine aC_loop (ι := { q : Nat × Value // q.1 ≤ l.length ∧ q.2.oneCell' = true }) (fun k => ⟨[(1, _, _), (2, _, _), (9, _, _), (10, _, _), (3, k.1.2, .val k.1.2), (11, .int .i64 k.1.1, pInt k.1.1)], [(1, _, _), (2, _, _), (200, k.1.2, .own 24 3 ((norL l).take k.1.1).length (cTrs ((norL l).take k.1.1)))]⟩) (fun k => l.length - k.1.1) ⟨(0, .slice none 0 0), Nat.zero_le _, rfl⟩ (fun a w H => H.weaken ⟨rfl, rfl, rfl, rfl, rfl, rfl, trivial⟩ ⟨rfl, rfl, rfl, trivial⟩) ?_
 rintro ⟨⟨k, hO⟩, hk, hOo⟩
 dsimp only
 dsimp only at hk hOo
 refine nav ?_
 (refine aC_region ?_ <;> refine xL 12 q_lss ?_ <;> refine aL_end (nav ?_) <;> try dsimp only)
 (first | refine cCd ?_ ?_ | refine cC ?_ ?_) <;> intro hb12
 · first
   | exact Bool.noConfusion hb12
   | (
    obtain ⟨x, hx⟩ := get_some (show k < l.length by omega)
    have e1 : ((cTrs l).drop (k * 3)).take 3 = [pInt x.op, pStr x.act, pTrs x.l] := tr_drop hx
    have e2 := tr_fit hx
    have hxm := List.mem_of_getElem? hx
    have hxs := szL_mem hxm
    have hsn := take_snoc (norL_get hx)
    have hsl : ((norL l).take (k + 1)).length = ((norL l).take k).length + 1 := by rw [hsn, List.length_append]; rfl
    have hsl2 : ((norL l).take k).length ≤ 1000000 := by rw [List.length_take]; omega
    refine nav ?_
    (refine aC_region ?_ <;> refine xL 13 (q_idxN tSl22_PtI) ?_ <;> (refine yL 14 (q_lda tAgg24_PtI) fun v14 hv14 => ?_; cases hv14) <;> refine s_alloc [(.int .i64 0), (.string ByteArray.empty), (.slice none 0 0)] 3 5 tZr24_PtI fun h5 => ?_ <;> refine s_sta 5 tAgg24_PtI ?_ <;> refine aL_end (nav ?_) <;> try dsimp only)
    (refine aC_region ?_ <;> refine xL 15 q_move ?_ <;> (refine yL 16 (q_ldao 5 tAgg24_PtI) fun v16 hv16 => ?_; cases hv16) <;> (refine cD 17 (cA Tryz.call42 (ih x hxm (hp x hxm) (by omega))) fun v17 hv17 => ?_; clear hv17) <;> refine s_lit1a 18 tEl22_PtI fun h18 ho18 => ?_ <;> (refine s_app 200 18 19 tEl22_PtI fun h19 ho19 => ?_; refine aL_ent (relabel (l := 19) 200 rfl rfl) fun _ => ?_; refine aL_ent (recast (l := 200) (p' := .own 24 3 ((norL l).take (k + 1)).length (cTrs ((norL l).take (k + 1)))) rfl (Eq.trans (congrArg (PV.own 24 3 _) (show _ = cTrs ((norL l).take k) ++ cN (norT x) from rfl)) (by rw [cTrs_snoc, ← hsn, hsl]))) fun _ => ?_) <;> refine xL 3 q_assign ?_ <;> refine aL_end (nav ?_) <;> try dsimp only)
    (refine aC_region ?_ <;> refine xL 20 q_add ?_ <;> refine xL 11 q_move ?_ <;> refine aL_end (nav ?_) <;> try dsimp only)
    refine aN_again (
     ⟨(k + 1, h19), lt_of_get hx, ho19⟩
     ) (by dsimp only; omega) ⟨rfl, rfl, rfl, rfl, rfl, rfl, trivial⟩ ⟨rfl, rfl, rfl, trivial⟩)
 · first
   | exact Bool.noConfusion hb12
   | (
    rw [List.take_of_length_le (show (norL l).length ≤ k by omega)]
    refine nav ?_
    (refine aC_region ?_ <;> refine xL 21 (q_fldo 1 tFl24_0_PtI) ?_ <;> (refine yL 22 (q_ldo 1 tNa3_PtI) fun v22 hv22 => ?_; cases hv22) <;> refine aL_end (nav ?_) <;> try dsimp only)
    (refine aC_region ?_ <;> refine xL 24 q_eql ?_ <;> refine xL 23 q_assign ?_ <;> refine aL_end (nav ?_) <;> try dsimp only)
    (first | refine cCd ?_ ?_ | refine cC ?_ ?_) <;> intro hb23
    · first
      | exact Bool.noConfusion hb23
      | (
       refine nav ?_
       (first | refine cCd ?_ ?_ | refine cC ?_ ?_) <;> intro hb23
       · first
         | exact Bool.noConfusion hb23
         | (
          refine nav ?_
          (refine aC_region ?_ <;> refine xL 26 (q_fldo 1 tFl24_0_PtI) ?_ <;> (refine yL 27 (q_ldo 1 tNa3_PtI) fun v27 hv27 => ?_; cases hv27) <;> refine xL 28 (q_fldo 1 tFl24_1_PtI) ?_ <;> (refine yL 29 (q_ldo 1 tNa9_PtI) fun v29 hv29 => ?_; cases hv29) <;> refine xL 30 (q_build tSt24_PtI) ?_ <;> (refine aL_ent (rslot (t := 30) (p' := pTr (.mk o a [])) rfl (rr_leaf o a)) fun _ => ?_; refine s_sta 2 tAgg24_PtI ?_) <;> refine aL_end (nav ?_) <;> try dsimp only)
          refine ret_cell (k := 3) 2 (by kernel_rfl) (Tryz.results42) rfl rfl (Nat.le_of_ble_eq_true rfl) (by decide) rfl ?_
          rw [norT, nodT, if_pos (by omega)]; rfl)
       · first
         | exact Bool.noConfusion hb23
         | (
          refine nav ?_
          (refine aC_region ?_ <;> refine xL 32 q_eql ?_ <;> refine xL 31 q_assign ?_ <;> refine aL_end (nav ?_) <;> try dsimp only)
          (first | refine cCd ?_ ?_ | refine cC ?_ ?_) <;> intro hb31
          · first
            | exact Bool.noConfusion hb31
            | (
             obtain ⟨f0, s0, hl2⟩ := loop_two hr (show o = 6 from by omega)
             obtain rfl : l = [f0, s0] := hl2
             have ho6 : o = 6 := by omega
             have hres : norT (.mk o a [f0, s0]) = lopE (lop2 (norT f0) (norT s0)) := by rw [norT, nodT, if_neg (by omega), if_pos ho6]; rfl
             have hF1 := nor_ok (hp f0 (by simp))
             have hS1 := nor_ok (hp s0 (by simp))
             have hFz := sz_nor f0
             have hSz := sz_nor s0
             have hfF := hnf (norT f0) (by simp [norL])
             have hfS := hnf (norT s0) (by simp [norL])
             rw [szL_two] at hsz
             have e3 : ((cTrs (norL [f0, s0])).drop (0 * 3)).take 3 = [pInt (norT f0).op, pStr (norT f0).act, pTrs (norT f0).l] := tr_drop (k := 0) rfl
             have e4 : 0 * 3 + 3 ≤ (cTrs (norL [f0, s0])).length := tr_fit (k := 0) (x := norT f0) rfl
             have e5 : ((cTrs (norL [f0, s0])).drop (1 * 3)).take 3 = [pInt (norT s0).op, pStr (norT s0).act, pTrs (norT s0).l] := tr_drop (k := 1) rfl
             have e6 : 1 * 3 + 3 ≤ (cTrs (norL [f0, s0])).length := tr_fit (k := 1) (x := norT s0) rfl
             refine nav ?_
             refine aC_mid (fun q : Value × Value × Value => ⟨[(2, padd (sbase q.1) 0, .val (padd (sbase q.1) 0)), (6, padd (sbase q.2.1) 0, .val (padd (sbase q.2.1) 0)), (7, padd (sbase q.2.2) 0, .val (padd (sbase q.2.2) 0))], [(2, q.1, .own 24 3 1 [.val (.int .i64 0), .val (.string ByteArray.empty), .val (.slice none 0 0)]), (6, q.2.1, .own 24 3 1 [pInt (norT f0).op, pStr (norT f0).act, pTrs (norT f0).l]), (7, q.2.2, .own 24 3 1 [pInt (norT s0).op, pStr (norT s0).act, pTrs (norT s0).l])]⟩) ?_ ?_
             · (refine aC_draw (fun i => ([] : List Nat).elem i) [200] (by kernel_rfl) ?_ <;> refine xD 0 33 rfl q_move ?_ <;> refine xD 1 34 rfl (q_idxoN 200 tSl22_PtI) ?_ <;> (refine yD 2 35 rfl (q_ldao 200 tAgg24_PtI) fun v35 hv35 => ?_; cases hv35) <;> refine xD 3 36 rfl q_move ?_ <;> refine xD 4 37 rfl (q_idxoN 200 tSl22_PtI) ?_ <;> (refine yD 5 38 rfl (q_ldao 200 tAgg24_PtI) fun v38 hv38 => ?_; cases hv38) <;> (refine aD_two 6 7 (by kernel_rfl) ?_ ?_; rotate_right; (focus ((refine aW_run rfl fun w9 M9 N9 DQ back => ?_) <;> refine s_alloc [(.int .i64 0), (.string ByteArray.empty), (.slice none 0 0)] 3 7 tZr24_PtI fun h7 => ?_ <;> refine aL_end (back _ (nrm ?_)) <;> (refine aD_one 6 (by kernel_rfl) ?_) <;> (refine aW_run rfl fun w9 M9 N9 DQ back => ?_) <;> refine s_alloc [(.int .i64 0), (.string ByteArray.empty), (.slice none 0 0)] 3 6 tZr24_PtI fun h6 => ?_ <;> refine aL_end (back _ (nrm ?_)) <;> (refine aD_one 8 (by kernel_rfl) ?_) <;> (refine aW_run rfl fun w9 M9 N9 DQ back => ?_) <;> refine s_sta 6 tAgg24_PtI ?_ <;> refine aL_end (back _ (nrm ?_)) <;> (refine aD_one 9 (by kernel_rfl) ?_) <;> (refine aW_run rfl fun w9 M9 N9 DQ back => ?_) <;> refine s_sta 7 tAgg24_PtI ?_ <;> refine aL_end (back _ (nrm ?_)))); rotate_right; (focus ((refine aW_run rfl fun w9 M9 N9 DQ back => ?_) <;> refine s_alloc [(.int .i64 0), (.string ByteArray.empty), (.slice none 0 0)] 3 6 tZr24_PtI fun h6 => ?_ <;> refine aL_end (back _ (nrm ?_)) <;> (refine aD_one 7 (by kernel_rfl) ?_) <;> (refine aW_run rfl fun w9 M9 N9 DQ back => ?_) <;> refine s_alloc [(.int .i64 0), (.string ByteArray.empty), (.slice none 0 0)] 3 7 tZr24_PtI fun h7 => ?_ <;> refine aL_end (back _ (nrm ?_)) <;> (refine aD_one 8 (by kernel_rfl) ?_) <;> (refine aW_run rfl fun w9 M9 N9 DQ back => ?_) <;> refine s_sta 6 tAgg24_PtI ?_ <;> refine aL_end (back _ (nrm ?_)) <;> (refine aD_one 9 (by kernel_rfl) ?_) <;> (refine aW_run rfl fun w9 M9 N9 DQ back => ?_) <;> refine s_sta 7 tAgg24_PtI ?_ <;> refine aL_end (back _ (nrm ?_))))) <;> refine aD_end (by kernel_rfl) (nav ?_) <;> try dsimp only) <;> (
                exact aN_join (_, _, _) ⟨rfl, rfl, rfl, trivial⟩ ⟨rfl, rfl, rfl, trivial⟩)
             · rintro ⟨h2, h6, h7⟩
               dsimp only
               clear e3 e4 e5 e6
               generalize norT f0 = F at hres hF1 hFz hfF ⊢
               generalize norT s0 = S at hres hS1 hSz hfS ⊢
               refine nav ?_
               (refine aC_region ?_ <;> refine xL 39 (q_fldo 6 tFl24_0_PtI) ?_ <;> (refine yL 40 (q_ldo 6 tNa3_PtI) fun v40 hv40 => ?_; cases hv40) <;> refine xL 41 q_eql ?_ <;> refine aL_end (nav ?_) <;> try dsimp only)
               refine aC_mid (fun _ : Unit => ⟨[(2, padd (sbase h2) 0, .val (padd (sbase h2) 0)), (6, padd (sbase h6) 0, .val (padd (sbase h6) 0)), (7, padd (sbase h7) 0, .val (padd (sbase h7) 0))], [(2, h2, .own 24 3 1 [.val (.int .i64 0), .val (.string ByteArray.empty), .val (.slice none 0 0)]), (6, h6, .own 24 3 1 (cN (lop2 F S).1)), (7, h7, .own 24 3 1 (cN (lop2 F S).2))]⟩) ?_ ?_
               · (first | refine cCd ?_ ?_ | refine cC ?_ ?_) <;> intro hb41
                 · first
                   | exact Bool.noConfusion hb41
                   | (
                    obtain ⟨A, B, hAB⟩ := loop_two (okT_iff.1 hF1).1 hb41
                    have hlop : lop2 F S = (A, joinT 4 [B, S]) := by unfold lop2; rw [if_pos hb41, hAB]
                    have hfA := hfF.p A (by rw [hAB]; simp)
                    have hfB := hfF.p B (by rw [hAB]; simp)
                    have hFe := szT_eq F
                    rw [hAB, szL_two] at hFe
                    rw [hAB]
                    have e3 : ((cTrs [A, B]).drop (0 * 3)).take 3 = [pInt A.op, pStr A.act, pTrs A.l] := tr_drop (k := 0) rfl
                    have e4 : 0 * 3 + 3 ≤ (cTrs [A, B]).length := tr_fit (k := 0) (x := A) rfl
                    have e5 : ((cTrs [A, B]).drop (1 * 3)).take 3 = [pInt B.op, pStr B.act, pTrs B.l] := tr_drop (k := 1) rfl
                    have e6 : 1 * 3 + 3 ≤ (cTrs [A, B]).length := tr_fit (k := 1) (x := B) rfl
                    have hj := tJoin_e 4 [B, S] (by decide) (by decide) (fun x hx => by simp only [List.mem_cons, List.not_mem_nil, or_false] at hx; rcases hx with h | h <;> rw [h] <;> assumption) (by rw [szL_two]; omega)
                    refine nav ?_
                    (refine aC_draw (fun i => ([11, 12] : List Nat).elem i) [6, 7] (by kernel_rfl) ?_ <;> refine xDT 0 42 rfl (q_fldo 6 tFl24_2_PtI) ?_ <;> (refine yDT 1 43 rfl (q_ldo 6 tNa22_PtI) fun v43 hv43 => ?_; cases hv43) <;> refine xDT 2 44 rfl (q_idxN tSl22_PtI) ?_ <;> (refine yDT 3 45 rfl (q_lda tAgg24_PtI) fun v45 hv45 => ?_; cases hv45) <;> refine xDT 4 46 rfl (q_fldo 6 tFl24_2_PtI) ?_ <;> (refine yDT 5 47 rfl (q_ldo 6 tNa22_PtI) fun v47 hv47 => ?_; cases hv47) <;> refine xDT 6 48 rfl (q_idxN tSl22_PtI) ?_ <;> (refine yDT 7 49 rfl (q_lda tAgg24_PtI) fun v49 hv49 => ?_; cases hv49) <;> (refine yE 8 50 rfl (q_ldao 7 tAgg24_PtI) fun v50 hv50 => ?_; cases hv50) <;> (refine aD_one 9 (by kernel_rfl) ?_) <;> (refine aW_run rfl fun w9 M9 N9 DQ back => ?_) <;> (refine s_lita (kk := 3) (xs := [_, _]) (cs := [[_, _, _], [_, _, _]]) 51 tEl22_PtI fun h51 ho51 => ?_; refine aL_ent (En.freeze (l := 51) (t := 51) rfl rfl) fun _ => ?_; refine aL_ent (reslot (t := 51) (p' := pTrs [B, S]) rfl (Eq.trans (show _ = PV.sl 2 ([B, S].flatMap cN) from rfl) (two_trs B S))) fun _ => ?_) <;> refine aL_end (back _ (nrm ?_)) <;> (refine aD_one 10 (by kernel_rfl) ?_) <;> (refine aW_call (d := 52) rfl (cA (Tryz.call66) hj) fun v52 hv52 => ?_; cases hv52) <;> (refine aD_one 11 (by kernel_rfl) ?_) <;> (refine aW_thenZ rfl rfl fun DQ back => ?_) <;> refine s_sta 6 tAgg24_PtI ?_ <;> refine aL_end (back _ ?_) <;> (refine aDZ_one 12 (by kernel_rfl) rfl rfl fun DQ back => ?_) <;> refine s_sta 7 tAgg24_PtI ?_ <;> refine aL_end (back _ ?_) <;> refine aDZ_end (by kernel_rfl) (nav ?_) <;> try dsimp only)
                    refine aN_ent (recast (l := 6) (p' := .own 24 3 1 (cN (lop2 F S).1)) rfl (by rw [hlop]; rfl)) fun _ => ?_
                    refine aN_ent (recast (l := 7) (p' := .own 24 3 1 (cN (lop2 F S).2)) rfl (by rw [hlop]; rfl)) fun _ => ?_
                    exact aN_join () ⟨rfl, rfl, rfl, trivial⟩ ⟨rfl, rfl, rfl, trivial⟩)
                 · first
                   | exact Bool.noConfusion hb41
                   | (
                    have hlop : lop2 F S = (F, S) := by unfold lop2; rw [if_neg hb41]
                    refine aC_ent (recast (l := 6) (p' := .own 24 3 1 (cN (lop2 F S).1)) rfl (by rw [hlop]; rfl)) fun _ => ?_
                    refine aC_ent (recast (l := 7) (p' := .own 24 3 1 (cN (lop2 F S).2)) rfl (by rw [hlop]; rfl)) fun _ => ?_
                    refine nav ?_
                    exact aN_join () ⟨rfl, rfl, rfl, trivial⟩ ⟨rfl, rfl, rfl, trivial⟩)
               · rintro _
                 unfold lopE at hres
                 generalize (lop2 F S).1 = X at hres ⊢
                 generalize (lop2 F S).2 = Y at hres ⊢
                 have ec : ∀ t : Nd, cN t = [pInt t.op, pStr t.act, pTrs t.l] := fun _ => rfl
                 rw [ec, ec]
                 refine nav ?_
                 (refine aC_region ?_ <;> refine xL 53 (q_fldo 6 tFl24_0_PtI) ?_ <;> (refine yL 54 (q_ldo 6 tNa3_PtI) fun v54 hv54 => ?_; cases hv54) <;> refine xL 55 q_eql ?_ <;> refine xL 56 q_move ?_ <;> (refine bLd 56 (fun hb56 => ?_) (fun hb56 => ?_) <;> (first | refine kL 57 ?_ | refine xL 57 (q_fldo 7 tFl24_0_PtI) ?_)) <;> (first | refine kL 58 ?_ | (refine yL 58 (q_ldo 7 tNa3_PtI) fun v58 hv58 => ?_; cases hv58)) <;> (first | refine kL 59 ?_ | refine xL 59 q_eql ?_) <;> refine xL 60 q_pick ?_ <;> refine aL_end (nav ?_) <;> try dsimp only) <;> (
                  (first | refine cCd ?_ ?_ | refine cC ?_ ?_) <;> intro hb60
                  · first
                    | exact Bool.noConfusion hb60
                    | (
                     rw [if_pos (by omega)] at hres
                     refine nav ?_
                     (refine aC_region ?_ <;> refine xL 61 (q_build tSt24_PtI) ?_ <;> (refine aL_ent (rslot (t := 61) (p' := pTr silT) rfl rr_sil) fun _ => ?_; refine s_sta 2 tAgg24_PtI ?_) <;> refine aL_end (nav ?_) <;> try dsimp only)
                     refine ret_cell (k := 3) 2 (by kernel_rfl) (Tryz.results42) rfl rfl (Nat.le_of_ble_eq_true rfl) (by decide) rfl ?_
                     rw [hres]; rfl)
                  · first
                    | exact Bool.noConfusion hb60
                    | (
                     rw [if_neg (by omega)] at hres
                     refine nav ?_
                     (refine aC_region ?_ <;> (refine yL 62 (q_ldao 6 tAgg24_PtI) fun v62 hv62 => ?_; cases hv62) <;> (refine yL 63 (q_ldao 7 tAgg24_PtI) fun v63 hv63 => ?_; cases hv63) <;> (refine s_lita (kk := 3) (xs := [_, _]) (cs := [[_, _, _], [_, _, _]]) 64 tEl22_PtI fun h64 ho64 => ?_; refine aL_ent (En.freeze (l := 64) (t := 64) rfl rfl) fun _ => ?_; refine aL_ent (reslot (t := 64) (p' := pTrs [X, Y]) rfl (Eq.trans (show _ = PV.sl 2 ([X, Y].flatMap cN) from rfl) (two_trs X Y))) fun _ => ?_) <;> refine xL 65 (q_build tSt24_PtI) ?_ <;> refine s_sta 2 tAgg24_PtI ?_ <;> refine aL_end (nav ?_) <;> try dsimp only)
                     refine ret_cell (k := 3) 2 (by kernel_rfl) (Tryz.results42) rfl rfl (Nat.le_of_ble_eq_true rfl) (by decide) rfl ?_
                     rw [hres]; rfl)))
          · first
            | exact Bool.noConfusion hb31
            | (
             refine nav ?_
             refine aC_ent (En.freeze (l := 200) (t := 3) rfl rfl) fun _ => ?_
             rw [share_trs _ _ _ rfl]
             (refine aC_region ?_ <;> refine xL 66 (q_fldo 1 tFl24_0_PtI) ?_ <;> (refine yL 67 (q_ldo 1 tNa3_PtI) fun v67 hv67 => ?_; cases hv67) <;> refine xL 68 q_move ?_ <;> (refine cD 69 (cA Tryz.call66 (tJoin_e o (norL l) (by omega) (by omega) hnf (by omega))) fun v69 hv69 => ?_; clear hv69) <;> refine s_sta 2 tAgg24_PtI ?_ <;> refine aL_end (nav ?_) <;> try dsimp only)
             refine ret_cell (k := 3) 2 (by kernel_rfl) (Tryz.results42) rfl rfl (Nat.le_of_ble_eq_true rfl) (by decide) rfl ?_
             rw [norT, nodT, if_neg (by omega), if_neg (by omega)]; rfl)))
    · first
      | exact Bool.noConfusion hb23
      | (
       refine nav ?_
       (refine aC_region ?_ <;> refine xL 25 q_eql ?_ <;> refine xL 23 q_assign ?_ <;> refine aL_end (nav ?_) <;> try dsimp only)
       (first | refine cCd ?_ ?_ | refine cC ?_ ?_) <;> intro hb23
       · first
         | exact Bool.noConfusion hb23
         | (
          refine nav ?_
          (refine aC_region ?_ <;> refine xL 26 (q_fldo 1 tFl24_0_PtI) ?_ <;> (refine yL 27 (q_ldo 1 tNa3_PtI) fun v27 hv27 => ?_; cases hv27) <;> refine xL 28 (q_fldo 1 tFl24_1_PtI) ?_ <;> (refine yL 29 (q_ldo 1 tNa9_PtI) fun v29 hv29 => ?_; cases hv29) <;> refine xL 30 (q_build tSt24_PtI) ?_ <;> (refine aL_ent (rslot (t := 30) (p' := pTr (.mk o a [])) rfl (rr_leaf o a)) fun _ => ?_; refine s_sta 2 tAgg24_PtI ?_) <;> refine aL_end (nav ?_) <;> try dsimp only)
          refine ret_cell (k := 3) 2 (by kernel_rfl) (Tryz.results42) rfl rfl (Nat.le_of_ble_eq_true rfl) (by decide) rfl ?_
          rw [norT, nodT, if_pos (by omega)]; rfl)
       · first
         | exact Bool.noConfusion hb23
         | (
          refine nav ?_
          (refine aC_region ?_ <;> refine xL 32 q_eql ?_ <;> refine xL 31 q_assign ?_ <;> refine aL_end (nav ?_) <;> try dsimp only)
          (first | refine cCd ?_ ?_ | refine cC ?_ ?_) <;> intro hb31
          · first
            | exact Bool.noConfusion hb31
            | (
             obtain ⟨f0, s0, hl2⟩ := loop_two hr (show o = 6 from by omega)
             obtain rfl : l = [f0, s0] := hl2
             have ho6 : o = 6 := by omega
             have hres : norT (.mk o a [f0, s0]) = lopE (lop2 (norT f0) (norT s0)) := by rw [norT, nodT, if_neg (by omega), if_pos ho6]; rfl
             have hF1 := nor_ok (hp f0 (by simp))
             have hS1 := nor_ok (hp s0 (by simp))
             have hFz := sz_nor f0
             have hSz := sz_nor s0
             have hfF := hnf (norT f0) (by simp [norL])
             have hfS := hnf (norT s0) (by simp [norL])
             rw [szL_two] at hsz
             have e3 : ((cTrs (norL [f0, s0])).drop (0 * 3)).take 3 = [pInt (norT f0).op, pStr (norT f0).act, pTrs (norT f0).l] := tr_drop (k := 0) rfl
             have e4 : 0 * 3 + 3 ≤ (cTrs (norL [f0, s0])).length := tr_fit (k := 0) (x := norT f0) rfl
             have e5 : ((cTrs (norL [f0, s0])).drop (1 * 3)).take 3 = [pInt (norT s0).op, pStr (norT s0).act, pTrs (norT s0).l] := tr_drop (k := 1) rfl
             have e6 : 1 * 3 + 3 ≤ (cTrs (norL [f0, s0])).length := tr_fit (k := 1) (x := norT s0) rfl
             refine nav ?_
             refine aC_mid (fun q : Value × Value × Value => ⟨[(2, padd (sbase q.1) 0, .val (padd (sbase q.1) 0)), (6, padd (sbase q.2.1) 0, .val (padd (sbase q.2.1) 0)), (7, padd (sbase q.2.2) 0, .val (padd (sbase q.2.2) 0))], [(2, q.1, .own 24 3 1 [.val (.int .i64 0), .val (.string ByteArray.empty), .val (.slice none 0 0)]), (6, q.2.1, .own 24 3 1 [pInt (norT f0).op, pStr (norT f0).act, pTrs (norT f0).l]), (7, q.2.2, .own 24 3 1 [pInt (norT s0).op, pStr (norT s0).act, pTrs (norT s0).l])]⟩) ?_ ?_
             · (refine aC_draw (fun i => ([] : List Nat).elem i) [200] (by kernel_rfl) ?_ <;> refine xD 0 33 rfl q_move ?_ <;> refine xD 1 34 rfl (q_idxoN 200 tSl22_PtI) ?_ <;> (refine yD 2 35 rfl (q_ldao 200 tAgg24_PtI) fun v35 hv35 => ?_; cases hv35) <;> refine xD 3 36 rfl q_move ?_ <;> refine xD 4 37 rfl (q_idxoN 200 tSl22_PtI) ?_ <;> (refine yD 5 38 rfl (q_ldao 200 tAgg24_PtI) fun v38 hv38 => ?_; cases hv38) <;> (refine aD_two 6 7 (by kernel_rfl) ?_ ?_; rotate_right; (focus ((refine aW_run rfl fun w9 M9 N9 DQ back => ?_) <;> refine s_alloc [(.int .i64 0), (.string ByteArray.empty), (.slice none 0 0)] 3 7 tZr24_PtI fun h7 => ?_ <;> refine aL_end (back _ (nrm ?_)) <;> (refine aD_one 6 (by kernel_rfl) ?_) <;> (refine aW_run rfl fun w9 M9 N9 DQ back => ?_) <;> refine s_alloc [(.int .i64 0), (.string ByteArray.empty), (.slice none 0 0)] 3 6 tZr24_PtI fun h6 => ?_ <;> refine aL_end (back _ (nrm ?_)) <;> (refine aD_one 8 (by kernel_rfl) ?_) <;> (refine aW_run rfl fun w9 M9 N9 DQ back => ?_) <;> refine s_sta 6 tAgg24_PtI ?_ <;> refine aL_end (back _ (nrm ?_)) <;> (refine aD_one 9 (by kernel_rfl) ?_) <;> (refine aW_run rfl fun w9 M9 N9 DQ back => ?_) <;> refine s_sta 7 tAgg24_PtI ?_ <;> refine aL_end (back _ (nrm ?_)))); rotate_right; (focus ((refine aW_run rfl fun w9 M9 N9 DQ back => ?_) <;> refine s_alloc [(.int .i64 0), (.string ByteArray.empty), (.slice none 0 0)] 3 6 tZr24_PtI fun h6 => ?_ <;> refine aL_end (back _ (nrm ?_)) <;> (refine aD_one 7 (by kernel_rfl) ?_) <;> (refine aW_run rfl fun w9 M9 N9 DQ back => ?_) <;> refine s_alloc [(.int .i64 0), (.string ByteArray.empty), (.slice none 0 0)] 3 7 tZr24_PtI fun h7 => ?_ <;> refine aL_end (back _ (nrm ?_)) <;> (refine aD_one 8 (by kernel_rfl) ?_) <;> (refine aW_run rfl fun w9 M9 N9 DQ back => ?_) <;> refine s_sta 6 tAgg24_PtI ?_ <;> refine aL_end (back _ (nrm ?_)) <;> (refine aD_one 9 (by kernel_rfl) ?_) <;> (refine aW_run rfl fun w9 M9 N9 DQ back => ?_) <;> refine s_sta 7 tAgg24_PtI ?_ <;> refine aL_end (back _ (nrm ?_))))) <;> refine aD_end (by kernel_rfl) (nav ?_) <;> try dsimp only) <;> (
                exact aN_join (_, _, _) ⟨rfl, rfl, rfl, trivial⟩ ⟨rfl, rfl, rfl, trivial⟩)
             · rintro ⟨h2, h6, h7⟩
               dsimp only
               clear e3 e4 e5 e6
               generalize norT f0 = F at hres hF1 hFz hfF ⊢
               generalize norT s0 = S at hres hS1 hSz hfS ⊢
               refine nav ?_
               (refine aC_region ?_ <;> refine xL 39 (q_fldo 6 tFl24_0_PtI) ?_ <;> (refine yL 40 (q_ldo 6 tNa3_PtI) fun v40 hv40 => ?_; cases hv40) <;> refine xL 41 q_eql ?_ <;> refine aL_end (nav ?_) <;> try dsimp only)
               refine aC_mid (fun _ : Unit => ⟨[(2, padd (sbase h2) 0, .val (padd (sbase h2) 0)), (6, padd (sbase h6) 0, .val (padd (sbase h6) 0)), (7, padd (sbase h7) 0, .val (padd (sbase h7) 0))], [(2, h2, .own 24 3 1 [.val (.int .i64 0), .val (.string ByteArray.empty), .val (.slice none 0 0)]), (6, h6, .own 24 3 1 (cN (lop2 F S).1)), (7, h7, .own 24 3 1 (cN (lop2 F S).2))]⟩) ?_ ?_
               · (first | refine cCd ?_ ?_ | refine cC ?_ ?_) <;> intro hb41
                 · first
                   | exact Bool.noConfusion hb41
                   | (
                    obtain ⟨A, B, hAB⟩ := loop_two (okT_iff.1 hF1).1 hb41
                    have hlop : lop2 F S = (A, joinT 4 [B, S]) := by unfold lop2; rw [if_pos hb41, hAB]
                    have hfA := hfF.p A (by rw [hAB]; simp)
                    have hfB := hfF.p B (by rw [hAB]; simp)
                    have hFe := szT_eq F
                    rw [hAB, szL_two] at hFe
                    rw [hAB]
                    have e3 : ((cTrs [A, B]).drop (0 * 3)).take 3 = [pInt A.op, pStr A.act, pTrs A.l] := tr_drop (k := 0) rfl
                    have e4 : 0 * 3 + 3 ≤ (cTrs [A, B]).length := tr_fit (k := 0) (x := A) rfl
                    have e5 : ((cTrs [A, B]).drop (1 * 3)).take 3 = [pInt B.op, pStr B.act, pTrs B.l] := tr_drop (k := 1) rfl
                    have e6 : 1 * 3 + 3 ≤ (cTrs [A, B]).length := tr_fit (k := 1) (x := B) rfl
                    have hj := tJoin_e 4 [B, S] (by decide) (by decide) (fun x hx => by simp only [List.mem_cons, List.not_mem_nil, or_false] at hx; rcases hx with h | h <;> rw [h] <;> assumption) (by rw [szL_two]; omega)
                    refine nav ?_
                    (refine aC_draw (fun i => ([11, 12] : List Nat).elem i) [6, 7] (by kernel_rfl) ?_ <;> refine xDT 0 42 rfl (q_fldo 6 tFl24_2_PtI) ?_ <;> (refine yDT 1 43 rfl (q_ldo 6 tNa22_PtI) fun v43 hv43 => ?_; cases hv43) <;> refine xDT 2 44 rfl (q_idxN tSl22_PtI) ?_ <;> (refine yDT 3 45 rfl (q_lda tAgg24_PtI) fun v45 hv45 => ?_; cases hv45) <;> refine xDT 4 46 rfl (q_fldo 6 tFl24_2_PtI) ?_ <;> (refine yDT 5 47 rfl (q_ldo 6 tNa22_PtI) fun v47 hv47 => ?_; cases hv47) <;> refine xDT 6 48 rfl (q_idxN tSl22_PtI) ?_ <;> (refine yDT 7 49 rfl (q_lda tAgg24_PtI) fun v49 hv49 => ?_; cases hv49) <;> (refine yE 8 50 rfl (q_ldao 7 tAgg24_PtI) fun v50 hv50 => ?_; cases hv50) <;> (refine aD_one 9 (by kernel_rfl) ?_) <;> (refine aW_run rfl fun w9 M9 N9 DQ back => ?_) <;> (refine s_lita (kk := 3) (xs := [_, _]) (cs := [[_, _, _], [_, _, _]]) 51 tEl22_PtI fun h51 ho51 => ?_; refine aL_ent (En.freeze (l := 51) (t := 51) rfl rfl) fun _ => ?_; refine aL_ent (reslot (t := 51) (p' := pTrs [B, S]) rfl (Eq.trans (show _ = PV.sl 2 ([B, S].flatMap cN) from rfl) (two_trs B S))) fun _ => ?_) <;> refine aL_end (back _ (nrm ?_)) <;> (refine aD_one 10 (by kernel_rfl) ?_) <;> (refine aW_call (d := 52) rfl (cA (Tryz.call66) hj) fun v52 hv52 => ?_; cases hv52) <;> (refine aD_one 11 (by kernel_rfl) ?_) <;> (refine aW_thenZ rfl rfl fun DQ back => ?_) <;> refine s_sta 6 tAgg24_PtI ?_ <;> refine aL_end (back _ ?_) <;> (refine aDZ_one 12 (by kernel_rfl) rfl rfl fun DQ back => ?_) <;> refine s_sta 7 tAgg24_PtI ?_ <;> refine aL_end (back _ ?_) <;> refine aDZ_end (by kernel_rfl) (nav ?_) <;> try dsimp only)
                    refine aN_ent (recast (l := 6) (p' := .own 24 3 1 (cN (lop2 F S).1)) rfl (by rw [hlop]; rfl)) fun _ => ?_
                    refine aN_ent (recast (l := 7) (p' := .own 24 3 1 (cN (lop2 F S).2)) rfl (by rw [hlop]; rfl)) fun _ => ?_
                    exact aN_join () ⟨rfl, rfl, rfl, trivial⟩ ⟨rfl, rfl, rfl, trivial⟩)
                 · first
                   | exact Bool.noConfusion hb41
                   | (
                    have hlop : lop2 F S = (F, S) := by unfold lop2; rw [if_neg hb41]
                    refine aC_ent (recast (l := 6) (p' := .own 24 3 1 (cN (lop2 F S).1)) rfl (by rw [hlop]; rfl)) fun _ => ?_
                    refine aC_ent (recast (l := 7) (p' := .own 24 3 1 (cN (lop2 F S).2)) rfl (by rw [hlop]; rfl)) fun _ => ?_
                    refine nav ?_
                    exact aN_join () ⟨rfl, rfl, rfl, trivial⟩ ⟨rfl, rfl, rfl, trivial⟩)
               · rintro _
                 unfold lopE at hres
                 generalize (lop2 F S).1 = X at hres ⊢
                 generalize (lop2 F S).2 = Y at hres ⊢
                 have ec : ∀ t : Nd, cN t = [pInt t.op, pStr t.act, pTrs t.l] := fun _ => rfl
                 rw [ec, ec]
                 refine nav ?_
                 (refine aC_region ?_ <;> refine xL 53 (q_fldo 6 tFl24_0_PtI) ?_ <;> (refine yL 54 (q_ldo 6 tNa3_PtI) fun v54 hv54 => ?_; cases hv54) <;> refine xL 55 q_eql ?_ <;> refine xL 56 q_move ?_ <;> (refine bLd 56 (fun hb56 => ?_) (fun hb56 => ?_) <;> (first | refine kL 57 ?_ | refine xL 57 (q_fldo 7 tFl24_0_PtI) ?_)) <;> (first | refine kL 58 ?_ | (refine yL 58 (q_ldo 7 tNa3_PtI) fun v58 hv58 => ?_; cases hv58)) <;> (first | refine kL 59 ?_ | refine xL 59 q_eql ?_) <;> refine xL 60 q_pick ?_ <;> refine aL_end (nav ?_) <;> try dsimp only) <;> (
                  (first | refine cCd ?_ ?_ | refine cC ?_ ?_) <;> intro hb60
                  · first
                    | exact Bool.noConfusion hb60
                    | (
                     rw [if_pos (by omega)] at hres
                     refine nav ?_
                     (refine aC_region ?_ <;> refine xL 61 (q_build tSt24_PtI) ?_ <;> (refine aL_ent (rslot (t := 61) (p' := pTr silT) rfl rr_sil) fun _ => ?_; refine s_sta 2 tAgg24_PtI ?_) <;> refine aL_end (nav ?_) <;> try dsimp only)
                     refine ret_cell (k := 3) 2 (by kernel_rfl) (Tryz.results42) rfl rfl (Nat.le_of_ble_eq_true rfl) (by decide) rfl ?_
                     rw [hres]; rfl)
                  · first
                    | exact Bool.noConfusion hb60
                    | (
                     rw [if_neg (by omega)] at hres
                     refine nav ?_
                     (refine aC_region ?_ <;> (refine yL 62 (q_ldao 6 tAgg24_PtI) fun v62 hv62 => ?_; cases hv62) <;> (refine yL 63 (q_ldao 7 tAgg24_PtI) fun v63 hv63 => ?_; cases hv63) <;> (refine s_lita (kk := 3) (xs := [_, _]) (cs := [[_, _, _], [_, _, _]]) 64 tEl22_PtI fun h64 ho64 => ?_; refine aL_ent (En.freeze (l := 64) (t := 64) rfl rfl) fun _ => ?_; refine aL_ent (reslot (t := 64) (p' := pTrs [X, Y]) rfl (Eq.trans (show _ = PV.sl 2 ([X, Y].flatMap cN) from rfl) (two_trs X Y))) fun _ => ?_) <;> refine xL 65 (q_build tSt24_PtI) ?_ <;> refine s_sta 2 tAgg24_PtI ?_ <;> refine aL_end (nav ?_) <;> try dsimp only)
                     refine ret_cell (k := 3) 2 (by kernel_rfl) (Tryz.results42) rfl rfl (Nat.le_of_ble_eq_true rfl) (by decide) rfl ?_
                     rw [hres]; rfl)))
          · first
            | exact Bool.noConfusion hb31
            | (
             refine nav ?_
             refine aC_ent (En.freeze (l := 200) (t := 3) rfl rfl) fun _ => ?_
             rw [share_trs _ _ _ rfl]
             (refine aC_region ?_ <;> refine xL 66 (q_fldo 1 tFl24_0_PtI) ?_ <;> (refine yL 67 (q_ldo 1 tNa3_PtI) fun v67 hv67 => ?_; cases hv67) <;> refine xL 68 q_move ?_ <;> (refine cD 69 (cA Tryz.call66 (tJoin_e o (norL l) (by omega) (by omega) hnf (by omega))) fun v69 hv69 => ?_; clear hv69) <;> refine s_sta 2 tAgg24_PtI ?_ <;> refine aL_end (nav ?_) <;> try dsimp only)
             refine ret_cell (k := 3) 2 (by kernel_rfl) (Tryz.results42) rfl rfl (Nat.le_of_ble_eq_true rfl) (by decide) rfl ?_
             rw [norT, nodT, if_neg (by omega), if_neg (by omega)]; rfl))))
def norX (t : Nd) : PV × Int := if valT t = true then (if valT (norT t) = true then (pTr (norT t), 0) else (zeroN, 5)) else (zeroN, 1)
theorem tNormalX_e (t : Nd) (hf : FitT t) : AF Tryz.prog 16 [pTr t] (· = .tup [(norX t).1, pInt (norX t).2]) := by
 refine AF.of_body 16 Tryz.func16 rfl Tryz.ntmps16 (Nat.le_of_ble_eq_true rfl) ?_
 intro w0 M0 vs hl hv
 obtain ⟨v0, rfl⟩ := len1 hl
 clear hl hv
 have e0 : pTr t = .agg [pInt t.op, pStr t.act, pTrs t.l] := rfl
 rw [e0]
 refine nav ?_
 (refine aC_region ?_ <;> refine s_boxa 1 3 fun h1 => ?_ <;> refine s_alloc [(.int .i64 0), (.string ByteArray.empty), (.slice none 0 0)] 3 2 tZr24_PtI fun h2 => ?_ <;> refine xL 3 q_assign ?_ <;> refine aL_end (nav ?_) <;> try dsimp only)
 (refine aC_region ?_ <;> (refine yL 5 (q_ldao 1 tAgg24_PtI) fun v5 hv5 => ?_; cases hv5) <;> (refine cS 6 (cA Tryz.call26 (tValid_e t hf)) fun v6 hv6 => ?_; cases hv6) <;> refine xL 7 q_not ?_ <;> refine aL_end (nav ?_) <;> try dsimp only)
 (first | refine cCd ?_ ?_ | refine cC ?_ ?_) <;> intro hb7
 · first
   | exact Bool.noConfusion hb7
   | (
    refine nav ?_
    (refine aC_region ?_ <;> refine xL 8 (q_build tSt24_PtI) ?_ <;> refine s_sta 2 tAgg24_PtI ?_ <;> refine xL 3 q_assign ?_ <;> refine aL_end (nav ?_) <;> try dsimp only)
    refine ret_cs (k := 3) 2 (by kernel_rfl) (Tryz.results16) rfl rfl rfl (Nat.le_of_ble_eq_true rfl) (by decide) rfl ?_
    rw [show norX t = (zeroN, 1) by unfold norX; rw [if_neg (by simpa using hb7)]]; rfl)
 · first
   | exact Bool.noConfusion hb7
   | (
    have hv : valT t = true := by simpa using hb7
    have hsz := val_sz hv
    have hok := val_ok hv
    have hfn := fit_nor hok (by omega)
    refine nav ?_
    (refine aC_region ?_ <;> (refine yL 9 (q_ldao 1 tAgg24_PtI) fun v9 hv9 => ?_; cases hv9) <;> (refine cD 10 (cA Tryz.call42 (tNormal_e t hok (by omega))) fun v10 hv10 => ?_; clear hv10) <;> refine s_alloc [(.int .i64 0), (.string ByteArray.empty), (.slice none 0 0)] 3 4 tZr24_PtI fun h4 => ?_ <;> refine s_sta 4 tAgg24_PtI ?_ <;> refine aL_end (nav ?_) <;> try dsimp only)
    have e1 : cN (norT t) = [pInt (norT t).op, pStr (norT t).act, pTrs (norT t).l] := rfl
    (refine aC_region ?_ <;> (refine yL 11 (q_ldao 4 tAgg24_PtI) fun v11 hv11 => ?_; cases hv11) <;> (refine cS 12 (cA Tryz.call26 (tValid_e (norT t) hfn)) fun v12 hv12 => ?_; cases hv12) <;> refine xL 13 q_not ?_ <;> refine aL_end (nav ?_) <;> try dsimp only)
    (first | refine cCd ?_ ?_ | refine cC ?_ ?_) <;> intro hb13
    · first
      | exact Bool.noConfusion hb13
      | (
       refine nav ?_
       (refine aC_region ?_ <;> refine xL 14 (q_build tSt24_PtI) ?_ <;> refine s_sta 2 tAgg24_PtI ?_ <;> refine xL 3 q_assign ?_ <;> refine aL_end (nav ?_) <;> try dsimp only)
       refine ret_cs (k := 3) 2 (by kernel_rfl) (Tryz.results16) rfl rfl rfl (Nat.le_of_ble_eq_true rfl) (by decide) rfl ?_
       rw [show norX t = (zeroN, 5) by unfold norX; rw [if_pos hv, if_neg (by simpa using hb13)]]; rfl)
    · first
      | exact Bool.noConfusion hb13
      | (
       refine nav ?_
       (refine aC_region ?_ <;> (refine yL 15 (q_ldao 4 tAgg24_PtI) fun v15 hv15 => ?_; cases hv15) <;> refine s_sta 2 tAgg24_PtI ?_ <;> refine xL 3 q_assign ?_ <;> refine aL_end (nav ?_) <;> try dsimp only)
       refine ret_cs (k := 3) 2 (by kernel_rfl) (Tryz.results16) rfl rfl rfl (Nat.le_of_ble_eq_true rfl) (by decide) rfl ?_
       rw [show norX t = (pTr (norT t), 0) by unfold norX; rw [if_pos hv, if_pos (by simpa using hb13)]]; rfl))
theorem tAgg24_PtX : AggT Tryz.prog 24 3 = true := by kernel_rfl
theorem tAgg71_PtX : AggT Tryz.prog 71 5 = true := by kernel_rfl
theorem tEl22_PtX : ElT Tryz.prog 22 24 3 48 (.agg #[(.int .i64 0), (.string ByteArray.empty), (.slice none 0 0)]) := ⟨Tryz.underlying22, by kernel_rfl, rfl, by decide⟩
theorem tFl108_0_PtX : FldT Tryz.prog 108 0 0 = true := by kernel_rfl
theorem tFl108_1_PtX : FldT Tryz.prog 108 1 1 = true := by kernel_rfl
theorem tFl24_2_PtX : FldT Tryz.prog 24 2 2 = true := by kernel_rfl
theorem tFl71_0_PtX : FldT Tryz.prog 71 0 0 = true := by kernel_rfl
theorem tFl71_1_PtX : FldT Tryz.prog 71 1 1 = true := by kernel_rfl
theorem tNa22_PtX : NoAgg Tryz.prog 22 = true := by kernel_rfl
theorem tNa3_PtX : NoAgg Tryz.prog 3 = true := by kernel_rfl
theorem tNa67_PtX : NoAgg Tryz.prog 67 = true := by kernel_rfl
theorem tNa9_PtX : NoAgg Tryz.prog 9 = true := by kernel_rfl
theorem tSl22_PtX : SlT Tryz.prog 22 24 3 = true := by kernel_rfl
theorem tSl67_PtX : SlT Tryz.prog 67 71 5 = true := by kernel_rfl
theorem tSq104_PtX : stInfo Tryz.prog 104 = some ((.agg #[(.int .i64 0), (.string ByteArray.empty), (.int .i64 0), (.int .i64 0), (.int .i64 0)]), [(0, 5)]) := by kernel_rfl
theorem tSt24_PtX : stInfo Tryz.prog 24 = some ((.agg #[(.int .i64 0), (.string ByteArray.empty), (.slice none 0 0)]), ([0, 1, 2] : List Nat).map fun o => (o, 1)) := by kernel_rfl
theorem tSz22_PtX : (Tryz.prog.info? 22).map (·.size) = some 1 := by kernel_rfl
theorem tSz3_PtX : (Tryz.prog.info? 3).map (·.size) = some 1 := by kernel_rfl
theorem tZr24_PtX : ZeroT Tryz.prog 24 (.agg #[(.int .i64 0), (.string ByteArray.empty), (.slice none 0 0)]) := by unfold ZeroT; kernel_rfl
theorem tZr71_PtX : ZeroT Tryz.prog 71 (.agg #[(.int .i64 0), (.string ByteArray.empty), (.int .i64 0), (.int .i64 0), (.int .i64 0)]) := by unfold ZeroT; kernel_rfl
theorem suf_drop {L m : List Tk} (h : m <:+ L) : L.drop (L.length - m.length) = m ∧ m.length ≤ L.length := ⟨(List.suffix_iff_eq_drop.1 h).symm, h.length_le⟩
theorem get_drop {L m : List Tk} {i : Nat} {x : Tk} (h : L.drop i = x :: m) : L[i]? = some x := by
 have : (L.drop i)[0]? = some x := by rw [h]; rfl
 rwa [List.getElem?_drop, Nat.add_zero] at this
theorem drop_tl {L m : List Tk} {i : Nat} {x : Tk} (h : L.drop i = x :: m) : L.drop (i + 1) = m := by rw [← List.drop_drop, h]; rfl
theorem EndL.cons {l : List Tk} (h : EndL l) : ∃ x m, l = x :: m := by
 cases l with
 | nil => exact absurd rfl h.ne
 | cons x m => exact ⟨x, m, rfl⟩
abbrev TreeP (b : Nat) (L : List Tk) (f : Nat) (m : List Tk) (ch : List PanicEntry) (h : List (Nat × Ent)) : Prop := ∃ t, rdT f m = .err t ∧ ch = panT t ∧ ∃ j, h = RtH b L j
def TreeC (b : Nat) (L : List Tk) (f : Nat) : Prop := ∀ m : List Tk, m <:+ L → EndL m → m.length < f → AFp False Tryz.prog 61 [(0, ptr1 b, .val (ptr1 b))] (RtH b L (L.length - m.length)) (fun _ q h => ∃ t m2, rdT f m = .ok t m2 ∧ q = pTr t ∧ h = RtH b L (L.length - m2.length)) (TreeP b L f m)
set_option maxHeartbeats 4000000 in
theorem tTree_step (b : Nat) (L : List Tk) (hL : L.length ≤ 10000) (hT : ∀ x ∈ L, TkOk x) (f : Nat) (ih : ∀ f', f' ≤ f → TreeC b L f') (t0 : Tk) (m1 : List Tk) (hs : t0 :: m1 <:+ L) (he : EndL (t0 :: m1)) (hf : (t0 :: m1).length < f + 1) (i : Nat) (hi0 : i = L.length - (t0 :: m1).length) : AFp False Tryz.prog 61 [(0, ptr1 b, .val (ptr1 b))] (RtH b L i) (fun _ q h => ∃ t m2, rdT (f + 1) (t0 :: m1) = .ok t m2 ∧ q = pTr t ∧ h = RtH b L (L.length - m2.length)) (TreeP b L (f + 1) (t0 :: m1)) := by
 obtain ⟨hdi, hml⟩ := suf_drop hs
 rw [← hi0] at hdi
 rw [List.length_cons] at hf hml hi0
 have hiL : i + (m1.length + 1) = L.length := by omega
 have hx := get_drop hdi
 have hdi1 := drop_tl hdi
 have hok0 := hT t0 (List.mem_of_getElem? hx)
 have e1 : ((cTks L).drop (i * 5)).take 5 = [pInt t0.kind, pB t0.text, pInt t0.n, pInt t0.ln, pInt t0.col] := tks_drop hx
 have e2 : i * 5 + 5 ≤ (cTks L).length := tks_fit hx
 have hI : ∀ s : List UInt8, AFh False Tryz.prog 86 [(0, ptr1 b, .val (ptr1 b)), (1, .int .i64 0, .val (.int .i64 0)), (2, .string (bst s), pB s)] (RtH b L i) (fun u q h => u = .bool (isSy (t0 :: m1) s) ∧ q = pBool (isSy (t0 :: m1) s) ∧ h = RtH b L i) := fun s => by
  have := tIs_e b L i s (by omega) (by omega)
  rw [hdi] at this; exact this
 have hI1 : ∀ s : List UInt8, AFh False Tryz.prog 86 [(0, ptr1 b, .val (ptr1 b)), (1, .int .i64 0, .val (.int .i64 0)), (2, .string (bst s), pB s)] (RtH b L (i + 1)) (fun u q h => u = .bool (isSy m1 s) ∧ q = pBool (isSy m1 s) ∧ h = RtH b L (i + 1)) := fun s => by
  have := tIs_e b L (i + 1) s (by omega) (by omega)
  rw [hdi1] at this; exact this
 unfold RtH
 refine AFp.of_body 110 Tryz.func61 rfl Tryz.ntmps61 (Nat.le_of_ble_eq_true rfl) rfl ?_
 intro w0 M0 N0
 refine nav ?_
 (refine aC_region ?_ <;> refine s_alloc [(.int .i64 0), (.string ByteArray.empty), (.slice none 0 0)] 3 2 tZr24_PtX fun h2 => ?_ <;> refine aL_end (nav ?_) <;> try dsimp only)
 (refine aC_draw (fun i => ([] : List Nat).elem i) [1000] (by kernel_rfl) ?_ <;> refine xD 0 6 rfl q_move ?_ <;> refine xD 1 7 rfl (q_nilo 1000) ?_ <;> refine xD 2 8 rfl (q_fldo 1000 tFl108_0_PtX) ?_ <;> (refine yD 3 9 rfl (q_ldo 1000 tNa67_PtX) fun v9 hv9 => ?_; cases hv9) <;> refine xD 4 10 rfl q_move ?_ <;> refine xD 5 11 rfl (q_nilo 1000) ?_ <;> refine xD 6 12 rfl (q_fldo 1000 tFl108_1_PtX) ?_ <;> (refine yD 7 13 rfl (q_ldo 1000 tNa3_PtX) fun v13 hv13 => ?_; cases hv13) <;> refine xD 8 14 rfl (q_idxN tSl67_PtX) ?_ <;> (refine yD 9 15 rfl (q_lda tAgg71_PtX) fun v15 hv15 => ?_; cases hv15) <;> (refine aD_one 10 (by kernel_rfl) ?_) <;> (refine aW_run rfl fun w9 M9 N9 DQ back => ?_) <;> refine s_alloc [(.int .i64 0), (.string ByteArray.empty), (.int .i64 0), (.int .i64 0), (.int .i64 0)] 5 3 tZr71_PtX fun h3 => ?_ <;> refine aL_end (back _ (nrm ?_)) <;> (refine aD_one 11 (by kernel_rfl) ?_) <;> (refine aW_run rfl fun w9 M9 N9 DQ back => ?_) <;> refine s_sta 3 tAgg71_PtX ?_ <;> refine aL_end (back _ (nrm ?_)) <;> refine aD_end (by kernel_rfl) (nav ?_) <;> try dsimp only)
 refine aC_ent (recast (l := 3) (p' := .own 71 5 1 [pInt t0.kind, pB t0.text, pInt t0.n, pInt t0.ln, pInt t0.col]) rfl rfl) fun _ => ?_
 (refine aC_region ?_ <;> refine xL 17 q_move ?_ <;> (refine aL_ch [2, 3] 18 (Tryz.call86) (hI [40]) ?_; rintro _ _ _ ⟨rfl, rfl, rfl⟩; dsimp only [RtH]) <;> refine xL 16 q_assign ?_ <;> refine aL_end (nav ?_) <;> try dsimp only)
 (first | refine cCd ?_ ?_ | refine cC ?_ ?_) <;> intro hb16
 · first
   | exact Bool.noConfusion hb16
   | (
    have h40 : isSy (t0 :: m1) [40] = true := hb16
    have hr : rdT (f + 1) (t0 :: m1) = (if isSy m1 [41] then .ok silT m1.tail else .err (m1.headD tk0)) := by rw [rdT, if_pos h40]
    have hk0 : t0.kind = 4 := by obtain ⟨t', m', hc, hk, _⟩ := isSy_cons h40; cases hc; exact hk
    have he1 := he.tail (by omega)
    obtain ⟨x1, m2, rfl⟩ := he1.cons
    have hx1 := get_drop hdi1
    rw [List.length_cons] at hiL
    refine nav ?_
    (refine aC_region ?_ <;> refine xL 19 q_move ?_ <;> refine xL 20 (q_nilo 1000) ?_ <;> refine xL 21 (q_fldo 1000 tFl108_1_PtX) ?_ <;> (refine yL 22 (q_ldo 1000 tNa3_PtX) fun v22 hv22 => ?_; cases hv22) <;> refine xL 23 q_add ?_ <;> refine xL 24 (q_nilo 1000) ?_ <;> refine xL 25 (q_fldo 1000 tFl108_1_PtX) ?_ <;> refine s_st 1000 tNa3_PtX tSz3_PtX ?_ <;> refine aL_end (nav ?_) <;> try dsimp only)
    (refine aC_region ?_ <;> refine xL 26 q_move ?_ <;> (refine aL_heap [(2, _, _), (3, _, _), (1000, hdr1 b, .own 108 2 1 [pTks L, pInt ((i + 1 : Nat) : Int)])] ⟨rfl, rfl, rfl, trivial⟩ ?_; refine aL_cp [2, 3] 27 (Tryz.call87) (tWant_e b L (i + 1) [41] x1 (by omega) hx1) (fun v27 p27 h27 hR27 => ?_) (fun ch h hRp => by (obtain ⟨hp1, rfl, rfl⟩ := hRp; rw [hdi1] at hp1; exact pan_q (TreeP b L (f + 1) (t0 :: x1 :: m2)) (RtH b L (i + 1)) ⟨rfl, trivial⟩ ⟨x1, by rw [hr, hp1]; rfl, rfl, _, rfl⟩)); obtain ⟨hp1, rfl⟩ := hR27; rw [hdi1] at hp1; dsimp only [RtH]) <;> refine aL_end (nav ?_) <;> try dsimp only)
    (refine aC_region ?_ <;> refine xL 28 (q_build tSt24_PtX) ?_ <;> (refine aL_ent (rslot (t := 28) (p' := pTr silT) rfl (rr_leaf 2 ByteArray.empty)) fun _ => ?_; refine s_sta 2 tAgg24_PtX ?_) <;> refine aL_end (nav ?_) <;> try dsimp only)
    refine ret_toP (ret_hc (k := 3) 2 (RtH b L (i + 1 + 1)) (by kernel_rfl) (Tryz.results61) rfl rfl (Nat.le_of_ble_eq_true rfl) (by decide) rfl ⟨rfl, trivial⟩ fun V => ⟨silT, m2, by rw [hr, hp1]; rfl, rfl, ?_⟩)
    rw [show i + 1 + 1 = L.length - m2.length by omega]; rfl)
 · first
   | exact Bool.noConfusion hb16
   | (
    have h40 : isSy (t0 :: m1) [40] = false := hb16
    refine nav ?_
    (refine aC_region ?_ <;> refine xL 30 (q_fldo 3 tFl71_0_PtX) ?_ <;> (refine yL 31 (q_ldo 3 tNa3_PtX) fun v31 hv31 => ?_; cases hv31) <;> refine xL 32 q_neq ?_ <;> refine xL 29 q_assign ?_ <;> refine aL_end (nav ?_) <;> try dsimp only)
    (first | refine cCd ?_ ?_ | refine cC ?_ ?_) <;> intro hb29
    · first
      | exact Bool.noConfusion hb29
      | (
       refine nav ?_
       (refine aC_region ?_ <;> (refine yL 33 (q_ldao 3 tAgg71_PtX) fun v33 hv33 => ?_; cases hv33) <;> (refine yL 34 (q_buildM tSq104_PtX) fun v34 hv34 => ?_; cases hv34) <;> refine xL 35 (q_mkif (by kernel_rfl)) ?_ <;> (refine aL_agv (d := 34) (tkV t0) rfl (fun h34 => ?_); subst h34; refine aL_panic ?_; exact pan_q (TreeP b L (f + 1) (t0 :: m1)) (RtH b L i) ⟨rfl, trivial⟩ ⟨t0, by rw [rdT, h40, if_neg Bool.false_ne_true, if_pos (by omega)], rfl, _, rfl⟩) <;> refine aL_end (nav ?_) <;> try dsimp only))
    · first
      | exact Bool.noConfusion hb29
      | (
       have hk1 : t0.kind = 1 := by omega
       have he1 := he.tail (by omega)
       have hr : rdT (f + 1) (t0 :: m1) = (if opOf t0.text = 0 then (if isSy m1 [40] then .err (m1.headD tk0) else .ok (.mk 1 (bst t0.text) []) m1)
        else if isSy m1 [40] then (match rdT f m1.tail with | .err e => .err e | .ok x m2 => rdL f (opOf t0.text) [x] m2)
        else .ok (.mk 1 (bst t0.text) []) m1) := by
        rw [rdT, h40, if_neg Bool.false_ne_true, if_neg (by omega)]
        rfl
       obtain ⟨o, ho⟩ : ∃ o, o = opOf t0.text := ⟨_, rfl⟩
       rw [← ho] at hr
       have hob := opOf_bd t0.text
       rw [← ho] at hob
       have htx := hok0.text
       have hopc := tOperator_e t0.text (by omega)
       rw [← ho] at hopc
       obtain ⟨x1, m2, rfl⟩ := he1.cons
       have hx1 := get_drop hdi1
       have hdi2 := drop_tl hdi1
       have e3 : ((cTks L).drop ((i + 1) * 5)).take 5 = [pInt x1.kind, pB x1.text, pInt x1.n, pInt x1.ln, pInt x1.col] := tks_drop hx1
       have e4 : (i + 1) * 5 + 5 ≤ (cTks L).length := tks_fit hx1
       rw [List.length_cons] at hiL hf
       refine nav ?_
       (refine aC_region ?_ <;> refine xL 36 (q_fldo 3 tFl71_1_PtX) ?_ <;> (refine yL 37 (q_ldo 3 tNa9_PtX) fun v37 hv37 => ?_; cases hv37) <;> (refine cS 38 (cA Tryz.call88 (hopc)) fun v38 hv38 => ?_; cases hv38) <;> refine xL 4 q_assign ?_ <;> refine aL_end (nav ?_) <;> try dsimp only)
       (refine aC_region ?_ <;> refine xL 39 q_move ?_ <;> refine xL 40 (q_nilo 1000) ?_ <;> refine xL 41 (q_fldo 1000 tFl108_1_PtX) ?_ <;> (refine yL 42 (q_ldo 1000 tNa3_PtX) fun v42 hv42 => ?_; cases hv42) <;> refine xL 43 q_add ?_ <;> refine xL 44 (q_nilo 1000) ?_ <;> refine xL 45 (q_fldo 1000 tFl108_1_PtX) ?_ <;> refine s_st 1000 tNa3_PtX tSz3_PtX ?_ <;> refine aL_end (nav ?_) <;> try dsimp only)
       (refine aC_region ?_ <;> refine xL 46 q_move ?_ <;> refine xL 47 q_eql ?_ <;> refine xL 48 q_move ?_ <;> (refine bLd 48 (fun hb48 => ?_) (fun hb48 => ?_) <;> (first | refine kL 49 ?_ | refine xL 49 q_move ?_)) <;> (first | refine kL 50 ?_ | refine kL 50 ?_ | (refine aL_heap [(2, _, _), (3, _, _), (1000, hdr1 b, .own 108 2 1 [pTks L, pInt ((i + 1 : Nat) : Int)])] ⟨rfl, rfl, rfl, trivial⟩ ?_; refine aL_ch [2, 3] 50 (Tryz.call86) (hI1 [40]) ?_; rintro _ _ _ ⟨rfl, rfl, rfl⟩; dsimp only [RtH])) <;> (first | refine kL 51 ?_ | refine xL 51 q_not ?_) <;> refine xL 52 q_pick ?_ <;> refine aL_end (nav ?_) <;> try dsimp only) <;> (
        (first | refine cCd ?_ ?_ | refine cC ?_ ?_) <;> intro hb52
        · first
          | exact Bool.noConfusion hb52
          | (
           refine nav ?_
           (refine aC_region ?_ <;> refine xL 53 q_move ?_ <;> (refine aL_heap [(2, _, _), (3, _, _), (1000, hdr1 b, .own 108 2 1 [pTks L, pInt ((i + 1 : Nat) : Int)])] ⟨rfl, rfl, rfl, trivial⟩ ?_; refine aL_ch [2, 3] 54 (Tryz.call86) (hI1 [40]) ?_; rintro _ _ _ ⟨rfl, rfl, rfl⟩; dsimp only [RtH]) <;> refine aL_end (nav ?_) <;> try dsimp only)
           (first | refine cCd ?_ ?_ | refine cC ?_ ?_) <;> intro hb54
           · first
             | exact Bool.noConfusion hb54
             | (
              have h40' : isSy (x1 :: m2) [40] = true := hb54
              refine nav ?_
              (refine aC_drawP (PanX ⟨w0, M0, N0, 110, False, []⟩ (TreeP b L (f + 1) (t0 :: x1 :: m2))) (fun i => ([] : List Nat).elem i) [1000] (by kernel_rfl) (panD (fun _ _ h => h)) ?_ <;> refine xDp 0 55 rfl q_move ?_ <;> refine xDp 1 56 rfl (q_nilo 1000) ?_ <;> refine xDp 2 57 rfl (q_fldo 1000 tFl108_0_PtX) ?_ <;> (refine yDp 3 58 rfl (q_ldo 1000 tNa67_PtX) fun v58 hv58 => ?_; cases hv58) <;> refine xDp 4 59 rfl q_move ?_ <;> refine xDp 5 60 rfl (q_nilo 1000) ?_ <;> refine xDp 6 61 rfl (q_fldo 1000 tFl108_1_PtX) ?_ <;> (refine yDp 7 62 rfl (q_ldo 1000 tNa3_PtX) fun v62 hv62 => ?_; cases hv62) <;> refine xDp 8 63 rfl (q_idxN tSl67_PtX) ?_ <;> (refine yDp 9 64 rfl (q_lda tAgg71_PtX) fun v64 hv64 => ?_; cases hv64) <;> (refine yDp 10 65 rfl (q_buildM tSq104_PtX) fun v65 hv65 => ?_; cases hv65) <;> refine xDp 11 66 rfl (q_mkif (by kernel_rfl)) ?_ <;> (refine aDp_agv (d := 65) (tkV x1) rfl (fun h65 => ?_); subst h65; exact aDp_panic 12 rfl (fun a w F H => H.panW' (RtH b L (i + 1)) ⟨rfl, trivial⟩ ⟨x1, by first | (rw [hr, if_pos (by omega), if_pos h40']; rfl) | (exfalso; simp_all; done), rfl, _, rfl⟩)) <;> try dsimp only))
           · first
             | exact Bool.noConfusion hb54
             | (
              have h40' : isSy (x1 :: m2) [40] = false := by simpa using hb54
              refine nav ?_
              (refine aC_region ?_ <;> refine xL 67 (q_fldo 3 tFl71_1_PtX) ?_ <;> (refine yL 68 (q_ldo 3 tNa9_PtX) fun v68 hv68 => ?_; cases hv68) <;> refine xL 69 (q_build tSt24_PtX) ?_ <;> (refine aL_ent (rslot (t := 69) (p' := pTr (.mk 1 (bst t0.text) [])) rfl (rr_leaf 1 (bst t0.text))) fun _ => ?_; refine s_sta 2 tAgg24_PtX ?_) <;> refine aL_end (nav ?_) <;> try dsimp only)
              refine ret_toP (ret_hc (k := 3) 2 (RtH b L (i + 1)) (by kernel_rfl) (Tryz.results61) rfl rfl (Nat.le_of_ble_eq_true rfl) (by decide) rfl ⟨rfl, trivial⟩ fun V => ⟨.mk 1 (bst t0.text) [], x1 :: m2, ?_, rfl, ?_⟩)
              · rw [hr, h40']; split <;> rfl
              · rw [List.length_cons, show i + 1 = L.length - (m2.length + 1) by omega]; rfl))
        · first
          | exact Bool.noConfusion hb52
          | (
           refine nav ?_
           have ho0 : ¬ o = 0 := by first | omega | simp_all
           have h40' : isSy (x1 :: m2) [40] = true := by first | assumption | simp_all
           have hk1' : x1.kind = 4 := by obtain ⟨t', m', hc, hk, _⟩ := isSy_cons h40'; cases hc; exact hk
           have he2 := he1.tail (by omega)
           have hs2 : m2 <:+ L := ⟨L.take (i + 1 + 1), by rw [← hdi2, List.take_append_drop]⟩
           rw [if_neg ho0, if_pos h40'] at hr
           have hc2 := ih f (Nat.le_refl _) m2 hs2 he2 (by omega)
           rw [show L.length - m2.length = i + 1 + 1 by omega] at hc2
           (refine aC_region ?_ <;> refine xL 70 q_move ?_ <;> refine xL 71 (q_nilo 1000) ?_ <;> refine xL 72 (q_fldo 1000 tFl108_1_PtX) ?_ <;> (refine yL 73 (q_ldo 1000 tNa3_PtX) fun v73 hv73 => ?_; cases hv73) <;> refine xL 74 q_add ?_ <;> refine xL 75 (q_nilo 1000) ?_ <;> refine xL 76 (q_fldo 1000 tFl108_1_PtX) ?_ <;> refine s_st 1000 tNa3_PtX tSz3_PtX ?_ <;> refine aL_end (nav ?_) <;> try dsimp only)
           (refine aC_region ?_ <;> refine xL 77 q_move ?_ <;> refine xL 78 q_move ?_ <;> (refine aL_heap [(2, _, _), (3, _, _), (1000, hdr1 b, .own 108 2 1 [pTks L, pInt ((i + 1 + 1 : Nat) : Int)])] ⟨rfl, rfl, rfl, trivial⟩ ?_; refine aL_cp [2, 3] 79 (Tryz.call61) hc2 (fun v79 p79 h79 hR79 => ?_) (fun ch h hRp => by (obtain ⟨t, hp1, rfl, j, rfl⟩ := hRp; exact pan_q (TreeP b L (f + 1) (t0 :: x1 :: m2)) (RtH b L j) ⟨rfl, trivial⟩ ⟨t, by rw [hr]; show (match rdT f m2 with | .err e => Rd.err e | .ok x m2 => rdL f o [x] m2) = _; rw [hp1], rfl, j, rfl⟩)); obtain ⟨x, m3, hr3, rfl, rfl⟩ := hR79; dsimp only [RtH]) <;> (refine s_lit1a 80 tEl22_PtX fun h80 ho80 => ?_; have hone80 : En.one (PV.val h80) = true := ho80; refine aL_ent (relabel (l := 80) 200 rfl rfl) fun _ => ?_; refine aL_ent (recast (l := 200) rfl (show PV.own 24 3 1 (cN x) = .own 24 3 [x].length (cTrs [x]) by rw [cTrs_eq]; rfl)) fun _ => ?_) <;> refine xL 81 (q_build tSt24_PtX) ?_ <;> refine s_alloc [(.int .i64 0), (.string ByteArray.empty), (.slice none 0 0)] 3 5 tZr24_PtX fun h5 => ?_ <;> (refine aL_ent (reslot (t := 81) (p' := .agg [pInt o, .val (.string ByteArray.empty), .val h80]) rfl rfl) fun _ => ?_; refine s_sta 5 tAgg24_PtX ?_) <;> refine aL_end (nav ?_) <;> try dsimp only)
           have hrd3 := (rd_ok f).1 _ _ _ he2 hr3
           have hr' : rdT (f + 1) (t0 :: x1 :: m2) = rdL f o [x] m3 := by
            rw [hr]; show (match rdT f m2 with | .err e => Rd.err e | .ok x m2 => rdL f o [x] m2) = _; rw [hr3]
           have hl3 := hrd3.lt
           refine aC_loop (ι := { q : (Value × List Nd) × (List Tk × Nat) // (rdL q.2.2 o q.1.2 q.2.1 = rdT (f + 1) (t0 :: x1 :: m2) ∧ q.2.1 <:+ L ∧ EndL q.2.1) ∧ q.2.1.length < q.2.2 ∧ q.2.2 ≤ f ∧ q.1.2.length + q.2.1.length ≤ 10000 ∧ q.1.1.oneCell' = true }) (fun k => ⟨[(0, _, _), (2, _, _), (4, _, _), (5, _, _)], [(2, _, _), (5, h5, .own 24 3 1 [pInt o, .val (.string ByteArray.empty), .val k.1.1.1]), (200, k.1.1.1, .own 24 3 k.1.1.2.length (cTrs k.1.1.2)), (1000, hdr1 b, .own 108 2 1 [pTks L, pInt ((L.length - k.1.2.1.length : Nat) : Int)])]⟩) (fun k => k.1.2.1.length) ⟨((_, [x]), (m3, f)), ⟨hr'.symm, hrd3.suf.trans hs2, hrd3.endl⟩, by dsimp only; omega, Nat.le_refl _, by dsimp only; simp only [List.length_cons, List.length_nil]; omega, ho80⟩ (fun a w H => H.weaken ⟨rfl, rfl, rfl, rfl, trivial⟩ ⟨rfl, rfl, rfl, rfl, trivial⟩) ?_
           rintro ⟨⟨⟨hv, d⟩, ⟨mm, ff⟩⟩, ⟨hre, hsm, hem⟩, hfl, hff, hdl, hov⟩
           dsimp only
           dsimp only at hre hsm hem hfl hff hdl hov; have hone : En.one (PV.val hv) = true := hov
           obtain ⟨xm, mt, rfl⟩ := hem.cons
           obtain ⟨hdm, hmm⟩ := suf_drop hsm
           have hxm := get_drop hdm
           have hdm1 := drop_tl hdm
           obtain ⟨im, him⟩ : ∃ im, im = L.length - (xm :: mt).length := ⟨_, rfl⟩
           rw [← him] at hdm hxm hdm1
           rw [List.length_cons] at hmm him hfl hdl
           have hxl : (xm :: mt).length = mt.length + 1 := rfl
           have hIm : AFh False Tryz.prog 86 [(0, ptr1 b, .val (ptr1 b)), (1, .int .i64 0, .val (.int .i64 0)), (2, .string (bst [44]), pB [44])] (RtH b L (L.length - (xm :: mt).length)) (fun u q h => u = .bool (isSy (xm :: mt) [44]) ∧ q = pBool (isSy (xm :: mt) [44]) ∧ h = RtH b L (L.length - (xm :: mt).length)) := by
            have := tIs_e b L im [44] (by omega) (by omega)
            rw [hdm, him] at this; exact this
           have hWm : ∀ s, AFp False Tryz.prog 87 [(0, ptr1 b, .val (ptr1 b)), (1, .string (bst s), pB s)] (RtH b L (L.length - (xm :: mt).length)) (fun _ _ h => isSy (xm :: mt) s = true ∧ h = RtH b L (im + 1)) (fun ch h => isSy (xm :: mt) s = false ∧ ch = panT xm ∧ h = RtH b L im) := fun s => by
            have := tWant_e b L im s xm (by omega) hxm
            rw [hdm] at this
            rw [List.length_cons, ← him]; exact this
           obtain ⟨g, rfl⟩ : ∃ g, ff = g + 1 := ⟨ff - 1, by omega⟩
           rw [rdL] at hre
           refine nav ?_
           (refine aC_region ?_ <;> refine xL 82 q_move ?_ <;> refine xL 83 q_eql ?_ <;> refine xL 84 q_move ?_ <;> (refine bLd 84 (fun hb84 => ?_) (fun hb84 => ?_) <;> (first | refine kL 85 ?_ | refine xL 85 (q_fldo 5 tFl24_2_PtX) ?_)) <;> (first | refine kL 86 ?_ | (refine yL 86 (q_ldo 5 tNa22_PtX) fun v86 hv86 => ?_; cases hv86)) <;> (first | refine kL 87 ?_ | refine xL 87 (q_leno 200 tSl22_PtX) ?_) <;> (first | refine kL 88 ?_ | refine xL 88 q_lss ?_) <;> refine xL 89 q_pick ?_ <;> refine xL 90 q_move ?_ <;> (first | refine xL 91 q_move ?_ | (refine bLd 90 (fun hb90 => ?_) (fun hb90 => ?_) <;> (first | refine kL 91 ?_ | refine xL 91 q_move ?_))) <;> (first | refine kL 92 ?_ | refine xL 92 q_neq ?_) <;> (first | refine kL 93 ?_ | refine xL 93 q_move ?_) <;> (first | refine kL 94 ?_ | (refine bLd 93 (fun hb93 => ?_) (fun hb93 => ?_) <;> (first | refine kL 94 ?_ | refine xL 94 q_move ?_))) <;> (first | refine kL 95 ?_ | refine kL 95 ?_ | (refine aL_ch [2, 5, 200] 95 (Tryz.call86) hIm ?_; rintro _ _ _ ⟨rfl, rfl, rfl⟩; dsimp only [RtH])) <;> (first | refine kL 96 ?_ | refine xL 96 q_pick ?_) <;> refine xL 97 q_pick ?_ <;> refine aL_end (nav ?_) <;> try dsimp only) <;> (
            (first | refine cCd ?_ ?_ | refine cC ?_ ?_) <;> intro hb97
            · first
              | exact Bool.noConfusion hb97
              | (
               have hcond : (o = 6 ∧ d.length < 2) ∨ (o ≠ 6 ∧ isSy (xm :: mt) [44] = true) := by
                first
                 | exact .inl ⟨by omega, by omega⟩
                 | (refine .inr ⟨by omega, ?_⟩; first | assumption | simp_all)
               rw [if_pos hcond] at hre
               refine nav ?_
               (refine aC_region ?_ <;> refine xL 98 q_move ?_ <;> (refine aL_cp [2, 5, 200] 99 (Tryz.call87) (hWm [44]) (fun v99 p99 h99 hR99 => ?_) (fun ch h hRp => by (obtain ⟨hp1, rfl, rfl⟩ := hRp; exact pan_q (TreeP b L (f + 1) (t0 :: x1 :: m2)) (RtH b L im) ⟨rfl, trivial⟩ ⟨xm, by rw [← hre, hp1]; rfl, rfl, _, rfl⟩)); obtain ⟨hp1, rfl⟩ := hR99; dsimp only [RtH]) <;> refine aL_end (nav ?_) <;> try dsimp only)
               rw [if_pos hp1] at hre
               have hkm : xm.kind = 4 := by obtain ⟨t', m', hc, hk, _⟩ := isSy_cons hp1; cases hc; exact hk
               have het := hem.tail (by omega)
               have hst : mt <:+ L := ⟨L.take (im + 1), by rw [← hdm1, List.take_append_drop]⟩
               have hct := ih g (by omega) mt hst het (by omega)
               rw [show L.length - mt.length = im + 1 by omega] at hct
               (refine aC_drawP (PanX ⟨w0, M0, N0, 110, False, []⟩ (TreeP b L (f + 1) (t0 :: x1 :: m2))) (fun i => ([5, 6, 7] : List Nat).elem i) [5] (by kernel_rfl) (panD (fun _ _ h => h)) ?_ <;> refine xDp 0 100 rfl (q_fldo 5 tFl24_2_PtX) ?_ <;> (refine yDp 1 101 rfl (q_ldo 5 tNa22_PtX) fun v101 hv101 => ?_; cases hv101) <;> refine xDp 2 102 rfl q_move ?_ <;> (refine aDp_run 3 rfl (fun w9 M9 N9 DQ hDP back => ?_)) <;> (refine aL_cp [2, 200] 103 (Tryz.call61) hct (fun v103 p103 h103 hR103 => ?_) (fun ch h hRp a w F H => by (obtain ⟨t, hp2, rfl, j, rfl⟩ := hRp; exact hDP _ _ a w F H (fun F2 H2 => H2.panW' (RtH b L j) ⟨rfl, trivial⟩ ⟨t, by rw [← hre]; show (match rdT g mt with | .err e => Rd.err e | .ok x m2 => rdL g o (d ++ [x]) m2) = _; rw [hp2], rfl, j, rfl⟩))); obtain ⟨y, m4, hr4, rfl, rfl⟩ := hR103; dsimp only [RtH]) <;> refine aL_end (back _ ?_) <;> (refine aDp_run 4 rfl (fun w9 M9 N9 DQ hDP back => ?_)) <;> refine s_lit1a 104 tEl22_PtX fun h104 ho104 => ?_ <;> refine aL_end (back _ ?_) <;> refine aDp_of_Z ?_ <;> (refine aDpZ_one 5 rfl (fun DQ hDP back => ?_)) <;> (refine s_app 200 104 105 tEl22_PtX fun h105 ho105 => ?_; have hone105 : En.one (PV.val h105) = true := ho105; refine aL_ent (relabel (l := 105) 200 rfl rfl) fun _ => ?_; refine aL_ent (recast (l := 200) rfl (show PV.own 24 3 (d.length + 1) (cTrs d ++ cN y) = .own 24 3 (d ++ [y]).length (cTrs (d ++ [y])) by rw [cTrs_snoc, List.length_append]; rfl)) fun _ => ?_) <;> refine aL_end (back _ ?_) <;> (refine aDpZ_one 6 rfl (fun DQ hDP back => ?_)) <;> refine xL 106 (q_fldo 5 tFl24_2_PtX) ?_ <;> refine aL_end (back _ ?_) <;> (refine aDpZ_one 7 rfl (fun DQ hDP back => ?_)) <;> refine s_st 5 tNa22_PtX tSz22_PtX ?_ <;> refine aL_end (back _ ?_) <;> refine aDpZ_end (by kernel_rfl) (nav ?_) <;> try dsimp only)
               have hrd4 := (rd_ok g).1 _ _ _ het hr4
               have hre' : rdL g o (d ++ [y]) m4 = rdT (f + 1) (t0 :: x1 :: m2) := by
                rw [← hre]; show _ = (match rdT g mt with | .err e => Rd.err e | .ok x m2 => rdL g o (d ++ [x]) m2); rw [hr4]
               have hl4 := hrd4.lt
               refine aN_again (
                ⟨((h105, d ++ [y]), (m4, g)), ⟨hre', hrd4.suf.trans hst, hrd4.endl⟩, by dsimp only; omega, by dsimp only; omega, by dsimp only; simp only [List.length_append, List.length_cons, List.length_nil]; omega, ho105⟩
                ) (by dsimp only; omega) ⟨rfl, rfl, rfl, rfl, trivial⟩ ⟨rfl, rfl, rfl, rfl, trivial⟩)
            · first
              | exact Bool.noConfusion hb97
              | (
               have hcond : ¬ ((o = 6 ∧ d.length < 2) ∨ (o ≠ 6 ∧ isSy (xm :: mt) [44] = true)) := by
                rintro (⟨h1, h2⟩ | ⟨h1, h2⟩)
                · first | omega | simp_all
                · first | omega | simp_all
               rw [if_neg hcond] at hre
               refine nav ?_
               (refine aC_region ?_ <;> refine xL 107 q_move ?_ <;> (refine aL_cp [2, 5, 200] 108 (Tryz.call87) (hWm [41]) (fun v108 p108 h108 hR108 => ?_) (fun ch h hRp => by (obtain ⟨hp1, rfl, rfl⟩ := hRp; exact pan_q (TreeP b L (f + 1) (t0 :: x1 :: m2)) (RtH b L im) ⟨rfl, trivial⟩ ⟨xm, by rw [← hre, hp1]; rfl, rfl, _, rfl⟩)); obtain ⟨hp1, rfl⟩ := hR108; dsimp only [RtH]) <;> refine aL_end (nav ?_) <;> try dsimp only)
               rw [if_pos hp1] at hre
               refine aC_ent (freezeCell (l := 5) (l' := 200) (j := 2) rfl rfl rfl rfl) fun _ => ?_
               rw [share_trs _ _ _ rfl]
               (refine aC_region ?_ <;> (refine yL 109 (q_ldao 5 tAgg24_PtX) fun v109 hv109 => ?_; cases hv109) <;> refine s_sta 2 tAgg24_PtX ?_ <;> refine aL_end (nav ?_) <;> try dsimp only)
               refine ret_toP (ret_hc (k := 3) 2 (RtH b L (im + 1)) (by kernel_rfl) (Tryz.results61) rfl rfl (Nat.le_of_ble_eq_true rfl) (by decide) rfl ⟨rfl, trivial⟩ fun V => ⟨.mk o ByteArray.empty d, mt, hre.symm, rfl, ?_⟩)
               rw [show im + 1 = L.length - mt.length by omega]; rfl))))))
theorem tFl71_0_PuT : FldT Tryz.prog 71 0 0 = true := by kernel_rfl
theorem tFl71_1_PuT : FldT Tryz.prog 71 1 1 = true := by kernel_rfl
theorem tNa3_PuT : NoAgg Tryz.prog 3 = true := by kernel_rfl
theorem tNa9_PuT : NoAgg Tryz.prog 9 = true := by kernel_rfl
inductive Re where
 | ok (t : Nd) (m : List Tk)
 | err (m : List Tk)
mutual
def reT : Nat → List Tk → Re
 | 0, _ => .err []
 | f + 1, m => match m with
   | [] => .err []
   | t :: m1 => if isSy (t :: m1) [40] then (if isSy m1 [41] then .ok silT m1.tail else .err m1)
     else if t.kind ≠ 1 then .err (t :: m1)
     else if isSy m1 [40] = false then .ok (.mk 1 (bst t.text) []) m1
     else if opOf t.text = 0 then .err m1
     else (match reT f m1.tail with | .err e => .err e | .ok x m2 => reL f (opOf t.text) [x] m2)
def reL : Nat → Int → List Nd → List Tk → Re
 | 0, _, _, _ => .err []
 | f + 1, op, l, m => if isSy m [41] = true ∧ (op ≠ 6 ∨ l.length = 2) then .ok (.mk op ByteArray.empty l) m.tail
   else if isSy m [44] = true ∧ (op ≠ 6 ∨ l.length < 2) then (match reT f m.tail with | .err e => .err e | .ok x m2 => reL f op (l ++ [x]) m2)
   else .err m
end
def reRd : Re → Rd
 | .ok t m => .ok t m
 | .err m => .err (m.headD tk0)
theorem isSy_ne {m : List Tk} (h : isSy m [41] = true) : isSy m [44] = false := by
 obtain ⟨t, m1, rfl, hk, ht⟩ := isSy_cons h
 show (decide (t.kind = 4) && t.text == [44]) = false
 rw [ht]; simp
theorem re_rd : ∀ f : Nat, (∀ m, rdT f m = reRd (reT f m)) ∧ (∀ op l m, l.length ≤ 2 ∨ op ≠ 6 → 0 < l.length → rdL f op l m = reRd (reL f op l m))
 | 0 => ⟨fun _ => rfl, fun _ _ _ _ _ => rfl⟩
 | f + 1 => by
   obtain ⟨ih1, ih2⟩ := re_rd f
   refine ⟨fun m => ?_, fun op l m hl h0 => ?_⟩
   · cases m with
     | nil => rfl
     | cons t m1 =>
       rw [rdT, reT]
       split
       · split <;> rfl
       · split
         · rfl
         · by_cases ho : opOf t.text = 0
           · rw [if_pos ho]
             cases h40 : isSy m1 [40] with
             | false => rfl
             | true => rw [if_pos rfl, if_neg (by decide), if_pos ho]; rfl
           · rw [if_neg ho]
             cases h40 : isSy m1 [40] with
             | false => rfl
             | true =>
               rw [if_pos rfl, if_neg (by decide), if_neg ho, ih1]
               cases reT f m1.tail with
               | err e => rfl
               | ok x m2 => exact ih2 _ _ _ (.inl (by simp)) (by simp)
   · rw [rdL, reL]
     cases h41 : isSy m [41] with
     | true =>
       have h44 := isSy_ne h41
       rw [h44]
       by_cases hc : op = 6 ∧ l.length < 2
       · rw [if_pos (.inl hc), if_neg (by decide), if_neg (fun h => by have := h.2; omega), if_neg (fun h => Bool.noConfusion h.1)]; rfl
       · rw [if_neg (fun h => by rcases h with h | h; exact hc h; exact Bool.noConfusion h.2), if_pos rfl, if_pos ⟨rfl, by omega⟩]; rfl
     | false =>
       rw [if_neg (fun h : false = true ∧ _ => Bool.noConfusion h.1)]
       cases h44 : isSy m [44] with
       | false =>
         rw [if_neg (fun h : false = true ∧ _ => Bool.noConfusion h.1)]
         split <;> rfl
       | true =>
         by_cases hc : op ≠ 6 ∨ l.length < 2
         · rw [if_pos (show op = 6 ∧ l.length < 2 ∨ op ≠ 6 ∧ true = true by by_cases h6 : op = 6; exact .inl ⟨h6, by omega⟩; exact .inr ⟨h6, rfl⟩), if_pos rfl, if_pos ⟨rfl, hc⟩, ih1]
           cases reT f m.tail with
           | err e => rfl
           | ok x m2 => exact ih2 _ _ _ (by rw [List.length_append, List.length_singleton]; omega) (by rw [List.length_append]; simp)
         · rw [if_neg (fun h : op = 6 ∧ l.length < 2 ∨ op ≠ 6 ∧ true = true => by rcases h with h | h; exact hc (.inr h.2); exact hc (.inl h.1)), if_neg (by decide), if_neg (fun h => hc h.2)]; rfl
theorem re_err : ∀ f : Nat, (∀ m m', EndL m → m.length < f → reT f m = .err m' → m' <:+ m ∧ m' ≠ []) ∧ (∀ op l m m', EndL m → m.length < f → (l.length ≤ 2 ∨ op ≠ 6) → 0 < l.length → reL f op l m = .err m' → m' <:+ m ∧ m' ≠ [])
 | 0 => ⟨fun _ _ _ h => by omega, fun _ _ _ _ _ h => by omega⟩
 | f + 1 => by
   obtain ⟨ih1, ih2⟩ := re_err f
   have hrd := rd_ok f
   have hre := re_rd f
   refine ⟨fun m m' he hf h => ?_, fun op l m m' he hf hl h0 h => ?_⟩
   · cases m with
     | nil => exact absurd rfl he.ne
     | cons t m1 =>
       rw [List.length_cons] at hf
       have hne : t.kind ≠ 5 → m1 ≠ [] ∧ EndL m1 := fun hk => ⟨(he.tail hk).ne, he.tail hk⟩
       rw [reT] at h
       split at h
       · rename_i h40
         obtain ⟨t', m2, hc, hk, _⟩ := isSy_cons h40
         cases hc
         split at h
         · cases h
         · cases h; exact ⟨List.suffix_cons _ _, (hne (by omega)).1⟩
       · split at h
         · cases h; exact ⟨List.suffix_refl _, by simp⟩
         · rename_i hk1
           have hk1 : t.kind = 1 := by simpa using hk1
           obtain ⟨hn1, he1⟩ := hne (by omega)
           split at h
           · cases h
           · rename_i h40
             have h40 : isSy m1 [40] = true := by simpa using h40
             split at h
             · cases h; exact ⟨List.suffix_cons _ _, hn1⟩
             · obtain ⟨t', m2, rfl, hk, _⟩ := isSy_cons h40
               have he2 := he1.tail (by omega)
               rw [List.tail_cons] at h
               rw [List.length_cons] at hf
               have hs : m2 <:+ t :: t' :: m2 := ⟨[t, t'], rfl⟩
               cases hq : reT f m2 with
               | err e =>
                 rw [hq] at h; cases h
                 obtain ⟨h1, h2⟩ := ih1 m2 m' he2 (by omega) hq
                 exact ⟨h1.trans hs, h2⟩
               | ok x m3 =>
                 rw [hq] at h
                 have hok := hrd.1 m2 x m3 he2 (by rw [hre.1, hq]; rfl)
                 obtain ⟨h1, h2⟩ := ih2 _ _ m3 m' hok.endl (by have := hok.lt; omega) (.inl (by simp)) (by simp) h
                 exact ⟨(h1.trans hok.suf).trans hs, h2⟩
   · rw [reL] at h
     split at h
     · cases h
     · split at h
       · rename_i h44
         obtain ⟨t', m2, rfl, hk, _⟩ := isSy_cons h44.1
         have he2 := he.tail (by omega)
         rw [List.tail_cons] at h
         rw [List.length_cons] at hf
         have hs : m2 <:+ t' :: m2 := ⟨[t'], rfl⟩
         cases hq : reT f m2 with
         | err e =>
           rw [hq] at h; cases h
           obtain ⟨h1, h2⟩ := ih1 m2 m' he2 (by omega) hq
           exact ⟨h1.trans hs, h2⟩
         | ok x m3 =>
           rw [hq] at h
           have hok := hrd.1 m2 x m3 he2 (by rw [hre.1, hq]; rfl)
           obtain ⟨h1, h2⟩ := ih2 _ _ m3 m' hok.endl (by have := hok.lt; omega) (by rw [List.length_append, List.length_singleton]; have := h44.2; omega) (by rw [List.length_append]; simp) h
           exact ⟨(h1.trans hok.suf).trans hs, h2⟩
       · cases h; exact ⟨List.suffix_refl _, he.ne⟩
theorem rrWord_e (op : Int) : AF Tryz.prog 56 [pInt op] (· = pStr (wordT op)) := by
 refine AF.of_body 10 Tryz.func56 rfl Tryz.ntmps56 (Nat.le_of_ble_eq_true rfl) ?_
 intro w0 M0 vs hl hv
 obtain ⟨v0, rfl⟩ := len1 hl
 obtain rfl := hv 0 _ _ rfl rfl
 clear hl hv
 refine nav ?_
 (refine aC_region ?_ <;> refine xL 2 q_assign ?_ <;> refine aL_end (nav ?_) <;> try dsimp only)
 (refine aC_region ?_ <;> refine xL 3 q_move ?_ <;> refine aL_end (nav ?_) <;> try dsimp only)
 (refine aC_region ?_ <;> refine xL 5 q_eql ?_ <;> refine xL 4 q_assign ?_ <;> refine aL_end (nav ?_) <;> try dsimp only)
 (first | refine cCd ?_ ?_ | refine cC ?_ ?_) <;> intro hb4
 · first
   | exact Bool.noConfusion hb4
   | (
    refine nav ?_
    (refine aC_region ?_ <;> refine xL 2 q_assign ?_ <;> refine aL_end (nav ?_) <;> try dsimp only)
    refine ret_shr (Tryz.results56) rfl ?_
    rw [wordT, if_pos (by assumption)])
 · first
   | exact Bool.noConfusion hb4
   | (
    refine nav ?_
    (refine aC_region ?_ <;> refine xL 7 q_eql ?_ <;> refine xL 6 q_assign ?_ <;> refine aL_end (nav ?_) <;> try dsimp only)
    (first | refine cCd ?_ ?_ | refine cC ?_ ?_) <;> intro hb6
    · first
      | exact Bool.noConfusion hb6
      | (
       refine nav ?_
       (refine aC_region ?_ <;> refine xL 2 q_assign ?_ <;> refine aL_end (nav ?_) <;> try dsimp only)
       refine ret_shr (Tryz.results56) rfl ?_
       rw [wordT, if_neg (by assumption), if_pos (by assumption)])
    · first
      | exact Bool.noConfusion hb6
      | (
       refine nav ?_
       (refine aC_region ?_ <;> refine xL 9 q_eql ?_ <;> refine xL 8 q_assign ?_ <;> refine aL_end (nav ?_) <;> try dsimp only)
       (first | refine cCd ?_ ?_ | refine cC ?_ ?_) <;> intro hb8
       · first
         | exact Bool.noConfusion hb8
         | (
          refine nav ?_
          (refine aC_region ?_ <;> refine xL 2 q_assign ?_ <;> refine aL_end (nav ?_) <;> try dsimp only)
          refine ret_shr (Tryz.results56) rfl ?_
          rw [wordT, if_neg (by assumption), if_neg (by assumption), if_pos (by assumption)])
       · first
         | exact Bool.noConfusion hb8
         | (
          refine nav ?_
          (refine aC_region ?_ <;> refine xL 2 q_assign ?_ <;> refine aL_end (nav ?_) <;> try dsimp only)
          refine ret_shr (Tryz.results56) rfl ?_
          rw [wordT, if_neg (by assumption), if_neg (by assumption), if_neg (by assumption)])))
theorem rrIs_e (t : Tk) (m : List Tk) (s : List UInt8) : AF Tryz.prog 65 [.agg (cTk t), pB s] (· = pBool (isSy (t :: m) s)) := by
 have e0 : cTk t = [pInt t.kind, pB t.text, pInt t.n, pInt t.ln, pInt t.col] := rfl
 rw [e0]
 refine AF.of_body 14 Tryz.func65 rfl Tryz.ntmps65 (Nat.le_of_ble_eq_true rfl) ?_
 intro w0 M0 vs hl hv
 obtain ⟨v0, v1, rfl⟩ := len2 hl
 obtain rfl := hv 1 _ _ rfl rfl
 clear hl hv
 refine nav ?_
 (refine aC_region ?_ <;> refine s_boxa 2 5 fun h2 => ?_ <;> refine xL 4 q_assign ?_ <;> refine aL_end (nav ?_) <;> try dsimp only)
 (refine aC_region ?_ <;> refine xL 5 (q_fldo 2 tFl71_0_PuT) ?_ <;> (refine yL 6 (q_ldo 2 tNa3_PuT) fun v6 hv6 => ?_; cases hv6) <;> refine xL 7 q_eql ?_ <;> refine xL 8 q_move ?_ <;> (refine bLd 8 (fun hb8 => ?_) (fun hb8 => ?_) <;> (first | refine kL 9 ?_ | refine xL 9 (q_fldo 2 tFl71_1_PuT) ?_)) <;> (first | refine kL 10 ?_ | (refine yL 10 (q_ldo 2 tNa9_PuT) fun v10 hv10 => ?_; cases hv10)) <;> (first | refine kL 11 ?_ | refine xL 11 q_move ?_) <;> (first | refine kL 12 ?_ | refine xL 12 q_seql ?_) <;> refine xL 13 q_pick ?_ <;> refine xL 4 q_assign ?_ <;> refine aL_end (nav ?_) <;> try dsimp only) <;> (
  refine ret_shr (Tryz.results65) rfl ?_
  unfold isSy
  dsimp only
  first
   | (rw [decide_eq_false (by omega)]; rfl)
   | (rw [decide_eq_true (by omega), bst_eq, Bool.true_and]
      have : (t.text == s) = decide (t.text = s) := by rw [Bool.eq_iff_iff]; simp
      rw [this]))
theorem rrFault_e (t : Tk) : AF Tryz.prog 41 [.agg (cTk t)] (· = pInt (if t.kind = 5 then 4 else 3)) := by
 have e0 : cTk t = [pInt t.kind, pB t.text, pInt t.n, pInt t.ln, pInt t.col] := rfl
 rw [e0]
 refine AF.of_body 6 Tryz.func41 rfl Tryz.ntmps41 (Nat.le_of_ble_eq_true rfl) ?_
 intro w0 M0 vs hl hv
 obtain ⟨v0, rfl⟩ := len1 hl
 clear hl hv
 refine nav ?_
 (refine aC_region ?_ <;> refine s_boxa 1 5 fun h1 => ?_ <;> refine xL 2 q_assign ?_ <;> refine aL_end (nav ?_) <;> try dsimp only)
 (refine aC_region ?_ <;> refine xL 3 (q_fldo 1 tFl71_0_PuT) ?_ <;> (refine yL 4 (q_ldo 1 tNa3_PuT) fun v4 hv4 => ?_; cases hv4) <;> refine xL 5 q_eql ?_ <;> refine aL_end (nav ?_) <;> try dsimp only)
 (first | refine cCd ?_ ?_ | refine cC ?_ ?_) <;> intro hb5
 · first
   | exact Bool.noConfusion hb5
   | (
    refine nav ?_
    (refine aC_region ?_ <;> refine xL 2 q_assign ?_ <;> refine aL_end (nav ?_) <;> try dsimp only)
    refine ret_shr (Tryz.results41) rfl ?_
    rw [if_pos (by omega)])
 · first
   | exact Bool.noConfusion hb5
   | (
    refine nav ?_
    (refine aC_region ?_ <;> refine xL 2 q_assign ?_ <;> refine aL_end (nav ?_) <;> try dsimp only)
    refine ret_shr (Tryz.results41) rfl ?_
    rw [if_neg (by omega)])
theorem tAgg24_PuU : AggT Tryz.prog 24 3 = true := by kernel_rfl
theorem tAgg71_PuU : AggT Tryz.prog 71 5 = true := by kernel_rfl
theorem tEl22_PuU : ElT Tryz.prog 22 24 3 48 (.agg #[(.int .i64 0), (.string ByteArray.empty), (.slice none 0 0)]) := ⟨Tryz.underlying22, by kernel_rfl, rfl, by decide⟩
theorem tFl24_0_PuU : FldT Tryz.prog 24 0 0 = true := by kernel_rfl
theorem tFl24_2_PuU : FldT Tryz.prog 24 2 2 = true := by kernel_rfl
theorem tFl71_0_PuU : FldT Tryz.prog 71 0 0 = true := by kernel_rfl
theorem tFl71_1_PuU : FldT Tryz.prog 71 1 1 = true := by kernel_rfl
theorem tNa22_PuU : NoAgg Tryz.prog 22 = true := by kernel_rfl
theorem tNa3_PuU : NoAgg Tryz.prog 3 = true := by kernel_rfl
theorem tNa9_PuU : NoAgg Tryz.prog 9 = true := by kernel_rfl
theorem tSl22_PuU : SlT Tryz.prog 22 24 3 = true := by kernel_rfl
theorem tSl67_PuU : SlT Tryz.prog 67 71 5 = true := by kernel_rfl
theorem tSt24_PuU : stInfo Tryz.prog 24 = some ((.agg #[(.int .i64 0), (.string ByteArray.empty), (.slice none 0 0)]), ([0, 1, 2] : List Nat).map fun o => (o, 1)) := by kernel_rfl
theorem tSz22_PuU : (Tryz.prog.info? 22).map (·.size) = some 1 := by kernel_rfl
theorem tSz3_PuU : (Tryz.prog.info? 3).map (·.size) = some 1 := by kernel_rfl
theorem tZr24_PuU : ZeroT Tryz.prog 24 (.agg #[(.int .i64 0), (.string ByteArray.empty), (.slice none 0 0)]) := by unfold ZeroT; kernel_rfl
def reO (L : List Tk) : Re → PV
 | .ok t m => .tup [pTr t, pInt ((L.length - m.length : Nat) : Int), pBool true]
 | .err m => .tup [pTr nd0, pInt ((L.length - m.length : Nat) : Int), pBool false]
theorem tks_at {L : List Tk} {i : Nat} {x : Tk} {m : List Tk} (h : L.drop i = x :: m) : ((cTks L).drop (i * 5)).take 5 = [pInt x.kind, pB x.text, pInt x.n, pInt x.ln, pInt x.col] ∧ i * 5 + 5 ≤ (cTks L).length := ⟨tks_drop (get_drop h), tks_fit (get_drop h)⟩
theorem tks_f {L : List Tk} {i : Nat} {x : Tk} {m : List Tk} (h : L.drop i = x :: m) : (cTks L)[i * 5 + 0]? = some (pInt x.kind) ∧ (cTks L)[i * 5 + 1]? = some (pB x.text) := by
 obtain ⟨h1, _⟩ := tks_at h
 constructor
 · rw [← List.getElem?_drop, ← List.getElem?_take_of_lt (show 0 < 5 by decide), h1]; rfl
 · rw [← List.getElem?_drop, ← List.getElem?_take_of_lt (show 1 < 5 by decide), h1]; rfl
theorem word_eq (k : Int) (s : List UInt8) : ((wordT k).toList == (bst s).toList) = decide ((wordT k).data.toList = s) := by
 rw [Bool.eq_iff_iff, decide_eq_true_eq]
 exact (strEq_iff (a := wordT k) (b := bst s)).trans ⟨fun h => by rw [h, bst_list], fun h => by rw [← h, bst_eta]⟩
def OpI (s : List UInt8) (k : Nat) (o : Int) : Prop := (o = 0 ∧ ∀ j : Nat, 3 ≤ j → j < k → s ≠ (wordT j).data.toList) ∨ (∃ j : Nat, 3 ≤ j ∧ j < 7 ∧ o = j ∧ s = (wordT j).data.toList)
theorem opOf_no {s : List UInt8} (hp : ∀ j : Nat, 3 ≤ j → j < 7 → s ≠ (wordT j).data.toList) : opOf s = 0 := by
 have h3 : s ≠ [115, 101, 113] := by have := hp 3 (by omega) (by omega); rwa [show (wordT ((3 : Nat) : Int)).data.toList = [115, 101, 113] by decide] at this
 have h4 : s ≠ [120, 111, 114] := by have := hp 4 (by omega) (by omega); rwa [show (wordT ((4 : Nat) : Int)).data.toList = [120, 111, 114] by decide] at this
 have h5 : s ≠ [97, 110, 100] := by have := hp 5 (by omega) (by omega); rwa [show (wordT ((5 : Nat) : Int)).data.toList = [97, 110, 100] by decide] at this
 have h6 : s ≠ [108, 111, 111, 112] := by have := hp 6 (by omega) (by omega); rwa [show (wordT ((6 : Nat) : Int)).data.toList = [108, 111, 111, 112] by decide] at this
 unfold opOf
 rw [if_neg h3, if_neg h4, if_neg h5, if_neg h6]
set_option maxHeartbeats 8000000 in
theorem rrRead_e (L : List Tk) (hL : L.length ≤ 10000) (hT : ∀ x ∈ L, TkOk x) : ∀ (n : Nat) (f : Nat) (m : List Tk), m.length ≤ n → m <:+ L → EndL m → m.length < f → AF Tryz.prog 40 [pTks L, pInt ((L.length - m.length : Nat) : Int)] (· = reO L (reT f m)) := by
 intro n
 induction n with
 | zero =>
   intro f m h1 _ he _
   exact absurd (List.eq_nil_of_length_eq_zero (by omega)) he.ne
 | succ n ih =>
 intro f m0 hmn hs he hf
 obtain ⟨t0, m1, rfl⟩ := he.cons
 obtain ⟨f, rfl⟩ : ∃ g, f = g + 1 := ⟨f - 1, by omega⟩
 obtain ⟨hdi, hml⟩ := suf_drop hs
 obtain ⟨i, hi⟩ : ∃ i, i = L.length - (t0 :: m1).length := ⟨_, rfl⟩
 rw [← hi] at hdi ⊢
 rw [List.length_cons] at hmn hml hi hf
 have hdi1 := drop_tl hdi
 obtain ⟨e1, e2⟩ := tks_at hdi
 have hI := rrIs_e t0 m1 [40]
 rw [show cTk t0 = [pInt t0.kind, pB t0.text, pInt t0.n, pInt t0.ln, pInt t0.col] from rfl] at hI
 have hlen := tks_at hdi
 have hok0 := hT t0 (List.mem_of_getElem? (get_drop hdi))
 obtain ⟨T, hTe⟩ : ∃ T, T = reT (f + 1) (t0 :: m1) := ⟨_, rfl⟩
 rw [← hTe]
 rw [reT] at hTe
 refine AF.of_body 134 Tryz.func40 rfl Tryz.ntmps40 (Nat.le_of_ble_eq_true rfl) ?_
 intro w0 M0 vs hl hv
 obtain ⟨v0, v1, rfl⟩ := len2 hl
 obtain rfl := hv 1 _ _ rfl rfl
 clear hl hv
 refine nav ?_
 (refine aC_region ?_ <;> refine s_alloc [(.int .i64 0), (.string ByteArray.empty), (.slice none 0 0)] 3 4 tZr24_PuU fun h4 => ?_ <;> refine xL 5 q_assign ?_ <;> refine xL 6 q_assign ?_ <;> refine aL_end (nav ?_) <;> try dsimp only)
 (refine aC_region ?_ <;> refine xL 14 q_move ?_ <;> refine xL 15 q_move ?_ <;> refine xL 16 (q_idxN tSl67_PuU) ?_ <;> (refine yL 17 (q_lda tAgg71_PuU) fun v17 hv17 => ?_; cases hv17) <;> (refine cS 18 (cA Tryz.call65 (hI)) fun v18 hv18 => ?_; cases hv18) <;> refine aL_end (nav ?_) <;> try dsimp only)
 (first | refine cCd ?_ ?_ | refine cC ?_ ?_) <;> intro hb18
 · first
   | exact Bool.noConfusion hb18
   | (
    have h40 : isSy (t0 :: m1) [40] = true := hb18
    obtain ⟨t', m', hc, hk4, _⟩ := isSy_cons h40
    cases hc
    have he1 := he.tail (by omega)
    obtain ⟨x1, m2, rfl⟩ := he1.cons
    obtain ⟨g1, g2⟩ := tks_at hdi1
    have hI1 := rrIs_e x1 m2 [41]
    rw [show cTk x1 = [pInt x1.kind, pB x1.text, pInt x1.n, pInt x1.ln, pInt x1.col] from rfl] at hI1
    rw [if_pos h40] at hTe
    rw [List.length_cons] at hmn hml hi hf
    refine nav ?_
    (refine aC_region ?_ <;> refine xL 19 q_move ?_ <;> refine xL 20 q_move ?_ <;> refine xL 21 (q_addE (c := ((i + 1 : Nat) : Int))) ?_ <;> refine xL 22 (q_idxN tSl67_PuU) ?_ <;> (refine yL 23 (q_lda tAgg71_PuU) fun v23 hv23 => ?_; cases hv23) <;> (refine cS 24 (cA Tryz.call65 (hI1)) fun v24 hv24 => ?_; cases hv24) <;> refine xL 25 q_not ?_ <;> refine aL_end (nav ?_) <;> try dsimp only)
    (first | refine cCd ?_ ?_ | refine cC ?_ ?_) <;> intro hb25
    · first
      | exact Bool.noConfusion hb25
      | (
       refine nav ?_
       (refine aC_region ?_ <;> refine xL 26 (q_build tSt24_PuU) ?_ <;> (refine aL_ent (rslot (t := 26) (p' := pTr nd0) rfl rr_zeroN) fun _ => ?_; refine xL 27 q_move ?_) <;> refine xL 28 q_add ?_ <;> refine s_sta 4 tAgg24_PuU ?_ <;> refine xL 5 q_assign ?_ <;> refine xL 6 q_assign ?_ <;> refine aL_end (nav ?_) <;> try dsimp only)
       refine ret_3 (Tryz.results40) (.cell (k := 3) 4 (by kernel_rfl) rfl rfl (Nat.le_of_ble_eq_true rfl) (by decide) rfl) (.tmp rfl) (.tmp rfl) ?_
       rw [hTe, if_neg (by simpa using hb25)]
       dsimp only [reO]
       rw [show L.length - (x1 :: m2).length = i + 1 by rw [List.length_cons]; omega]; rfl)
    · first
      | exact Bool.noConfusion hb25
      | (
       refine nav ?_
       (refine aC_region ?_ <;> refine xL 29 (q_build tSt24_PuU) ?_ <;> (refine aL_ent (rslot (t := 29) (p' := pTr silT) rfl rr_sil) fun _ => ?_; refine xL 30 q_move ?_) <;> refine xL 31 q_add ?_ <;> refine s_sta 4 tAgg24_PuU ?_ <;> refine xL 5 q_assign ?_ <;> refine xL 6 q_assign ?_ <;> refine aL_end (nav ?_) <;> try dsimp only)
       refine ret_3 (Tryz.results40) (.cell (k := 3) 4 (by kernel_rfl) rfl rfl (Nat.le_of_ble_eq_true rfl) (by decide) rfl) (.tmp rfl) (.tmp rfl) ?_
       rw [hTe, if_pos (by simpa using hb25)]
       dsimp only [reO]
       rw [List.tail_cons, show L.length - m2.length = i + 2 by omega]; rfl))
 · first
   | exact Bool.noConfusion hb18
   | (
    have h40 : isSy (t0 :: m1) [40] = false := hb18
    rw [if_neg (by rw [h40]; decide)] at hTe
    obtain ⟨z0, z1⟩ := tks_f hdi
    refine nav ?_
    (refine aC_region ?_ <;> refine xL 32 q_move ?_ <;> refine xL 33 q_move ?_ <;> refine xL 34 (q_idxN tSl67_PuU) ?_ <;> refine xL 35 (q_fld tFl71_0_PuU) ?_ <;> (refine yL 36 (q_ld tNa3_PuU) fun v36 hv36 => ?_; cases hv36) <;> refine xL 37 q_neq ?_ <;> refine aL_end (nav ?_) <;> try dsimp only)
    (first | refine cCd ?_ ?_ | refine cC ?_ ?_) <;> intro hb37
    · first
      | exact Bool.noConfusion hb37
      | (
       refine nav ?_
       (refine aC_region ?_ <;> refine xL 38 (q_build tSt24_PuU) ?_ <;> (refine aL_ent (rslot (t := 38) (p' := pTr nd0) rfl rr_zeroN) fun _ => ?_; refine xL 39 q_move ?_) <;> refine s_sta 4 tAgg24_PuU ?_ <;> refine xL 5 q_assign ?_ <;> refine xL 6 q_assign ?_ <;> refine aL_end (nav ?_) <;> try dsimp only)
       refine ret_3 (Tryz.results40) (.cell (k := 3) 4 (by kernel_rfl) rfl rfl (Nat.le_of_ble_eq_true rfl) (by decide) rfl) (.tmp rfl) (.tmp rfl) ?_
       rw [hTe, if_pos (by omega)]
       dsimp only [reO]
       rw [show L.length - (t0 :: m1).length = i by rw [List.length_cons]; omega]; rfl)
    · first
      | exact Bool.noConfusion hb37
      | (
       have hk1 : t0.kind = 1 := by omega
       rw [if_neg (by omega)] at hTe
       have he1 := he.tail (by omega)
       obtain ⟨x1, m2, rfl⟩ := he1.cons
       obtain ⟨g1, g2⟩ := tks_at hdi1
       have hI1 := rrIs_e x1 m2 [40]
       rw [show cTk x1 = [pInt x1.kind, pB x1.text, pInt x1.n, pInt x1.ln, pInt x1.col] from rfl] at hI1
       rw [List.length_cons] at hmn hml hi hf
       refine nav ?_
       (refine aC_region ?_ <;> refine xL 40 q_move ?_ <;> refine xL 41 q_move ?_ <;> refine xL 42 (q_idxN tSl67_PuU) ?_ <;> refine xL 43 (q_fld tFl71_1_PuU) ?_ <;> (refine yL 44 (q_ld tNa9_PuU) fun v44 hv44 => ?_; cases hv44) <;> refine xL 7 q_assign ?_ <;> refine aL_end (nav ?_) <;> try dsimp only)
       (refine aC_region ?_ <;> refine xL 45 q_move ?_ <;> refine xL 46 q_move ?_ <;> refine xL 47 (q_addE (c := ((i + 1 : Nat) : Int))) ?_ <;> refine xL 48 (q_idxN tSl67_PuU) ?_ <;> (refine yL 49 (q_lda tAgg71_PuU) fun v49 hv49 => ?_; cases hv49) <;> (refine cS 50 (cA Tryz.call65 (hI1)) fun v50 hv50 => ?_; cases hv50) <;> refine xL 51 q_not ?_ <;> refine aL_end (nav ?_) <;> try dsimp only)
       (first | refine cCd ?_ ?_ | refine cC ?_ ?_) <;> intro hb51
       · first
         | exact Bool.noConfusion hb51
         | (
          refine nav ?_
          (refine aC_region ?_ <;> refine xL 52 q_move ?_ <;> refine xL 53 (q_build tSt24_PuU) ?_ <;> (refine aL_ent (rslot (t := 53) (p' := pTr (.mk 1 (bst t0.text) [])) rfl (rr_leaf 1 (bst t0.text))) fun _ => ?_; refine xL 54 q_move ?_) <;> refine xL 55 q_add ?_ <;> refine s_sta 4 tAgg24_PuU ?_ <;> refine xL 5 q_assign ?_ <;> refine xL 6 q_assign ?_ <;> refine aL_end (nav ?_) <;> try dsimp only)
          refine ret_3 (Tryz.results40) (.cell (k := 3) 4 (by kernel_rfl) rfl rfl (Nat.le_of_ble_eq_true rfl) (by decide) rfl) (.tmp rfl) (.tmp rfl) ?_
          rw [hTe, if_pos (by simpa using hb51)]
          dsimp only [reO]
          rw [show L.length - (x1 :: m2).length = i + 1 by rw [List.length_cons]; omega]; rfl)
       · first
         | exact Bool.noConfusion hb51
         | (
          have h40' : isSy (x1 :: m2) [40] = true := by simpa using hb51
          rw [if_neg (by rw [h40']; decide)] at hTe
          obtain ⟨t', m', hc, hk4, _⟩ := isSy_cons h40'
          cases hc
          have he2 := he1.tail (by omega)
          have hs2 : m2 <:+ L := (List.IsSuffix.trans ⟨[t0, x1], rfl⟩ hs)
          refine nav ?_
          (refine aC_region ?_ <;> refine xL 56 (q_build tSt24_PuU) ?_ <;> refine s_alloc [(.int .i64 0), (.string ByteArray.empty), (.slice none 0 0)] 3 8 tZr24_PuU fun h8 => ?_ <;> refine s_sta 8 tAgg24_PuU ?_ <;> refine aL_end (nav ?_) <;> try dsimp only)
          refine aC_ent (nilOwn 200 24 3 rfl) fun _ => ?_
          (refine aC_region ?_ <;> refine xL 9 q_assign ?_ <;> refine aL_end (nav ?_) <;> try dsimp only)
          refine aC_loop (ι := { q : Nat × Int // 3 ≤ q.1 ∧ q.1 ≤ 7 ∧ OpI t0.text q.1 q.2 }) (fun k => ⟨[(0, _, _), (1, _, _), (4, _, _), (7, _, _), (8, _, _), (9, .int .i64 k.1.1, pInt k.1.1)], [(4, _, _), (8, h8, .own 24 3 1 [pInt k.1.2, .val (.string ByteArray.empty), .val (.slice none 0 0)]), (200, _, _)]⟩) (fun k => 7 - k.1.1) ⟨(3, 0), by decide, by decide, .inl ⟨rfl, fun j h1 h2 => by dsimp only at h2; omega⟩⟩ (fun a w H => H.weaken ⟨rfl, rfl, rfl, rfl, rfl, rfl, trivial⟩ ⟨rfl, rfl, rfl, trivial⟩) ?_
          rintro ⟨⟨k, o⟩, hk1, hk2, hp⟩
          dsimp only
          dsimp only at hk1 hk2 hp
          refine nav ?_
          (refine aC_region ?_ <;> refine xL 57 q_move ?_ <;> refine xL 58 q_leq ?_ <;> refine aL_end (nav ?_) <;> try dsimp only)
          (first | refine cCd ?_ ?_ | refine cC ?_ ?_) <;> intro hb58
          · first
            | exact Bool.noConfusion hb58
            | (
             refine nav ?_
             (refine aC_region ?_ <;> refine xL 61 q_move ?_ <;> (refine cS 62 (cA Tryz.call56 (rrWord_e k)) fun v62 hv62 => ?_; cases hv62) <;> refine xL 63 q_move ?_ <;> refine xL 64 q_seql ?_ <;> refine aL_end (nav ?_) <;> try dsimp only)
             (first | refine cCd ?_ ?_ | refine cC ?_ ?_) <;> intro hb64
             · first
               | exact Bool.noConfusion hb64
               | (
                rw [word_eq] at hb64
                have hw : (wordT k).data.toList = t0.text := by simpa using hb64
                refine nav ?_
                (refine aC_region ?_ <;> refine xL 65 q_move ?_ <;> refine xL 66 (q_fldo 8 tFl24_0_PuU) ?_ <;> refine s_st 8 tNa3_PuU tSz3_PuU ?_ <;> refine aL_end (nav ?_) <;> try dsimp only)
                (refine aC_region ?_ <;> refine xL 59 q_move ?_ <;> refine xL 60 q_add ?_ <;> refine xL 9 q_assign ?_ <;> refine aL_end (nav ?_) <;> try dsimp only)
                first
                 | (exact aN_again (
                     ⟨(k + 1, (k : Int)), by dsimp only; omega, by dsimp only; omega, .inr ⟨k, by omega, by omega, rfl, hw.symm⟩⟩
                     ) (by dsimp only; omega) ⟨rfl, rfl, rfl, rfl, rfl, rfl, trivial⟩ ⟨rfl, rfl, rfl, trivial⟩)
                 | (exact aN_again (
                     ⟨(k + 1, o), by dsimp only; omega, by dsimp only; omega, by
                       dsimp only
                       rcases hp with ⟨h1, h2⟩ | h1
                       · exact .inl ⟨h1, fun j h3 h4 => by
                          rcases Nat.lt_or_ge j k with h | h
                          · exact h2 j h3 h
                          · obtain rfl : j = k := by omega
                            exact fun e => hw e.symm⟩
                       · exact .inr h1⟩
                     ) (by dsimp only; omega) ⟨rfl, rfl, rfl, rfl, rfl, rfl, trivial⟩ ⟨rfl, rfl, rfl, trivial⟩))
             · first
               | exact Bool.noConfusion hb64
               | (
                rw [word_eq] at hb64
                have hw : ¬ (wordT k).data.toList = t0.text := by simpa using hb64
                refine nav ?_
                (refine aC_region ?_ <;> refine xL 59 q_move ?_ <;> refine xL 60 q_add ?_ <;> refine xL 9 q_assign ?_ <;> refine aL_end (nav ?_) <;> try dsimp only)
                first
                 | (exact aN_again (
                     ⟨(k + 1, (k : Int)), by dsimp only; omega, by dsimp only; omega, .inr ⟨k, by omega, by omega, rfl, hw.symm⟩⟩
                     ) (by dsimp only; omega) ⟨rfl, rfl, rfl, rfl, rfl, rfl, trivial⟩ ⟨rfl, rfl, rfl, trivial⟩)
                 | (exact aN_again (
                     ⟨(k + 1, o), by dsimp only; omega, by dsimp only; omega, by
                       dsimp only
                       rcases hp with ⟨h1, h2⟩ | h1
                       · exact .inl ⟨h1, fun j h3 h4 => by
                          rcases Nat.lt_or_ge j k with h | h
                          · exact h2 j h3 h
                          · obtain rfl : j = k := by omega
                            exact fun e => hw e.symm⟩
                       · exact .inr h1⟩
                     ) (by dsimp only; omega) ⟨rfl, rfl, rfl, rfl, rfl, rfl, trivial⟩ ⟨rfl, rfl, rfl, trivial⟩)))
          · first
            | exact Bool.noConfusion hb58
            | (
             have ho : o = opOf t0.text := by
              rcases hp with ⟨h1, h2⟩ | ⟨j, h1, h2, h3, h4⟩
              · rw [h1, opOf_no fun j h3 h4 => h2 j h3 (by omega)]
              · rw [h3, h4]
                exact (opOf_word (by omega)).symm
             rw [← ho] at hTe
             refine nav ?_
             (refine aC_region ?_ <;> refine xL 67 (q_fldo 8 tFl24_0_PuU) ?_ <;> (refine yL 68 (q_ldo 8 tNa3_PuU) fun v68 hv68 => ?_; cases hv68) <;> refine xL 69 q_eql ?_ <;> refine aL_end (nav ?_) <;> try dsimp only)
             (first | refine cCd ?_ ?_ | refine cC ?_ ?_) <;> intro hb69
             · first
               | exact Bool.noConfusion hb69
               | (
                refine nav ?_
                (refine aC_region ?_ <;> refine xL 70 (q_build tSt24_PuU) ?_ <;> (refine aL_ent (rslot (t := 70) (p' := pTr nd0) rfl rr_zeroN) fun _ => ?_; refine xL 71 q_move ?_) <;> refine xL 72 q_add ?_ <;> refine s_sta 4 tAgg24_PuU ?_ <;> refine xL 5 q_assign ?_ <;> refine xL 6 q_assign ?_ <;> refine aL_end (nav ?_) <;> try dsimp only)
                refine ret_3 (Tryz.results40) (.cell (k := 3) 4 (by kernel_rfl) rfl rfl (Nat.le_of_ble_eq_true rfl) (by decide) rfl) (.tmp rfl) (.tmp rfl) ?_
                rw [hTe, if_pos (by omega)]
                dsimp only [reO]
                rw [show L.length - (x1 :: m2).length = i + 1 by rw [List.length_cons]; omega]; rfl)
             · first
               | exact Bool.noConfusion hb69
               | (
                rw [if_neg (by omega), List.tail_cons] at hTe
                refine nav ?_
                (refine aC_region ?_ <;> refine xL 73 q_move ?_ <;> refine xL 74 (q_addE (c := ((i + 2 : Nat) : Int))) ?_ <;> refine xL 1 q_assign ?_ <;> refine aL_end (nav ?_) <;> try dsimp only)
                refine aC_loop (ι := { q : (Nat × Nat) × (List Nd × List Tk × Value) // q.1.2 + q.2.2.1.length = L.length ∧ q.2.2.1 <:+ L ∧ EndL q.2.2.1 ∧ q.2.2.1.length < q.1.1 ∧ q.2.2.1.length ≤ n ∧ q.2.1.length ≤ q.1.2 ∧ q.2.2.2.oneCell' = true ∧ (o = 6 → q.2.1.length ≤ 1) ∧ T = (match reT q.1.1 q.2.2.1 with | .err e => .err e | .ok x m2 => reL q.1.1 o (q.2.1 ++ [x]) m2) }) (fun k => ⟨[(0, _, _), (4, _, _), (8, _, _), (1, .int .i64 k.1.1.2, pInt k.1.1.2)], [(4, _, _), (8, h8, .own 24 3 1 [pInt o, .val (.string ByteArray.empty), .val k.1.2.2.2]), (200, k.1.2.2.2, .own 24 3 k.1.2.1.length (cTrs k.1.2.1))]⟩) (fun k => k.1.2.2.1.length) ⟨((f, i + 2), ([], m2, .slice none 0 0)), by dsimp only; omega, hs2, he2, by dsimp only; omega, by dsimp only; omega, Nat.zero_le _, rfl, fun _ => Nat.zero_le _, hTe⟩ (fun a w H => H.weaken ⟨rfl, rfl, rfl, rfl, trivial⟩ ⟨rfl, rfl, rfl, trivial⟩) ?_
                rintro ⟨⟨⟨g, j⟩, l, m, hO⟩, hj, hsm, hem, hgm, hmn2, hlj, hOo, h6, hTT⟩
                dsimp only
                dsimp only at hj hsm hem hgm hmn2 hlj hOo h6 hTT; have hone : En.one (PV.val hO) = true := hOo
                refine nav ?_
                (refine aC_region ?_ <;> refine xL 76 q_move ?_ <;> refine xL 77 q_move ?_ <;> (have hc := ih g m hmn2 hsm hem hgm; have hjm : L.length - m.length = j := (by omega); rw [hjm] at hc; obtain ⟨r, hq⟩ : ∃ r, r = reT g m := ⟨_, rfl⟩; rw [← hq] at hc hTT; rcases r with ⟨x, m3⟩ | m3 <;> dsimp only [reO] at hc hTT <;> (refine cPx3 78 (cA (Tryz.call40) hc) fun va78 vb78 vc78 hva78 hvb78 hvc78 => ?_; cases hvb78; cases hvc78)) <;> refine xL 75 q_move ?_ <;> refine xL 79 q_extract ?_ <;> refine xL 80 q_extract ?_ <;> refine xL 81 q_extract ?_ <;> refine s_alloc [(.int .i64 0), (.string ByteArray.empty), (.slice none 0 0)] 3 10 tZr24_PuU fun h10 => ?_ <;> refine s_sta 10 tAgg24_PuU ?_ <;> refine xL 11 q_assign ?_ <;> refine xL 12 q_assign ?_ <;> refine aL_end (nav ?_) <;> try dsimp only) <;> (
                 (refine aC_region ?_ <;> refine xL 82 q_move ?_ <;> (first | refine xL (v := .bool false) (p := .val (.bool false)) 83 (q_not (b := true)) ?_ | refine xL (v := .bool true) (p := .val (.bool true)) 83 (q_not (b := false)) ?_) <;> refine aL_end (nav ?_) <;> try dsimp only)
                 (first | refine cCd ?_ ?_ | refine cC ?_ ?_) <;> intro hb83
                 · first
                   | exact Bool.noConfusion hb83
                   | (
                    refine nav ?_
                    (refine aC_region ?_ <;> refine xL 84 (q_build tSt24_PuU) ?_ <;> refine xL 85 q_move ?_ <;> (refine aL_ent (rslot (t := 84) (p' := pTr nd0) rfl rr_zeroN) fun _ => ?_; refine s_sta 4 tAgg24_PuU ?_) <;> refine xL 5 q_assign ?_ <;> refine xL 6 q_assign ?_ <;> refine aL_end (nav ?_) <;> try dsimp only)
                    refine ret_3 (Tryz.results40) (.cell (k := 3) 4 (by kernel_rfl) rfl rfl (Nat.le_of_ble_eq_true rfl) (by decide) rfl) (.tmp rfl) (.tmp rfl) ?_
                    rw [hTT]
                    dsimp only [reO]
                    try rfl)
                 · first
                   | exact Bool.noConfusion hb83
                   | (
                    refine nav ?_
                    (refine aC_region ?_ <;> refine xL 86 (q_fldo 8 tFl24_2_PuU) ?_ <;> (refine yL 87 (q_ldo 8 tNa22_PuU) fun v87 hv87 => ?_; cases hv87) <;> (refine yL 88 (q_ldao 10 tAgg24_PuU) fun v88 hv88 => ?_; cases hv88) <;> refine s_lit1a 89 tEl22_PuU fun h89 ho89 => ?_ <;> (refine s_app 200 89 90 tEl22_PuU fun h90 ho90 => ?_; refine aL_ent (relabel (l := 90) 200 rfl rfl) fun _ => ?_; refine aL_ent (recast (l := 200) (p' := .own 24 3 (l ++ [x]).length (cTrs (l ++ [x]))) rfl (Eq.trans (congrArg (PV.own 24 3 _) (show _ = cTrs l ++ cN x from rfl)) (by rw [cTrs_snoc, List.length_append]; rfl))) fun _ => ?_; have hone9 : En.one (PV.val h90) = true := ho90) <;> refine xL 91 (q_fldo 8 tFl24_2_PuU) ?_ <;> refine s_st 8 tNa22_PuU tSz22_PuU ?_ <;> refine aL_end (nav ?_) <;> try dsimp only)
                    (refine aC_region ?_ <;> refine xL 92 q_move ?_ <;> refine xL 1 q_assign ?_ <;> refine aL_end (nav ?_) <;> try dsimp only)
                    obtain ⟨g, rfl⟩ : ∃ g', g = g' + 1 := ⟨g - 1, by omega⟩
                    have hok := (rd_ok (g + 1)).1 m x m3 hem (by rw [(re_rd (g + 1)).1, ← hq]; rfl)
                    obtain ⟨y, m4, rfl⟩ := hok.endl.cons
                    have hsy := hok.suf.trans hsm
                    obtain ⟨hdy, hdl⟩ := suf_drop hsy
                    obtain ⟨j2, hj2⟩ : ∃ j2, j2 = L.length - (y :: m4).length := ⟨_, rfl⟩
                    rw [← hj2] at hdy ⊢
                    have hlt := hok.lt
                    rw [List.length_cons] at hdl hj2 hlt
                    obtain ⟨y1, y2⟩ := tks_at hdy
                    have hI4 := rrIs_e y m4 [44]
                    have hI5 := rrIs_e y m4 [41]
                    rw [show cTk y = [pInt y.kind, pB y.text, pInt y.n, pInt y.ln, pInt y.col] from rfl] at hI4 hI5
                    have hne5 := isSy_ne (m := y :: m4)
                    have hll : (l ++ [x]).length = l.length + 1 := by rw [List.length_append]; rfl
                    rw [reL] at hTT
                    refine aC_ent (recast (l := 8) (p' := .own 24 3 1 [pInt o, .val (.string ByteArray.empty), .val h90]) rfl rfl) fun _ => ?_
                    (refine aC_region ?_ <;> refine xL 93 q_move ?_ <;> refine xL 94 q_move ?_ <;> refine xL 95 (q_idxN tSl67_PuU) ?_ <;> (refine yL 96 (q_lda tAgg71_PuU) fun v96 hv96 => ?_; cases hv96) <;> (refine cS 97 (cA Tryz.call65 (hI4)) fun v97 hv97 => ?_; cases hv97) <;> refine xL 98 q_move ?_ <;> (refine bL 98 (fun hb98 => ?_) (fun hb98 => ?_) <;> (first | refine kL 99 ?_ | refine xL 99 (q_fldo 8 tFl24_0_PuU) ?_)) <;> (first | refine kL 100 ?_ | (refine yL 100 (q_ldo 8 tNa3_PuU) fun v100 hv100 => ?_; cases hv100)) <;> (first | refine kL 101 ?_ | refine xL 101 q_neq ?_) <;> (first | refine kL 102 ?_ | refine xL 102 q_move ?_) <;> (first | refine kL 103 ?_ | (refine bLd 102 (fun hb102 => ?_) (fun hb102 => ?_) <;> (first | refine kL 103 ?_ | refine xL 103 (q_fldo 8 tFl24_2_PuU) ?_))) <;> (first | refine kL 104 ?_ | (refine yL 104 (q_ldo 8 tNa22_PuU) fun v104 hv104 => ?_; cases hv104)) <;> (first | refine kL 105 ?_ | refine xL 105 (q_leno 200 tSl22_PuU) ?_) <;> (first | refine kL 106 ?_ | refine xL 106 q_lss ?_) <;> (first | refine kL 107 ?_ | refine xL 107 q_pick ?_) <;> refine xL 108 q_pick ?_ <;> refine xL 13 q_assign ?_ <;> refine aL_end (nav ?_) <;> try dsimp only) <;> (
                     (refine aC_region ?_ <;> refine xL 109 q_move ?_ <;> refine xL 110 q_move ?_ <;> refine xL 111 (q_idxN tSl67_PuU) ?_ <;> (refine yL 112 (q_lda tAgg71_PuU) fun v112 hv112 => ?_; cases hv112) <;> (refine cS 113 (cA Tryz.call65 (hI5)) fun v113 hv113 => ?_; cases hv113) <;> refine xL 114 q_move ?_ <;> (refine bL 114 (fun hb114 => ?_) (fun hb114 => ?_) <;> (first | refine kL 115 ?_ | refine xL 115 (q_fldo 8 tFl24_0_PuU) ?_)) <;> (first | refine kL 116 ?_ | (refine yL 116 (q_ldo 8 tNa3_PuU) fun v116 hv116 => ?_; cases hv116)) <;> (first | refine kL 117 ?_ | refine xL 117 q_neq ?_) <;> (first | refine kL 118 ?_ | refine xL 118 q_move ?_) <;> (first | refine kL 119 ?_ | (refine bLd 118 (fun hb118 => ?_) (fun hb118 => ?_) <;> (first | refine kL 119 ?_ | refine xL 119 (q_fldo 8 tFl24_2_PuU) ?_))) <;> (first | refine kL 120 ?_ | (refine yL 120 (q_ldo 8 tNa22_PuU) fun v120 hv120 => ?_; cases hv120)) <;> (first | refine kL 121 ?_ | refine xL 121 (q_leno 200 tSl22_PuU) ?_) <;> (first | refine kL 122 ?_ | refine xL 122 q_eql ?_) <;> (first | refine kL 123 ?_ | refine xL 123 q_pick ?_) <;> refine xL 124 q_pick ?_ <;> refine aL_end (nav ?_) <;> try dsimp only) <;> (
                      (first | refine cCd ?_ ?_ | refine cC ?_ ?_) <;> intro hb124
                      · first
                        | exact Bool.noConfusion hb124
                        | (
                         refine nav ?_
                         refine aC_ent (freezeCell (l := 8) (l' := 200) (j := 2) rfl rfl rfl rfl) fun _ => ?_
                         rw [share_trs _ _ _ rfl]
                         (refine aC_region ?_ <;> (refine yL 125 (q_ldao 8 tAgg24_PuU) fun v125 hv125 => ?_; cases hv125) <;> refine xL 126 q_move ?_ <;> refine xL 127 (q_addE (c := ((j2 + 1 : Nat) : Int))) ?_ <;> refine s_sta 4 tAgg24_PuU ?_ <;> refine xL 5 q_assign ?_ <;> refine xL 6 q_assign ?_ <;> refine aL_end (nav ?_) <;> try dsimp only)
                         refine ret_3 (Tryz.results40) (.cell (k := 3) 4 (by kernel_rfl) rfl rfl (Nat.le_of_ble_eq_true rfl) (by decide) rfl) (.tmp rfl) (.tmp rfl) ?_
                         rw [hTT, if_pos ⟨by assumption, by omega⟩]
                         dsimp only [reO]
                         rw [List.tail_cons, show L.length - m4.length = j2 + 1 by omega]; rfl)
                      · first
                        | exact Bool.noConfusion hb124
                        | (
                         refine nav ?_
                         (refine aC_region ?_ <;> refine xL 128 q_move ?_ <;> (first | refine xL (v := .bool true) (p := .val (.bool true)) 129 (q_not (b := false)) ?_ | refine xL (v := .bool false) (p := .val (.bool false)) 129 (q_not (b := true)) ?_ | refine xL 129 q_not ?_) <;> refine aL_end (nav ?_) <;> try dsimp only)
                         (first | refine cCd ?_ ?_ | refine cC ?_ ?_) <;> intro hb129
                         · first
                           | exact Bool.noConfusion hb129
                           | (
                            refine nav ?_
                            (refine aC_region ?_ <;> refine xL 130 (q_build tSt24_PuU) ?_ <;> refine xL 131 q_move ?_ <;> (refine aL_ent (rslot (t := 130) (p' := pTr nd0) rfl rr_zeroN) fun _ => ?_; refine s_sta 4 tAgg24_PuU ?_) <;> refine xL 5 q_assign ?_ <;> refine xL 6 q_assign ?_ <;> refine aL_end (nav ?_) <;> try dsimp only)
                            refine ret_3 (Tryz.results40) (.cell (k := 3) 4 (by kernel_rfl) rfl rfl (Nat.le_of_ble_eq_true rfl) (by decide) rfl) (.tmp rfl) (.tmp rfl) ?_
                            try simp only [Bool.not_eq_true', decide_eq_false_iff_not] at hb129
                            have hA : ¬ (isSy (y :: m4) [41] = true ∧ (o ≠ 6 ∨ (l ++ [x]).length = 2)) := fun h => by
                             first
                              | (rw [h.1] at hb114; cases hb114; done)
                              | omega
                            have hB : ¬ (isSy (y :: m4) [44] = true ∧ (o ≠ 6 ∨ (l ++ [x]).length < 2)) := fun h => by
                             first
                              | (rw [h.1] at hb98; cases hb98; done)
                              | omega
                            rw [hTT, if_neg hA, if_neg hB]
                            dsimp only [reO]
                            rw [show L.length - (y :: m4).length = j2 by rw [List.length_cons]; omega]
                            try rfl)
                         · first
                           | exact Bool.noConfusion hb129
                           | (
                            refine nav ?_
                            try simp only [Bool.not_eq_false', decide_eq_true_eq] at hb129
                            have h44 : isSy (y :: m4) [44] = true := by assumption
                            obtain ⟨y', m5, hc5, hk5, _⟩ := isSy_cons h44
                            cases hc5
                            have h41 : ¬ (isSy (y :: m4) [41] = true ∧ (o ≠ 6 ∨ (l ++ [x]).length = 2)) := fun h => by
                             have := isSy_ne h.1
                             rw [h44] at this; cases this
                            rw [if_neg h41, if_pos ⟨h44, by omega⟩, List.tail_cons] at hTT
                            (refine aC_region ?_ <;> refine xL 132 q_move ?_ <;> refine xL 133 (q_addE (c := ((j2 + 1 : Nat) : Int))) ?_ <;> refine xL 1 q_assign ?_ <;> refine aL_end (nav ?_) <;> try dsimp only)
                            refine aN_again (
                             ⟨((g, j2 + 1), (l ++ [x], m4, h90)), by dsimp only; omega, List.IsSuffix.trans ⟨[y], rfl⟩ hsy, hok.endl.tail (by omega), by dsimp only; omega, by dsimp only; omega, by dsimp only; omega, ho90, fun h => by dsimp only; omega, hTT⟩
                             ) (by dsimp only; omega) ⟨rfl, rfl, rfl, rfl, trivial⟩ ⟨rfl, rfl, rfl, trivial⟩)))))))))))
end Go.Proofs.YtbfilfhgcihhoaaGreatDoor
