/-
  Walks by the engine: cut.Split.
-/
import Derived.Test.YtoanjgpdepaciaaGreatEb
import Derived.Test.YtoanjgpdepaciaaGreatLp
namespace Go.Proofs.YtoanjgpdepaciaaGreat
open Go.RowKit Go.Cb Go.En
set_option linter.all false
set_option maxRecDepth 100000

theorem tAgg129_EwH : AggT Tryz.prog 129 2 = true := by kernel_rfl
theorem tAgg28_EwH : AggT Tryz.prog 28 2 = true := by kernel_rfl
theorem tAgg51_EwH : AggT Tryz.prog 51 2 = true := by kernel_rfl
theorem tEl124_EwH : ElT Tryz.prog 124 74 1 8 (.map none) := ⟨Tryz.underlying124, by kernel_rfl, rfl, by decide⟩
theorem tEl47_EwH : ElT Tryz.prog 47 51 2 32 (.agg #[(.slice none 0 0), (.int .i64 0)]) := ⟨Tryz.underlying47, by kernel_rfl, rfl, by decide⟩
theorem tEl56_EwH : ElT Tryz.prog 56 47 1 24 (.slice none 0 0) := ⟨Tryz.underlying56, by kernel_rfl, rfl, by decide⟩
theorem tFl129_0_EwH : FldT Tryz.prog 129 0 0 = true := by kernel_rfl
theorem tFl129_1_EwH : FldT Tryz.prog 129 1 1 = true := by kernel_rfl
theorem tFl28_0_EwH : FldT Tryz.prog 28 0 0 = true := by kernel_rfl
theorem tFl28_1_EwH : FldT Tryz.prog 28 1 1 = true := by kernel_rfl
theorem tFl51_0_EwH : FldT Tryz.prog 51 0 0 = true := by kernel_rfl
theorem tFl51_1_EwH : FldT Tryz.prog 51 1 1 = true := by kernel_rfl
theorem tMp74_EwH : MpT Tryz.prog 74 9 3 .string (.int .i64 0) := ⟨Tryz.underlying74, Tryz.underlying9, .inl rfl, by show ZeroT _ _ _; unfold ZeroT; kernel_rfl⟩
theorem tNa26_EwH : NoAgg Tryz.prog 26 = true := by kernel_rfl
theorem tNa36_EwH : NoAgg Tryz.prog 36 = true := by kernel_rfl
theorem tNa3_EwH : NoAgg Tryz.prog 3 = true := by kernel_rfl
theorem tNa47_EwH : NoAgg Tryz.prog 47 = true := by kernel_rfl
theorem tNa74_EwH : NoAgg Tryz.prog 74 = true := by kernel_rfl
theorem tNa9_EwH : NoAgg Tryz.prog 9 = true := by kernel_rfl
theorem tSl124_EwH : SlT Tryz.prog 124 74 1 = true := by kernel_rfl
theorem tSl125_EwH : SlT Tryz.prog 125 129 2 = true := by kernel_rfl
theorem tSl26_EwH : SlT Tryz.prog 26 36 1 = true := by kernel_rfl
theorem tSl36_EwH : SlT Tryz.prog 36 9 1 = true := by kernel_rfl
theorem tSl47_EwH : SlT Tryz.prog 47 51 2 = true := by kernel_rfl
theorem tSl56_EwH : SlT Tryz.prog 56 47 1 = true := by kernel_rfl
theorem tSt51_EwH : stInfo Tryz.prog 51 = some ((.agg #[(.slice none 0 0), (.int .i64 0)]), ([0, 1] : List Nat).map fun o => (o, 1)) := by kernel_rfl
theorem tSz3_EwH : (Tryz.prog.info? 3).map (·.size) = some 1 := by kernel_rfl
theorem tSz47_EwH : (Tryz.prog.info? 47).map (·.size) = some 1 := by kernel_rfl
theorem tSz74_EwH : (Tryz.prog.info? 74).map (·.size) = some 1 := by kernel_rfl
theorem tZr129_EwH : ZeroT Tryz.prog 129 (.agg #[(.int .i64 0), (.slice none 0 0)]) := by unfold ZeroT; kernel_rfl
theorem tZr51_EwH : ZeroT Tryz.prog 51 (.agg #[(.slice none 0 0), (.int .i64 0)]) := by unfold ZeroT; kernel_rfl

theorem nilSl {sL hP : List (Nat × Ent)} {t : Nat} {q : PV} (ht : lk sL t = some (.slice none 0 0, q)) : EntE (⟨sL, hP⟩ : St) (fun _ : Unit => ⟨put t (.slice none 0 0, .sl 0 []) sL, hP⟩) := fun c a w ⟨F, H⟩ => by
  refine ⟨(), F, H.toHeapF, fun s u r hs => ?_, H.size, H.df⟩
  rcases lk_put hs with ⟨rfl, e1⟩ | ⟨_, hs'⟩
  · cases e1
    exact ⟨(H.sl t _ _ ht).1, .emp none 0 (by unfold maxLen; omega) (fun _ => rfl)⟩
  · exact H.sl s u r hs'

theorem part_look (parts : List (List ByteArray)) (s : ByteArray) : (mget (skv (entries 0 parts)) (.string s)).isSome = decide (0 ≤ partOf parts s) := by
  rw [mget_skv, aget_parts, Option.isSome_map, partMap_isSome']
theorem inParts_no {parts : List (List ByteArray)} {l : List Var} {x : Var} {s : ByteArray} (hx : x ∈ l) (hs : s ∈ x.acts) (h : ¬ 0 ≤ partOf parts s) : inParts parts l = false := by
  cases hI : inParts parts l with
  | false => rfl
  | true =>
    unfold inParts at hI
    rw [List.all_eq_true] at hI
    have := hI x hx
    rw [List.all_eq_true] at this
    exact absurd (of_decide_eq_true (this s hs)) h

def RSp (x : List (List Var) × Int) (p : PV) : Prop := p = .tup [pVarss x.1, pInt x.2]
theorem rsp_err {l : List Var} {c : Cut} {n : Int} (h : splitR l c = ([], n)) : RSp (splitR l c) (.tup [.sl 0 [], pInt n]) := by rw [h]; rfl
theorem splitR_1 {l : List Var} {c : Cut} (h : (validVars l && formedB c) = false) : splitR l c = ([], 1) := by unfold splitR; rw [if_pos h]
theorem splitR_8 {l : List Var} {c : Cut} (h1 : validVars l = true) (h2 : formedB c = true) (h : inParts c.parts l = false) : splitR l c = ([], 8) := by unfold splitR; rw [h1, h2]; simp [h]

def oRow (e : Nat) (r : List Var) : PV := .own e 2 r.length (r.flatMap cVar)
def oAt (r : List Var) : PV := .omap (skv (atGo joinW 0 r))
theorem nilTo_rows (n e : Nat) : ∀ (i : Nat) (p p' : PV), (List.replicate n (PV.val (.slice none 0 0)))[i]? = some p → ((List.replicate n ([] : List Var)).map (oRow e))[i]? = some p' → nilTo p p' := fun i p p' h1 h2 => by
  rw [List.map_replicate] at h2
  have e1 := List.eq_of_mem_replicate (List.mem_of_getElem? h1)
  have e2 := List.eq_of_mem_replicate (List.mem_of_getElem? h2)
  exact .inr ⟨e1, _, _, e2⟩
theorem maps_step {n k : Nat} {v : PV} (hk : k < n) : (((List.replicate k (PV.omap []) ++ List.replicate (n - k) (PV.val (.map none))).set k v).set k (.omap [])) = List.replicate (k + 1) (PV.omap []) ++ List.replicate (n - (k + 1)) (PV.val (.map none)) := by
  rw [List.set_set, List.set_append_right _ _ (by simp), List.length_replicate, Nat.sub_self, show n - k = (n - (k + 1)) + 1 by omega, List.replicate_succ, List.set_cons_zero, List.replicate_succ', List.append_assoc]
  rfl
theorem maps_end (n : Nat) : List.replicate n (PV.omap []) ++ List.replicate (n - n) (PV.val (.map none)) = (List.replicate n ([] : List Var)).map oAt := by
  rw [Nat.sub_self, List.map_replicate]; simp; exact .inr rfl
theorem aget_part {parts : List (List ByteArray)} {s : ByteArray} (h : 0 ≤ partOf parts s) : aget (entries 0 parts) s = some (.int .i64 (partOf parts s)) := by
  have h1 := partMap_isSome' parts s
  rw [decide_eq_true h] at h1
  obtain ⟨n, hn⟩ := Option.isSome_iff_exists.1 h1
  rw [aget_parts, partMap_of, hn]; rfl
theorem formed_kind {c : Cut} (h : formedB c = true) : 1 ≤ c.kind ∧ c.kind ≤ 4 ∧ 2 ≤ c.parts.length := by
  simp only [formedB, Bool.and_eq_true, decide_eq_true_eq] at h
  exact ⟨h.1.1.1, h.1.1.2, h.1.2⟩
theorem splitR_19 {l : List Var} {c : Cut} (h1 : validVars l = true) (h2 : formedB c = true) (h3 : inParts c.parts l = true) (h : splitAll c (List.replicate c.parts.length []) l = none) : splitR l c = ([], 19) := by unfold splitR; rw [h1, h2, h3, h]; simp
theorem splitAll_at {c : Cut} {S : List (List Var)} {l : List Var} {k : Nat} {x : Var} (hx : l[k]? = some x) : splitAll c S (l.drop k) = match splitOf c x.acts with | none => none | some ps => splitAll c (ps.foldl (putPiece x.count) S) (l.drop (k + 1)) := by
  rw [drop_at hx, splitAll]
  cases splitOf c x.acts <;> rfl
def InvS (l : List Var) (c : Cut) (x : Nat × List (List Var)) : Prop := x.1 ≤ l.length ∧ x.2.length = c.parts.length ∧ WR x.2 ∧ ∃ S, RelR x.2 S ∧ RowsOk (x.1 * 1000300) S ∧ splitAll c (List.replicate c.parts.length []) l = splitAll c S (l.drop x.1)
theorem invS_0 (l : List Var) (c : Cut) : InvS l c (0, List.replicate c.parts.length []) := ⟨by simp, by simp, wr_rep _, _, relR_rep _, by rw [Nat.zero_mul]; exact rowsOk_rep _, rfl⟩

def InvP (c : Cut) (S : List (List Var)) (ps : List Piece) (cnt : Int) (k : Nat) (y : Nat × List (List Var)) : Prop := y.1 ≤ ps.length ∧ y.2.length = c.parts.length ∧ WR y.2 ∧ ∃ S', RelR y.2 S' ∧ RowsOk (k * 1000300 + y.1) S' ∧ ps.foldl (putPiece cnt) S = (ps.drop y.1).foldl (putPiece cnt) S'
theorem invP_step {c : Cut} {S R : List (List Var)} {ps : List Piece} {cnt : Int} {k i : Nat} {p : Piece} (h : InvP c S ps cnt k (i, R)) (hp : ps[i]? = some p) (hw : WOk p.word) (h0 : 0 ≤ cnt) (h1 : cnt ≤ 1048576) : InvP c S ps cnt k (i + 1, putB cnt R p) := by
  obtain ⟨a1, a2, a3, S', a4, a5, a6⟩ := h
  have hlt := lt_of_get hp
  refine ⟨hlt, by show (putB cnt R p).length = _; rw [putB_len]; exact a2, a3.put hw, putPiece cnt S' p, a4.put, ?_, ?_⟩
  · have h9 := putPiece_ok (p := p) h0 h1 a5
    dsimp only at h9 ⊢
    rw [Nat.add_assoc] at h9
    exact h9
  rw [a6]
  show (ps.drop i).foldl _ _ = _
  rw [drop_at hp]; rfl
theorem invP_0 {c : Cut} {S R : List (List Var)} {k : Nat} (ps : List Piece) (cnt : Int) (h1 : R.length = c.parts.length) (h2 : WR R) (h3 : RelR R S) (h4 : RowsOk (k * 1000300) S) : InvP c S ps cnt k (0, R) := by
  refine ⟨Nat.zero_le _, h1, h2, S, h3, ?_, ?_⟩
  · dsimp only; rw [Nat.add_zero]; exact h4
  · dsimp only; rw [List.drop_zero]
theorem invP_end {l : List Var} {c : Cut} {S R : List (List Var)} {ps : List Piece} {cnt : Int} {k i : Nat} (h : InvP c S ps cnt k (i, R)) (hi : ps.length ≤ i) (hk : k < l.length) (hp : ps.length ≤ 1000300) (hsp : splitAll c (List.replicate c.parts.length []) l = splitAll c (ps.foldl (putPiece cnt) S) (l.drop (k + 1))) : InvS l c (k + 1, R) := by
  obtain ⟨a1, a2, a3, S', a4, a5, a6⟩ := h
  refine ⟨hk, a2, a3, S', a4, fun r hr => ?_, ?_⟩
  · have := a5 r hr
    have h2 : k * 1000300 + i ≤ (k + 1) * 1000300 := by rw [Nat.add_mul]; change i ≤ ps.length at a1; omega
    exact ⟨Nat.le_trans this.1 h2, fun x hx => ⟨(this.2 x hx).1, Int.le_trans (this.2 x hx).2 (Int.mul_le_mul_of_nonneg_right (Int.ofNat_le.2 h2) (by decide))⟩⟩
  · rw [hsp, a6]
    show splitAll c ((ps.drop i).foldl _ _) _ = _
    rw [List.drop_eq_nil_of_le hi]; rfl
theorem joinW_inj (a b : List ByteArray) (ha : WOk a) (hb : WOk b) (h : joinW a = joinW b) : a = b := by
  refine join_inj ha hb ?_
  have := congrArg (fun s : ByteArray => s.data.toList) h
  simpa [joinW] using this
structure Met (r : List Var) (pw : List ByteArray) (cnt : Int) (hd : Value) (r' : List Var) (ix : Nat) (z : Var) : Prop where
  one : hd.oneCell' = true
  at_ : r'[ix]? = some z
  acts : z.acts = pw
  set : r'.set ix ⟨pw, z.count + cnt⟩ = bump r pw cnt
  lo : 0 ≤ z.count
  hi : z.count ≤ 400000000000000
  len : r'.length ≤ 400000000

theorem shares_vars (r : List Var) : shares (r.flatMap cVar) = r.flatMap cVar := by
  induction r with
  | nil => rfl
  | cons x r ih => rw [List.flatMap_cons, shares_append, ih]; rfl
theorem share_rows (e n : Nat) (k : Nat) (T : List (List Var)) (h : n = T.length) : share (.own e k n (T.map (oRow 51))) = pVarss T := by
  subst h
  have : shares (T.map (oRow 51)) = T.map pVars := by
    rw [shares_eq, List.map_map]
    refine List.map_congr_left fun r _ => ?_
    show share (.own _ 2 r.length (r.flatMap cVar)) = _
    simp only [share, shares_vars]; rfl
  simp only [share, this]; rfl
theorem reads_row {sL hP : List (Nat × Ent)} {e l : Nat} {h : Value} {r : List Var} (hl : lk hP l = some (h, .own e 2 r.length (r.flatMap cVar))) : Reads (⟨sL, hP⟩ : St) h (pVars r) := by
  have := reads_own (sL := sL) hl
  simp only [share, shares_vars] at this
  exact this
theorem wok_fit {w : List ByteArray} (h : WOk w) : fitS w := ⟨by have := h.1; omega, fun s hs => by have := (name_bytes (h.2 s hs)).2.2; omega⟩
theorem cmp_irr (a : Var) : ¬ cmpStrs a.acts a.acts < 0 := fun h => by have := ltW_irrefl a.acts; unfold ltW at this; simp [h] at this
theorem cmp_tr (a b c : Var) (h1 : cmpStrs a.acts b.acts < 0) (h2 : cmpStrs b.acts c.acts < 0) : cmpStrs a.acts c.acts < 0 := of_decide_eq_true (ltW_trans (decide_eq_true h1) (decide_eq_true h2))
theorem cmp_nt (a b c : Var) (h1 : ¬ cmpStrs a.acts b.acts < 0) (h2 : ¬ cmpStrs b.acts c.acts < 0) : ¬ cmpStrs a.acts c.acts < 0 := fun h => by
  by_cases h3 : cmpStrs b.acts a.acts < 0
  · exact h2 (of_decide_eq_true (ltW_trans (decide_eq_true h3) (decide_eq_true h)))
  · have := ltW_total (a := a.acts) (b := b.acts) (decide_eq_false h1) (decide_eq_false h3)
    rw [this] at h; exact h2 h
theorem asc_of {r r' : List Var} (hn : Nodup r) (hp : r'.Perm r) (hs : ∀ (i j : Nat) (a b : Var), i < j → r'[i]? = some a → r'[j]? = some b → ¬ cmpStrs b.acts a.acts < 0) : Asc r' := by
  have hn' : Nodup r' := hn.perm hp.symm
  refine List.pairwise_iff_getElem.2 fun i j hi hj hij => ?_
  have h1 := hs i j _ _ hij (List.getElem?_eq_getElem hi) (List.getElem?_eq_getElem hj)
  have h2 := (List.pairwise_iff_getElem.1 hn') i j hi hj hij
  cases h3 : ltW r'[i].acts r'[j].acts with
  | true => rfl
  | false => exact absurd (ltW_total h3 (decide_eq_false h1)) h2
theorem aL_sort0 {P : Program} {c : Ctx} {sL hP : List (Nat × Ent)} {ops : Array Oper} {Q : Exit → Act → World → Prop} {o : Oper} {rest : List Oper} {fs g k e d l : Nat} {cs : List PV} {h : Value} {q q' : PV} {x y : Operand} {ats : Array TypeId} (hS : ∀ (p : Option Addr) (cap : Nat) (fv : Value) (w : World), Calls P fs #[.slice p 0 cap, fv] w fun e w' => e = .returned (.tuple #[]) ∧ w' = w)
    (hw : wants ops sL o = some true) (hd : o.dst = some d) (hdn : d < c.nt) (ho : o.op = .call { callee := .value (.func fs), args := #[x, y], argTypes := ats }) (hc : ∀ args w, (callFunc fs args).run P w = .ok (.enter fs args) w) (hx : ev sL x = some (h, q)) (hy : ev sL y = some (.func (.func g) #[] #[], q')) (hl : lk hP l = some (h, .own e k 0 cs))
    (kk : aL P c ops Q rest ⟨put d (.tuple #[], .val (.tuple #[])) sL, hP⟩) : aL P c ops Q (o :: rest) (⟨sL, hP⟩ : St) :=
  aL_run hw fun a w F H => by
    have hxv := (H.rd.ev hx).1
    have hyv := (H.rd.ev hy).1
    obtain ⟨xs, Fs, hrow, _⟩ := (H.tr l _ _ hl).row
    obtain ⟨p, cap, rfl⟩ : ∃ p cap, h = .slice p 0 cap := by
      rcases row_form hrow with ⟨h1, _⟩ | ⟨g, cap, h1, _⟩
      · exact ⟨_, _, h1⟩
      · exact ⟨_, _, h1⟩
    unfold Oper.wp
    have hrun : (execOp a.eval o).run P w = .ok (.enter fs #[.slice p 0 cap, .func (.func g) #[] #[]]) w := by
      have hev : a.eval (.func fs) = .func (.func fs) #[] #[] := rfl
      simp [execOp, ho, resolve, Deferred.ofValue, hev, invoke, hxv, hyv, hc]
    rw [hrun, Oper.upon_enter]
    refine (hS p cap _ w).mono fun e' w' ⟨he', hw'⟩ => ?_
    subst he' hw'
    rw [hd]
    exact kk _ _ ⟨F, H.put hdn (.val _)⟩
theorem splitR_6 {l : List Var} {c : Cut} {S : List (List Var)} (h1 : validVars l = true) (h2 : formedB c = true) (h3 : inParts c.parts l = true) (h : splitAll c (List.replicate c.parts.length []) l = some S) (h4 : S.any bigVars = true) : splitR l c = ([], 6) := by unfold splitR; rw [h1, h2, h3, h]; simp only []; simp [h4]
theorem splitR_5 {l : List Var} {c : Cut} {S : List (List Var)} (h1 : validVars l = true) (h2 : formedB c = true) (h3 : inParts c.parts l = true) (h : splitAll c (List.replicate c.parts.length []) l = some S) (h4 : S.any bigVars = false) (h5 : S.any manyVars = true) : splitR l c = ([], 5) := by unfold splitR; rw [h1, h2, h3, h]; simp only []; rw [h4, h5]; rfl
theorem splitR_0 {l : List Var} {c : Cut} {S : List (List Var)} (h1 : validVars l = true) (h2 : formedB c = true) (h3 : inParts c.parts l = true) (h : splitAll c (List.replicate c.parts.length []) l = some S) (h4 : S.any bigVars = false) (h5 : S.any manyVars = false) : splitR l c = (S, 0) := by unfold splitR; rw [h1, h2, h3, h]; simp only []; rw [h4, h5]; rfl
theorem any_no {f : List Var → Bool} {R : List (List Var)} (h : ∀ (i : Nat) (r : List Var), R[i]? = some r → f r = false) : R.any f = false := by
  rw [List.any_eq_false]
  intro r hr
  obtain ⟨i, hi⟩ := List.getElem?_of_mem hr
  rw [h i r hi]; simp
theorem any_yes {f : List Var → Bool} {R : List (List Var)} {i : Nat} {r : List Var} (hr : R[i]? = some r) (h : f r = true) : R.any f = true := List.any_eq_true.2 ⟨r, List.mem_of_getElem? hr, h⟩

set_option maxHeartbeats 1000000 in
theorem cSplit_e (l : List Var) (c : Cut) (hl0 : fitV l) (hs : ∀ p ∈ c.parts, ∀ s ∈ p, s.size ≤ 140737488355328) (hn1 : c.parts.length ≤ 1000000) :
    AF Tryz.prog 32 [pVars l, pCut c] (RSp (splitR l c)) := by
  refine AF.of_body 190 Tryz.func32 rfl Tryz.ntmps32 (Nat.le_of_ble_eq_true rfl) ?_
  intro w0 M0 vs hl hv
  obtain ⟨v0, v1, rfl⟩ := len2 hl
  clear hl hv
  refine nav ?_
  (refine aC_region ?_
    <;> refine s_boxa 3 2 fun h3 => ?_
    <;> refine xL 4 q_assign ?_
    <;> refine xL 5 q_assign ?_
    <;> refine aL_end (nav ?_) <;> try dsimp only)
  refine (Bool.eq_false_or_eq_true (formedB c)).elim (fun hF => ?_) (fun hF => ?_)
  · (refine aC_region ?_
      <;> (refine yL 31 (q_ldao 3 tAgg28_EwH) fun v31 hv31 => ?_; cases hv31)
      <;> (refine aL_ct (R := (· = .tup [.omap (skv (entries 0 c.parts)), pBool true])) 32 32 201 rfl rfl (Nat.le_of_ble_eq_true rfl) rfl rfl rfl (callA rfl (Tryz.call44) rfl ((cparts_e c hs).mono fun p ⟨q, e1, e2, _⟩ => by rw [e1, e2 hF, hF])) ?_; rintro p' rfl; refine ⟨_, _, rfl, rfl, rfl, ?_⟩; intro h32 v201 _ hv201 ho32 _; cases hv201)
      <;> refine xL 30 q_move ?_
      <;> refine xL 33 q_extract ?_
      <;> refine xL 34 q_extract ?_
      <;> refine xL 6 q_assign ?_
      <;> refine xL 7 q_assign ?_
      <;> refine aL_end (nav ?_) <;> try dsimp only)
    refine aC_ent (En.freeze (l := 32) (t := 6) rfl rfl) fun _ => ?_
    (refine aC_region ?_
      <;> refine xL 35 q_move ?_
      <;> refine xL 36 q_not ?_
      <;> refine xL 37 q_move ?_
      <;> refine xL 38 q_move ?_
      <;> (refine aL_cs 39 rfl rfl (Nat.le_of_ble_eq_true rfl) (callA rfl (Tryz.call27) rfl (validVariants_e l hl0)) ?_; rintro p' rfl; refine ⟨rfl, ?_⟩; intro v39 hv39; cases hv39)
      <;> refine xL 40 q_not ?_
      <;> refine xL 41 q_pick ?_
      <;> refine aL_end (nav ?_) <;> try dsimp only)
    refine aC_cond rfl ?_ ?_
    · intro hb
      refine nav ?_
      (refine aC_region ?_
        <;> refine xL 4 q_assign ?_
        <;> refine xL 5 q_assign ?_
        <;> refine aL_end (nav ?_) <;> try dsimp only)
      refine aR_ent (nilSl (t := 4) rfl) fun _ => ?_
      refine ret_ss (Tryz.results32) rfl rfl (rsp_err (splitR_1 ?_))
      cases h : validVars l
      · rfl
      · rw [h] at hb; cases hb
    · intro hb
      have hV : validVars l = true := by
        cases h : validVars l
        · rw [h] at hb; cases hb
        · rfl
      refine nav ?_
      (refine aC_region ?_
        <;> refine xL 42 q_move ?_
        <;> refine xL 43 (q_len tSl47_EwH) ?_
        <;> refine xL 44 q_move ?_
        <;> refine aL_end (nav ?_) <;> try dsimp only)
      refine aC_slen 42 rfl fun hlen => ?_
      refine aC_loop (ι := { k : Nat // k ≤ l.length ∧ ∀ (j : Nat) (x : Var), j < k → l[j]? = some x → ∀ s ∈ x.acts, 0 ≤ partOf c.parts s }) (fun k => ⟨[(0, v0, pVars l), (3, padd (sbase h3) 0, .val (padd (sbase h3) 0)), (6, h32, .smap (skv (entries 0 c.parts))), (42, v0, pVars l), (43, .int .i64 l.length, pInt l.length), (44, .int .i64 k.1, pInt k.1)], [(3, h3, .own 28 2 1 [pInt c.kind, pStrss c.parts])]⟩) (fun k => l.length - k.1) ⟨0, by omega, fun j x hj => by omega⟩ (fun a w H => H.weaken ⟨rfl, rfl, rfl, rfl, rfl, rfl, trivial⟩ ⟨rfl, trivial⟩) ?_
      rintro ⟨k, hk, hpre⟩
      dsimp only
      refine nav ?_
      (refine aC_region ?_
        <;> refine xL 45 q_lss ?_
        <;> refine aL_end (nav ?_) <;> try dsimp only)
      refine aC_cond rfl ?_ ?_
      · intro hb5
        have hlt : k < l.length := by have := of_decide_eq_true hb5; omega
        obtain ⟨x, hx⟩ := get_some hlt
        have hD := flat_drop cVar_len l k x hx
        have hfit := flat_fit cVar_len hx
        refine nav ?_
        (refine aC_region ?_
          <;> refine xL 46 (q_idxN tSl47_EwH) ?_
          <;> (refine yL 47 (q_lda tAgg51_EwH) fun v47 hv47 => ?_; cases hv47)
          <;> refine s_alloc [(.slice none 0 0), (.int .i64 0)] 2 9 tZr51_EwH fun h9 => ?_
          <;> refine s_sta 9 tAgg51_EwH ?_
          <;> refine aL_end (nav ?_) <;> try dsimp only)
        (refine aC_region ?_
          <;> refine xL 48 (q_fldo 9 tFl51_0_EwH) ?_
          <;> (refine yL 49 (q_ldo 9 tNa36_EwH) fun v49 hv49 => ?_; cases hv49)
          <;> refine xL 50 (q_len tSl36_EwH) ?_
          <;> refine xL 51 q_move ?_
          <;> refine aL_end (nav ?_) <;> try dsimp only)
        refine aC_slen 49 rfl fun hlenx => ?_
        refine aC_loop (ι := { j : Nat // j ≤ x.acts.length ∧ ∀ (m : Nat) (s : ByteArray), m < j → x.acts[m]? = some s → 0 ≤ partOf c.parts s }) (fun j => ⟨[(0, v0, pVars l), (3, padd (sbase h3) 0, .val (padd (sbase h3) 0)), (6, h32, .smap (skv (entries 0 c.parts))), (42, v0, pVars l), (43, .int .i64 l.length, pInt l.length), (44, .int .i64 k, pInt k), (49, v49, pStrs x.acts), (50, .int .i64 x.acts.length, pInt x.acts.length), (51, .int .i64 j.1, pInt j.1)], [(3, h3, .own 28 2 1 [pInt c.kind, pStrss c.parts])]⟩) (fun j => x.acts.length - j.1) ⟨0, by omega, fun m s hm => by omega⟩ (fun a w H => H.weaken ⟨rfl, rfl, rfl, rfl, rfl, rfl, rfl, rfl, rfl, trivial⟩ ⟨rfl, trivial⟩) ?_
        rintro ⟨j, hj, hprej⟩
        dsimp only
        refine nav ?_
        (refine aC_region ?_
          <;> refine xL 52 q_lss ?_
          <;> refine aL_end (nav ?_) <;> try dsimp only)
        refine aC_cond rfl ?_ ?_
        · intro hb8
          have hltj : j < x.acts.length := by have := of_decide_eq_true hb8; omega
          obtain ⟨s, hsj⟩ := get_some hltj
          have e2 := map_at (f := pStr) hsj
          have hlook := part_look c.parts s
          refine nav ?_
          (refine aC_region ?_
            <;> refine xL 53 (q_idxN tSl36_EwH) ?_
            <;> (refine yL 54 (q_ld tNa9_EwH) fun v54 hv54 => ?_; cases hv54)
            <;> refine xL 11 q_assign ?_
            <;> refine aL_end (nav ?_) <;> try dsimp only)
          (refine aC_region ?_
            <;> refine xL 56 q_move ?_
            <;> refine xL 57 q_move ?_
            <;> refine xL 58 (q_look2 tMp74_EwH) ?_
            <;> refine xL 55 q_move ?_
            <;> refine xL 59 q_extract ?_
            <;> refine xL 60 q_extract ?_
            <;> refine xL 12 q_assign ?_
            <;> refine xL 13 q_assign ?_
            <;> refine aL_end (nav ?_) <;> try dsimp only)
          (refine aC_region ?_
            <;> refine xL 61 q_move ?_
            <;> refine xL 62 q_not ?_
            <;> refine aL_end (nav ?_) <;> try dsimp only)
          refine aC_cond rfl ?_ ?_
          · intro hb11
            refine nav ?_
            (refine aC_region ?_
              <;> refine xL 4 q_assign ?_
              <;> refine xL 5 q_assign ?_
              <;> refine aL_end (nav ?_) <;> try dsimp only)
            refine aR_ent (nilSl (t := 4) rfl) fun _ => ?_
            refine ret_ss (Tryz.results32) rfl rfl (rsp_err (splitR_8 hV hF (inParts_no (List.mem_of_getElem? hx) (List.mem_of_getElem? hsj) ?_)))
            rw [hlook] at hb11
            simpa using hb11
          · intro hb11
            refine nav ?_
            (refine aC_region ?_
              <;> refine xL 63 q_add ?_
              <;> refine xL 51 q_move ?_
              <;> refine aL_end (nav ?_) <;> try dsimp only)
            refine aN_again ⟨j + 1, by omega, fun m s' hm hs' => ?_⟩ (by show x.acts.length - (j + 1) < x.acts.length - j; omega) ⟨rfl, rfl, rfl, rfl, rfl, rfl, rfl, rfl, rfl, trivial⟩ ⟨rfl, trivial⟩
            by_cases e : m = j
            · subst e; rw [hsj] at hs'; cases hs'
              rw [hlook] at hb11
              simpa using hb11
            · exact hprej m s' (by omega) hs'
        · intro hb8
          have hgej : x.acts.length ≤ j := by have := of_decide_eq_false hb8; omega
          refine nav ?_
          (refine aC_region ?_
            <;> refine xL 64 q_add ?_
            <;> refine xL 44 q_move ?_
            <;> refine aL_end (nav ?_) <;> try dsimp only)
          refine aN_again ⟨k + 1, by omega, fun j' x' hj' hx' => ?_⟩ (by show l.length - (k + 1) < l.length - k; omega) ⟨rfl, rfl, rfl, rfl, rfl, rfl, trivial⟩ ⟨rfl, trivial⟩
          by_cases e : j' = k
          · subst e; rw [hx] at hx'; cases hx'
            intro s hs'
            obtain ⟨m, hm⟩ := List.getElem?_of_mem hs'
            exact hprej m s (by have := lt_of_get hm; omega) hm
          · exact hpre j' x' (by omega) hx'
      · intro hb5
        have hge : l.length ≤ k := by have := of_decide_eq_false hb5; omega
        have hP : ∀ x ∈ l, ∀ s ∈ x.acts, 0 ≤ partOf c.parts s := fun x hx => by
          obtain ⟨j, hj⟩ := List.getElem?_of_mem hx
          exact hpre j x (by have := lt_of_get hj; omega) hj
        refine nav ?_
        clear hpre hge hb5 hk
        (refine aC_region ?_
          <;> refine xL 65 (q_fldo 3 tFl28_1_EwH) ?_
          <;> (refine yL 66 (q_ldo 3 tNa26_EwH) fun v66 hv66 => ?_; cases hv66)
          <;> refine xL 67 (q_len tSl26_EwH) ?_
          <;> refine s_make 68 tEl56_EwH fun h68 ho68 => ?_
          <;> refine xL 14 q_assign ?_
          <;> refine aL_end (nav ?_) <;> try dsimp only)
        (refine aC_region ?_
          <;> refine xL 69 (q_fldo 3 tFl28_1_EwH) ?_
          <;> (refine yL 70 (q_ldo 3 tNa26_EwH) fun v70 hv70 => ?_; cases hv70)
          <;> refine xL 71 (q_len tSl26_EwH) ?_
          <;> refine s_make 72 tEl124_EwH fun h72 ho72 => ?_
          <;> refine xL 15 q_assign ?_
          <;> refine aL_end (nav ?_) <;> try dsimp only)
        refine aC_ent (nilCells (l := 68) ((List.replicate c.parts.length ([] : List Var)).map (oRow 51)) rfl (by simp) (nilTo_rows _ _)) fun _ => ?_
        (refine aC_region ?_
          <;> refine xL 73 q_move ?_
          <;> refine xL 74 (q_leno 72 tSl124_EwH) ?_
          <;> refine xL 75 q_move ?_
          <;> refine aL_end (nav ?_) <;> try dsimp only)
        refine aC_loop (ι := { k : Nat // k ≤ c.parts.length }) (fun k => ⟨[(0, v0, pVars l), (3, padd (sbase h3) 0, .val (padd (sbase h3) 0)), (6, h32, .smap (skv (entries 0 c.parts))), (14, h68, .val h68), (15, h72, .val h72), (73, h72, .val h72), (74, .int .i64 c.parts.length, pInt c.parts.length), (75, .int .i64 k.1, pInt k.1)], [(3, h3, .own 28 2 1 [pInt c.kind, pStrss c.parts]), (68, h68, .own 47 1 c.parts.length ((List.replicate c.parts.length ([] : List Var)).map (oRow 51))), (72, h72, .own 74 1 c.parts.length (List.replicate k.1 (.omap []) ++ List.replicate (c.parts.length - k.1) (.val (.map none))))]⟩) (fun k => c.parts.length - k.1) ⟨0, by omega⟩ (fun a w H => H.weaken ⟨rfl, rfl, rfl, rfl, rfl, rfl, rfl, rfl, trivial⟩ ⟨rfl, rfl, rfl, trivial⟩) ?_
        rintro ⟨k, hk⟩
        dsimp only
        refine nav ?_
        (refine aC_region ?_
          <;> refine xL 76 q_lss ?_
          <;> refine aL_end (nav ?_) <;> try dsimp only)
        refine aC_cond rfl ?_ ?_
        · intro hb18
          have hlt : k < c.parts.length := by have := of_decide_eq_true hb18; omega
          refine nav ?_
          (refine aC_region ?_
            <;> refine xL 77 q_move ?_
            <;> refine xL 16 q_assign ?_
            <;> refine aL_end (nav ?_) <;> try dsimp only)
          (refine aC_region ?_
            <;> refine xL 78 q_move ?_
            <;> refine xL 79 q_move ?_
            <;> refine s_mkmap 80 fun h80 ho80 => ?_
            <;> refine xL 81 (q_idxoN 72 tSl124_EwH) ?_
            <;> (refine aL_st1I 72 k rfl rfl tNa74_EwH tSz74_EwH rfl rfl rfl (by assumption) rfl (by omega) (by simp; omega) ?_)
            <;> refine aL_end (nav ?_) <;> try dsimp only)
          refine aC_ent (fold (l := 72) (l' := 80) (j := k) rfl (List.getElem?_set_self (by simp; omega)) rfl rfl) fun _ => ?_
          (refine aC_region ?_
            <;> refine xL 82 q_add ?_
            <;> refine xL 75 q_move ?_
            <;> refine aL_end (nav ?_) <;> try dsimp only)
          exact aN_again ⟨k + 1, by omega⟩ (by show c.parts.length - (k + 1) < c.parts.length - k; omega) ⟨rfl, rfl, rfl, rfl, rfl, rfl, rfl, rfl, trivial⟩ ⟨rfl, rfl, by show some _ = some _; rw [maps_step hlt], trivial⟩
        · intro hb18
          have hge : k = c.parts.length := by have := of_decide_eq_false hb18; omega
          refine nav ?_
          (refine aC_region ?_
            <;> refine xL 83 q_move ?_
            <;> refine xL 84 (q_len tSl47_EwH) ?_
            <;> refine xL 85 q_move ?_
            <;> refine aL_end (nav ?_) <;> try dsimp only)
          refine aC_loop (ι := { x : Nat × List (List Var) // InvS l c x }) (fun x => ⟨[(0, v0, pVars l), (3, padd (sbase h3) 0, .val (padd (sbase h3) 0)), (6, h32, .smap (skv (entries 0 c.parts))), (14, h68, .val h68), (15, h72, .val h72), (83, v0, pVars l), (84, .int .i64 l.length, pInt l.length), (85, .int .i64 x.1.1, pInt x.1.1)], [(3, h3, .own 28 2 1 [pInt c.kind, pStrss c.parts]), (68, h68, .own 47 1 c.parts.length (x.1.2.map (oRow 51))), (72, h72, .own 74 1 c.parts.length (x.1.2.map oAt))]⟩) (fun x => l.length - x.1.1) ⟨(0, List.replicate c.parts.length []), invS_0 l c⟩ (fun a w H => H.weaken ⟨rfl, rfl, rfl, rfl, rfl, rfl, rfl, rfl, trivial⟩ ⟨rfl, rfl, by show some _ = some _; rw [hge, maps_end], trivial⟩) ?_
          clear hge hb18 hk
          rintro ⟨⟨k, R⟩, hI⟩
          dsimp only
          obtain ⟨hk, hRl, hWR, S, hRS, hSok, hsp⟩ := id hI
          dsimp only at hk hRl hWR hRS hSok hsp
          refine nav ?_
          (refine aC_region ?_
            <;> refine xL 86 q_lss ?_
            <;> refine aL_end (nav ?_) <;> try dsimp only)
          refine aC_cond rfl ?_ ?_
          · intro hb23
            have hlt : k < l.length := by have := of_decide_eq_true hb23; omega
            obtain ⟨x, hx⟩ := get_some hlt
            have hD := flat_drop cVar_len l k x hx
            have hfit := flat_fit cVar_len hx
            have hin := hP x (List.mem_of_getElem? hx)
            have hok := validVars_at hV hx
            have hcnt := okVar_count hok
            have hxl : x.acts.length ≤ 200 := by simp only [okVar, Bool.and_eq_true, decide_eq_true_eq] at hok; exact hok.1.1.1
            have hkind := formed_kind hF
            have hCS := csplit_e c x.acts (entries 0 c.parts) (fun t ht => aget_part (hin t ht)) hin (by omega) (by omega) hn1 hkind.1 hkind.2.1
            rw [splitAll_at hx] at hsp
            refine nav ?_
            (refine aC_region ?_
              <;> refine xL 87 (q_idxN tSl47_EwH) ?_
              <;> (refine yL 88 (q_lda tAgg51_EwH) fun v88 hv88 => ?_; cases hv88)
              <;> refine s_alloc [(.slice none 0 0), (.int .i64 0)] 2 18 tZr51_EwH fun h18 => ?_
              <;> refine s_sta 18 tAgg51_EwH ?_
              <;> refine aL_end (nav ?_) <;> try dsimp only)
            refine (show splitOf c x.acts = none ∨ ∃ ps, splitOf c x.acts = some ps by cases splitOf c x.acts with | none => exact .inl rfl | some ps => exact .inr ⟨ps, rfl⟩).elim (fun hO => ?_) (fun hO => hO.elim fun ps hO => ?_)
            · rw [hO] at hCS hsp
              (refine aC_region ?_
                <;> refine xL 90 (q_fldo 18 tFl51_0_EwH) ?_
                <;> (refine yL 91 (q_ldo 18 tNa36_EwH) fun v91 hv91 => ?_; cases hv91)
                <;> refine xL 92 (q_fldo 3 tFl28_0_EwH) ?_
                <;> (refine yL 93 (q_ldo 3 tNa3_EwH) fun v93 hv93 => ?_; cases hv93)
                <;> refine xL 94 (q_fldo 3 tFl28_1_EwH) ?_
                <;> (refine yL 95 (q_ldo 3 tNa26_EwH) fun v95 hv95 => ?_; cases hv95)
                <;> refine xL 96 (q_len tSl26_EwH) ?_
                <;> refine xL 97 q_move ?_
                <;> (refine aL_ct (R := (· = .tup [.val (.slice none 0 0), pBool false])) 98 202 203 rfl rfl (Nat.le_of_ble_eq_true rfl) rfl rfl rfl (callA rfl (Tryz.call90) rfl hCS) ?_; rintro p' rfl; refine ⟨_, _, rfl, rfl, rfl, ?_⟩; intro v202 v203 hv202 hv203 _ _; cases hv202; cases hv203)
                <;> refine xL 89 q_move ?_
                <;> refine xL 99 q_extract ?_
                <;> refine xL 100 q_extract ?_
                <;> refine xL 19 q_assign ?_
                <;> refine xL 20 q_assign ?_
                <;> refine aL_end (nav ?_) <;> try dsimp only)
              (refine aC_region ?_
                <;> refine xL 101 q_move ?_
                <;> refine xL 102 q_not ?_
                <;> refine aL_end (nav ?_) <;> try dsimp only)
              refine aC_cond rfl ?_ (fun h => by cases h)
              intro _
              refine nav ?_
              (refine aC_region ?_
                <;> refine xL 4 q_assign ?_
                <;> refine xL 5 q_assign ?_
                <;> refine aL_end (nav ?_) <;> try dsimp only)
              refine aR_ent (nilSl (t := 4) rfl) fun _ => ?_
              refine ret_ss (Tryz.results32) rfl rfl (rsp_err (splitR_19 hV hF ?_ hsp))
              unfold inParts
              rw [List.all_eq_true]
              intro x hx
              rw [List.all_eq_true]
              exact fun s hs => decide_eq_true (hP x hx s hs)
            · rw [hO] at hCS hsp
              (refine aC_region ?_
                <;> refine xL 90 (q_fldo 18 tFl51_0_EwH) ?_
                <;> (refine yL 91 (q_ldo 18 tNa36_EwH) fun v91 hv91 => ?_; cases hv91)
                <;> refine xL 92 (q_fldo 3 tFl28_0_EwH) ?_
                <;> (refine yL 93 (q_ldo 3 tNa3_EwH) fun v93 hv93 => ?_; cases hv93)
                <;> refine xL 94 (q_fldo 3 tFl28_1_EwH) ?_
                <;> (refine yL 95 (q_ldo 3 tNa26_EwH) fun v95 hv95 => ?_; cases hv95)
                <;> refine xL 96 (q_len tSl26_EwH) ?_
                <;> refine xL 97 q_move ?_
                <;> (refine aL_ct (R := (· = .tup [pPieces ps, pBool true])) 98 202 203 rfl rfl (Nat.le_of_ble_eq_true rfl) rfl rfl rfl (callA rfl (Tryz.call90) rfl hCS) ?_; rintro p' rfl; refine ⟨_, _, rfl, rfl, rfl, ?_⟩; intro v202 v203 hv202 hv203 _ _; cases hv203)
                <;> refine xL 89 q_move ?_
                <;> refine xL 99 q_extract ?_
                <;> refine xL 100 q_extract ?_
                <;> refine xL 19 q_assign ?_
                <;> refine xL 20 q_assign ?_
                <;> refine aL_end (nav ?_) <;> try dsimp only)
              (refine aC_region ?_
                <;> refine xL 101 q_move ?_
                <;> refine xL 102 q_not ?_
                <;> refine aL_end (nav ?_) <;> try dsimp only)
              refine aC_cond rfl (fun h => by cases h) ?_
              intro _
              refine nav ?_
              have hPS := splitOf_ok (by omega) hin hO
              have hWP := splitOf_wok hok hO
              have hpl : ps.length ≤ 1000300 := by have := hPS.1; omega
              have hk300 : l.length ≤ 300 := by simp only [validVars, Bool.and_eq_true, decide_eq_true_eq] at hV; exact hV.1
              (refine aC_region ?_
                <;> refine xL 103 q_move ?_
                <;> refine xL 104 (q_len tSl125_EwH) ?_
                <;> refine xL 105 q_move ?_
                <;> refine aL_end (nav ?_) <;> try dsimp only)
              refine aC_loop (ι := { y : Nat × List (List Var) // InvP c S ps x.count k y }) (fun y => ⟨[(0, v0, pVars l), (3, padd (sbase h3) 0, .val (padd (sbase h3) 0)), (6, h32, .smap (skv (entries 0 c.parts))), (14, h68, .val h68), (15, h72, .val h72), (83, v0, pVars l), (84, .int .i64 l.length, pInt l.length), (85, .int .i64 k, pInt k), (18, padd (sbase h18) 0, .val (padd (sbase h18) 0)), (103, v202, pPieces ps), (104, .int .i64 ps.length, pInt ps.length), (105, .int .i64 y.1.1, pInt y.1.1)], [(3, h3, .own 28 2 1 [pInt c.kind, pStrss c.parts]), (18, h18, .own 51 2 1 [pStrs x.acts, pInt x.count]), (68, h68, .own 47 1 c.parts.length (y.1.2.map (oRow 51))), (72, h72, .own 74 1 c.parts.length (y.1.2.map oAt))]⟩) (fun y => ps.length - y.1.1) ⟨(0, R), invP_0 ps x.count hRl hWR hRS hSok⟩ (fun a w H => H.weaken ⟨rfl, rfl, rfl, rfl, rfl, rfl, rfl, rfl, rfl, rfl, rfl, rfl, trivial⟩ ⟨rfl, rfl, rfl, rfl, trivial⟩) ?_
              rintro ⟨⟨i, R'⟩, hIP⟩
              dsimp only
              refine nav ?_
              (refine aC_region ?_
                <;> refine xL 106 q_lss ?_
                <;> refine aL_end (nav ?_) <;> try dsimp only)
              refine aC_cond rfl ?_ ?_
              · intro hb29
                have hlti : i < ps.length := by have := of_decide_eq_true hb29; omega
                obtain ⟨⟨pp, pw⟩, hp⟩ := get_some hlti
                have hpm := List.mem_of_getElem? hp
                have hpw : WOk pw := hWP _ hpm
                have hpr := hPS.2 _ hpm
                dsimp only at hpr
                obtain ⟨pn, rfl⟩ : ∃ pn : Nat, pp = (pn : Int) := ⟨pp.toNat, by omega⟩
                obtain ⟨b1, b2, b3, S', b4, b5, b6⟩ := id hIP
                dsimp only at b1 b2 b3 b4 b5 b6
                obtain ⟨r, hr⟩ : ∃ r, R'[pn]? = some r := get_some (by omega)
                have hput : putB x.count R' ⟨(pn : Int), pw⟩ = R'.set pn (bump r pw x.count) := putB_some hr
                have hRok := b4.ok b5 r (List.mem_of_getElem? hr)
                have hD2 := flat_drop cPiece_len ps i _ hp
                have hfit2 := flat_fit cPiece_len hp
                have hWr : ∀ y ∈ r, WOk y.acts := b3 r (List.mem_of_getElem? hr)
                refine nav ?_
                (refine aC_region ?_
                  <;> refine xL 107 (q_idxN tSl125_EwH) ?_
                  <;> (refine yL 108 (q_lda tAgg129_EwH) fun v108 hv108 => ?_; cases hv108)
                  <;> refine s_alloc [(.int .i64 0), (.slice none 0 0)] 2 22 tZr129_EwH fun h22 => ?_
                  <;> refine s_sta 22 tAgg129_EwH ?_
                  <;> refine aL_end (nav ?_) <;> try dsimp only)
                (refine aC_region ?_
                  <;> refine xL 109 (q_fldo 22 tFl129_1_EwH) ?_
                  <;> (refine yL 110 (q_ldo 22 tNa36_EwH) fun v110 hv110 => ?_; cases hv110)
                  <;> (refine aL_cs 111 rfl rfl (Nat.le_of_ble_eq_true rfl) (callA rfl (Tryz.call91) rfl (join_e pw (by have := hpw.1; omega) (join_len hpw))) ?_; rintro p' rfl; refine ⟨rfl, ?_⟩; intro v111 hv111; cases hv111)
                  <;> refine xL 23 q_assign ?_
                  <;> refine aL_end (nav ?_) <;> try dsimp only)
                have hcA : (R'.map oAt)[pn]? = some (oAt r) := by rw [List.getElem?_map, hr]; rfl
                have hcR : (R'.map (oRow 51))[pn]? = some (oRow 51 r) := by rw [List.getElem?_map, hr]; rfl
                refine aC_ent (focusO (l := 72) (l' := 600) (j := pn) rfl hcA rfl rfl) fun v => ?_
                obtain ⟨m, hm⟩ := v
                dsimp only
                refine aC_ent (focusO (l := 68) (l' := 601) (j := pn) rfl hcR rfl rfl) fun v => ?_
                obtain ⟨hd, hhd⟩ := v
                dsimp only
                have hc72 : ((R'.map oAt).set pn (.val m))[pn]? = some (.val m) := List.getElem?_set_self (by rw [List.length_map]; omega)
                have hc68 : ((R'.map (oRow 51)).set pn (.val hd))[pn]? = some (.val hd) := List.getElem?_set_self (by rw [List.length_map]; omega)
                (refine aC_region ?_
                  <;> refine xL 113 q_move ?_
                  <;> refine xL 114 (q_fldo 22 tFl129_0_EwH) ?_
                  <;> (refine yL 115 (q_ldo 22 tNa3_EwH) fun v115 hv115 => ?_; cases hv115)
                  <;> refine xL 116 (q_idxoN 72 tSl124_EwH) ?_
                  <;> (refine aL_y 117 rfl rfl (Nat.le_of_ble_eq_true rfl) (y_ld_ownI 72 pn tNa74_EwH rfl rfl rfl (by first | rfl | omega) hc72 rfl) ?_; intro v117 hv117; cases hv117)
                  <;> refine xL 118 q_move ?_
                  <;> refine xL 119 (q_looko2 600 tMp74_EwH) ?_
                  <;> refine xL 112 q_move ?_
                  <;> refine xL 120 q_extract ?_
                  <;> refine xL 121 q_extract ?_
                  <;> refine xL 24 q_assign ?_
                  <;> refine xL 25 q_assign ?_
                  <;> refine aL_end (nav ?_) <;> try dsimp only)
                (refine aC_region ?_
                  <;> refine xL 122 q_move ?_
                  <;> refine xL 123 q_not ?_
                  <;> refine aL_end (nav ?_) <;> try dsimp only)
                have hbnd : r.length ≤ 400000000 ∧ ∀ y ∈ r, 0 ≤ y.count ∧ y.count ≤ 400000000000000 := by
                  refine ⟨by have := hRok.1; omega, fun y hy => ?_⟩
                  have := hRok.2 y hy
                  exact ⟨this.1, by have := this.2; omega⟩
                refine aC_mid (ι := { y : Value × List Var × Nat × Var // Met r pw x.count y.1 y.2.1 y.2.2.1 y.2.2.2 }) (fun y => ⟨[(0, v0, pVars l), (3, padd (sbase h3) 0, .val (padd (sbase h3) 0)), (6, h32, .smap (skv (entries 0 c.parts))), (14, h68, .val h68), (15, h72, .val h72), (83, v0, pVars l), (84, .int .i64 l.length, pInt l.length), (85, .int .i64 k, pInt k), (18, padd (sbase h18) 0, .val (padd (sbase h18) 0)), (103, v202, pPieces ps), (104, .int .i64 ps.length, pInt ps.length), (105, .int .i64 i, pInt i), (22, padd (sbase h22) 0, .val (padd (sbase h22) 0)), (24, .int .i64 y.1.2.2.1, pInt y.1.2.2.1)], [(3, h3, .own 28 2 1 [pInt c.kind, pStrss c.parts]), (18, h18, .own 51 2 1 [pStrs x.acts, pInt x.count]), (22, h22, .own 129 2 1 [pInt pn, pStrs pw]), (68, h68, .own 47 1 c.parts.length ((R'.map (oRow 51)).set pn (.val y.1.1))), (72, h72, .own 74 1 c.parts.length ((R'.map oAt).set pn (.val m))), (600, m, oAt (bump r pw x.count)), (601, y.1.1, oRow 51 y.1.2.1)]⟩) ?_ ?_
                · refine aC_cond rfl ?_ ?_
                  · intro hb33
                    have hmg : aget (atGo joinW 0 r) (joinW pw) = none := by
                      rw [← mget_skv]
                      cases h : mget (skv (atGo joinW 0 r)) (.string (joinW pw)) with
                      | none => rfl
                      | some v => rw [h] at hb33; cases hb33
                    obtain ⟨hnew, hat⟩ := atGo_none hmg
                    have hat' := hat x.count
                    rw [Nat.zero_add] at hat'
                    have hrb := hbnd.1
                    have hpwl := hpw.1
                    have hfr := flat_len cVar_len r
                    unfold oRow
                    refine nav ?_
                    (refine aC_region ?_
                      <;> refine xL 124 q_move ?_
                      <;> refine xL 125 (q_fldo 22 tFl129_0_EwH) ?_
                      <;> (refine yL 126 (q_ldo 22 tNa3_EwH) fun v126 hv126 => ?_; cases hv126)
                      <;> refine xL 127 (q_idxoN 68 tSl56_EwH) ?_
                      <;> (refine aL_y 128 rfl rfl (Nat.le_of_ble_eq_true rfl) (y_ld_ownI 68 pn tNa47_EwH rfl rfl rfl (by first | rfl | omega) hc68 rfl) ?_; intro v128 hv128; cases hv128)
                      <;> refine xL 129 (q_leno 601 tSl47_EwH) ?_
                      <;> refine xL 24 q_assign ?_
                      <;> refine aL_end (nav ?_) <;> try dsimp only)
                    (refine aC_region ?_
                      <;> refine xL 130 q_move ?_
                      <;> refine xL 131 (q_fldo 22 tFl129_0_EwH) ?_
                      <;> (refine yL 132 (q_ldo 22 tNa3_EwH) fun v132 hv132 => ?_; cases hv132)
                      <;> refine xL 133 (q_idxoN 72 tSl124_EwH) ?_
                      <;> (refine aL_y 134 rfl rfl (Nat.le_of_ble_eq_true rfl) (y_ld_ownI 72 pn tNa74_EwH rfl rfl rfl (by first | rfl | omega) hc72 rfl) ?_; intro v134 hv134; cases hv134)
                      <;> refine xL 135 q_move ?_
                      <;> refine xL 136 q_move ?_
                      <;> refine s_mput 600 tMp74_EwH ?_
                      <;> refine aL_end (nav ?_) <;> try dsimp only)
                    (refine aC_draw (fun i => ([15] : List Nat).elem i) [22, 68] (by kernel_rfl) ?_
                      <;> refine xD 0 137 rfl q_move ?_
                      <;> refine xD 1 138 rfl (q_fldo 22 tFl129_0_EwH) ?_
                      <;> (refine yD 2 139 rfl (q_ldo 22 tNa3_EwH) fun v139 hv139 => ?_; cases hv139)
                      <;> refine xD 3 140 rfl q_move ?_
                      <;> refine xD 4 141 rfl (q_fldo 22 tFl129_0_EwH) ?_
                      <;> (refine yD 5 142 rfl (q_ldo 22 tNa3_EwH) fun v142 hv142 => ?_; cases hv142)
                      <;> refine xD 6 143 rfl (q_idxoN 68 tSl56_EwH) ?_
                      <;> (refine aD_y 7 144 rfl (by kernel_rfl) rfl rfl (Nat.le_of_ble_eq_true rfl) (y_ld_ownI 68 pn tNa47_EwH rfl rfl rfl (by first | rfl | omega) hc68 rfl) ?_; intro v144 hv144; cases hv144)
                      <;> refine xE 8 145 rfl (q_fldo 22 tFl129_1_EwH) ?_
                      <;> (refine yE 9 146 rfl (q_ldo 22 tNa36_EwH) fun v146 hv146 => ?_; cases hv146)
                      <;> (refine aD_one 10 (by kernel_rfl) ?_)
                      <;> (refine aW_run rfl fun w9 M9 N9 DQ back => ?_)
                      <;> (refine aL_cs 147 rfl rfl (Nat.le_of_ble_eq_true rfl) (callA rfl (Tryz.call92) rfl (clone_e pw (by omega))) ?_; rintro p' rfl; refine ⟨rfl, ?_⟩; intro v147 hv147; clear hv147)
                      <;> refine aL_end (back _ (nrm ?_))
                      <;> refine xE 11 148 rfl (q_build tSt51_EwH) ?_
                      <;> (refine aD_one 12 (by kernel_rfl) ?_)
                      <;> (refine aW_run rfl fun w9 M9 N9 DQ back => ?_)
                      <;> refine s_lit1a 149 tEl47_EwH fun h149 ho149 => ?_
                      <;> refine aL_end (back _ (nrm ?_))
                      <;> (refine aD_one 13 (by kernel_rfl) ?_)
                      <;> (refine aW_run rfl fun w9 M9 N9 DQ back => ?_)
                      <;> refine s_app 601 149 150 tEl47_EwH fun h150 ho150 => ?_
                      <;> refine aL_end (back _ (nrm ?_))
                      <;> refine xE 14 151 rfl (q_idxoN 68 tSl56_EwH) ?_
                      <;> (refine aD_one 15 (by kernel_rfl) ?_)
                      <;> (refine aW_last rfl rfl (by kernel_rfl) fun DQ back => ?_)
                      <;> (refine aL_st1I 68 pn rfl rfl tNa47_EwH tSz47_EwH rfl rfl rfl (by assumption) rfl (by first | rfl | omega) (by rw [List.length_set, List.length_map]; omega) ?_)
                      <;> refine aL_end (back _ (nav ?_))
                      <;> try dsimp only)
                    refine aN_ent (relabel (l := 150) 601 rfl rfl) fun _ => ?_
                    have hrow3 : r.flatMap cVar ++ [pStrs pw, pInt 0] = (r ++ [(⟨pw, 0⟩ : Var)]).flatMap cVar := by rw [List.flatMap_append]; rfl
                    refine aN_cut ⟨(h150, r ++ [⟨pw, 0⟩], r.length, ⟨pw, 0⟩), ho150, by simp, rfl, bump_new hnew, by show (0 : Int) ≤ 0; decide, by show (0 : Int) ≤ 400000000000000; decide, by simp; omega⟩ ⟨rfl, rfl, rfl, rfl, rfl, rfl, rfl, rfl, rfl, rfl, rfl, rfl, rfl, rfl, trivial⟩ ⟨rfl, rfl, rfl, ?_, rfl, ?_, ?_, trivial⟩
                    · show some _ = some _
                      rw [List.set_set]
                    · show some _ = some _
                      unfold oAt; rw [hat', mput_skv]
                    · show some _ = some _
                      rw [← hrow3]; simp; rfl
                  · intro hb33
                    obtain ⟨v, hmg⟩ : ∃ v, aget (atGo joinW 0 r) (joinW pw) = some v := by
                      rw [← mget_skv]
                      cases h : mget (skv (atGo joinW 0 r)) (.string (joinW pw)) with
                      | none => rw [h] at hb33; cases hb33
                      | some v => exact ⟨v, rfl⟩
                    obtain ⟨ix, z, hv, hz, hzw, hset⟩ := atGo_some hpw joinW_inj hWr hmg
                    rw [Nat.zero_add] at hv
                    have hzb := hbnd.2 z (List.mem_of_getElem? hz)
                    refine nav ?_
                    refine aN_cut ⟨(hd, r, ix, z), hhd, hz, hzw, (hset _).1, hzb.1, hzb.2, hbnd.1⟩ ⟨rfl, rfl, rfl, rfl, rfl, rfl, rfl, rfl, rfl, rfl, rfl, rfl, rfl, ?_, trivial⟩ ⟨rfl, rfl, rfl, rfl, rfl, ?_, rfl, trivial⟩
                    · show some _ = some _
                      rw [mget_skv, hmg, hv]; rfl
                    · show some _ = some _
                      unfold oAt; rw [(hset _).2]
                · rintro ⟨⟨hd', r', ix, z⟩, hM⟩
                  obtain ⟨m1, m2, m3, m4, m5, m6, m7⟩ := id hM
                  dsimp only at m1 m2 m3 m4 m5 m6 m7 ⊢
                  have hc1 : ((R'.map (oRow 51)).set pn (.val hd'))[pn]? = some (.val hd') := List.getElem?_set_self (by rw [List.length_map]; omega)
                  have hcz : (r'.flatMap cVar)[ix * 2 + 1]? = some (pInt z.count) := by rw [flat_at cVar_len m2 (j := 1) (by decide)]; rfl
                  have hixl := lt_of_get m2
                  have hfl := flat_len cVar_len r'
                  unfold oRow
                  refine nav ?_
                  (refine aC_draw (fun i => ([14] : List Nat).elem i) [18, 22, 68, 601] (by kernel_rfl) ?_
                    <;> refine xD 0 152 rfl q_move ?_
                    <;> refine xD 1 153 rfl (q_fldo 22 tFl129_0_EwH) ?_
                    <;> (refine yD 2 154 rfl (q_ldo 22 tNa3_EwH) fun v154 hv154 => ?_; cases hv154)
                    <;> refine xD 3 155 rfl (q_idxoN 68 tSl56_EwH) ?_
                    <;> (refine aD_y 4 156 rfl (by kernel_rfl) rfl rfl (Nat.le_of_ble_eq_true rfl) (y_ld_ownI 68 pn tNa47_EwH rfl rfl rfl (by first | rfl | omega) hc1 rfl) ?_; intro v156 hv156; cases hv156)
                    <;> refine xD 5 157 rfl q_move ?_
                    <;> refine xD 6 158 rfl (q_idxoN 601 tSl47_EwH) ?_
                    <;> refine xD 7 159 rfl (q_fldo 601 tFl51_1_EwH) ?_
                    <;> (refine aD_y 8 160 rfl (by kernel_rfl) rfl rfl (Nat.le_of_ble_eq_true rfl) (y_ld_ownI 601 (ix * 2 + 1) tNa3_EwH rfl rfl rfl (by first | rfl | omega) hcz rfl) ?_; intro v160 hv160; cases hv160)
                    <;> refine xE 9 161 rfl (q_fldo 18 tFl51_1_EwH) ?_
                    <;> (refine yE 10 162 rfl (q_ldo 18 tNa3_EwH) fun v162 hv162 => ?_; cases hv162)
                    <;> refine xE 11 163 rfl q_add ?_
                    <;> refine xE 12 164 rfl (q_idxoN 601 tSl47_EwH) ?_
                    <;> refine xE 13 165 rfl (q_fldo 601 tFl51_1_EwH) ?_
                    <;> (refine aD_one 14 (by kernel_rfl) ?_)
                    <;> (refine aW_last rfl rfl (by kernel_rfl) fun DQ back => ?_)
                    <;> (refine aL_st1I 601 (ix * 2 + 1) rfl rfl tNa3_EwH tSz3_EwH rfl rfl rfl rfl rfl (by first | rfl | omega) (by rw [hfl]; omega) ?_)
                    <;> refine aL_end (back _ (nav ?_))
                    <;> try dsimp only)
                  have hset2 : (r'.flatMap cVar).set (ix * 2 + 1) (pInt (z.count + x.count)) = (bump r pw x.count).flatMap cVar := by
                    rw [flat_set cVar_len r' ix 1 z ⟨pw, z.count + x.count⟩ _ m2 (by decide) (by simp [cVar, m3]), m4]
                  have hlen2 : r'.length = (bump r pw x.count).length := by rw [← m4, List.length_set]
                  refine aC_ent (fold (l := 68) (l' := 601) (j := pn) rfl hc1 rfl rfl) fun _ => ?_
                  refine aC_ent (fold (l := 72) (l' := 600) (j := pn) rfl hc72 rfl rfl) fun _ => ?_
                  (refine aC_region ?_
                    <;> refine xL 166 q_add ?_
                    <;> refine xL 105 q_move ?_
                    <;> refine aL_end (nav ?_) <;> try dsimp only)
                  have hIP2 : InvP c S ps x.count k (i + 1, R'.set pn (bump r pw x.count)) := hput ▸ invP_step hIP hp hpw (by omega) hcnt.2
                  have hrows : ((R'.map (oRow 51)).set pn (.val hd')).set pn (.own 51 2 r'.length ((r'.flatMap cVar).set (ix * 2 + 1) (pInt (z.count + x.count)))) = (R'.set pn (bump r pw x.count)).map (oRow 51) := by
                    rw [List.set_set, hset2, hlen2, List.map_set]; rfl
                  have hats : ((R'.map oAt).set pn (.val m)).set pn (oAt (bump r pw x.count)) = (R'.set pn (bump r pw x.count)).map oAt := by
                    rw [List.set_set, List.map_set]
                  exact aN_again ⟨(i + 1, R'.set pn (bump r pw x.count)), hIP2⟩ (by show ps.length - (i + 1) < ps.length - i; omega) ⟨rfl, rfl, rfl, rfl, rfl, rfl, rfl, rfl, rfl, rfl, rfl, rfl, trivial⟩ ⟨rfl, rfl, congrArg (fun cs => some (h68, PV.own 47 1 c.parts.length cs)) hrows, congrArg (fun cs => some (h72, PV.own 74 1 c.parts.length cs)) hats, trivial⟩
              · intro hb29
                have hgei : ps.length ≤ i := by have := of_decide_eq_false hb29; omega
                refine nav ?_
                (refine aC_region ?_
                  <;> refine xL 167 q_add ?_
                  <;> refine xL 85 q_move ?_
                  <;> refine aL_end (nav ?_) <;> try dsimp only)
                exact aN_again ⟨(k + 1, R'), invP_end hIP hgei hlt hpl hsp⟩ (by show l.length - (k + 1) < l.length - k; omega) ⟨rfl, rfl, rfl, rfl, rfl, rfl, rfl, rfl, trivial⟩ ⟨rfl, rfl, rfl, trivial⟩
          · intro hb23
            have hge : l.length ≤ k := by have := of_decide_eq_false hb23; omega
            have hall : splitAll c (List.replicate c.parts.length []) l = some S := by rw [hsp, List.drop_eq_nil_of_le hge]; rfl
            have hIn : inParts c.parts l = true := by
              unfold inParts
              rw [List.all_eq_true]
              intro x hx
              rw [List.all_eq_true]
              exact fun s hs => decide_eq_true (hP x hx s hs)
            refine nav ?_
            (refine aC_region ?_
              <;> refine xL 168 q_move ?_
              <;> refine xL 169 (q_leno 68 tSl56_EwH) ?_
              <;> refine xL 170 q_move ?_
              <;> refine aL_end (nav ?_) <;> try dsimp only)
            refine aC_loop (ι := { j : Nat // j ≤ c.parts.length ∧ ∀ (i : Nat) (r : List Var), i < j → R[i]? = some r → bigVars r = false }) (fun j => ⟨[(14, h68, .val h68), (168, h68, .val h68), (169, .int .i64 c.parts.length, pInt c.parts.length), (170, .int .i64 j.1, pInt j.1)], [(68, h68, .own 47 1 c.parts.length (R.map (oRow 51)))]⟩) (fun j => c.parts.length - j.1) ⟨0, by omega, fun i r hi => by omega⟩ (fun a w H => H.weaken ⟨rfl, rfl, rfl, rfl, trivial⟩ ⟨rfl, trivial⟩) ?_
            rintro ⟨j, hj, hbig⟩
            dsimp only
            refine nav ?_
            (refine aC_region ?_
              <;> refine xL 171 q_lss ?_
              <;> refine aL_end (nav ?_) <;> try dsimp only)
            refine aC_cond rfl ?_ ?_
            · intro hb41
              have hltj : j < c.parts.length := by have := of_decide_eq_true hb41; omega
              obtain ⟨r, hr⟩ : ∃ r, R[j]? = some r := get_some (by omega)
              have hcR : (R.map (oRow 51))[j]? = some (oRow 51 r) := by rw [List.getElem?_map, hr]; rfl
              refine aC_ent (focusO (l := 68) (l' := 601) (j := j) rfl hcR rfl rfl) fun v => ?_
              obtain ⟨hd, hhd⟩ := v
              dsimp only
              have hc68 : ((R.map (oRow 51)).set j (.val hd))[j]? = some (.val hd) := List.getElem?_set_self (by rw [List.length_map]; omega)
              refine nav ?_
              (refine aC_region ?_
                <;> refine xL 172 (q_idxoN 68 tSl56_EwH) ?_
                <;> (refine aL_y 173 rfl rfl (Nat.le_of_ble_eq_true rfl) (y_ld_ownI 68 j tNa47_EwH rfl rfl rfl (by first | rfl | omega) hc68 rfl) ?_; intro v173 hv173; cases hv173)
                <;> refine xL 27 q_assign ?_
                <;> refine aL_end (nav ?_) <;> try dsimp only)
              (refine aC_region ?_
                <;> refine xL 174 q_move ?_
                <;> (refine aL_cs 175 rfl rfl (Nat.le_of_ble_eq_true rfl) (callB rfl (Tryz.call82) (ps := [pVars r, .fn 93 []]) ⟨⟨_, _, rfl, reads_row (l := 601) rfl⟩, ⟨_, _, rfl, reads_slot (x := .func 93) rfl⟩, trivial⟩ (containsFuncVar_e 93 [] (fun x => decide (1048576 < x.count)) r (Tryz.call93) (fun x _ => cSplit1_e x)) (fun p hp => by rw [hp]; rfl)) ?_; rintro p' rfl; refine ⟨rfl, ?_⟩; intro v175 hv175; cases hv175)
                <;> refine aL_end (nav ?_) <;> try dsimp only)
              refine aC_cond rfl ?_ ?_
              · intro hb43
                refine nav ?_
                (refine aC_region ?_
                  <;> refine xL 4 q_assign ?_
                  <;> refine xL 5 q_assign ?_
                  <;> refine aL_end (nav ?_) <;> try dsimp only)
                refine aR_ent (nilSl (t := 4) rfl) fun _ => ?_
                refine ret_ss (Tryz.results32) rfl rfl (rsp_err (splitR_6 hV hF hIn hall ?_))
                rw [← hRS.any bigVars fun _ _ h => big_perm h]
                exact any_yes hr hb43
              · intro hb43
                refine nav ?_
                (refine aC_region ?_
                  <;> refine xL 176 q_add ?_
                  <;> refine xL 170 q_move ?_
                  <;> refine aL_end (nav ?_) <;> try dsimp only)
                refine aN_ent (fold (l := 68) (l' := 601) (j := j) rfl hc68 rfl rfl) fun _ => ?_
                have hcs : ((R.map (oRow 51)).set j (.val hd)).set j (oRow 51 r) = R.map (oRow 51) := by
                  rw [List.set_set]; exact set_same hcR
                refine aN_again ⟨j + 1, by omega, fun i r' hi hr' => ?_⟩ (by show c.parts.length - (j + 1) < c.parts.length - j; omega) ⟨rfl, rfl, rfl, rfl, trivial⟩ ⟨by show some _ = some _; rw [hcs], trivial⟩
                by_cases e : i = j
                · subst e; rw [hr] at hr'; cases hr'; exact hb43
                · exact hbig i r' (by omega) hr'
            · intro hb41
              have hgej : c.parts.length ≤ j := by have := of_decide_eq_false hb41; omega
              have hB : S.any bigVars = false := by
                rw [← hRS.any bigVars fun _ _ h => big_perm h]
                exact any_no fun i r hr => hbig i r (by have := lt_of_get hr; omega) hr
              refine nav ?_
              clear hbig hgej hb41 hj
              (refine aC_region ?_
                <;> refine xL 177 q_move ?_
                <;> refine xL 178 (q_leno 68 tSl56_EwH) ?_
                <;> refine xL 179 q_move ?_
                <;> refine aL_end (nav ?_) <;> try dsimp only)
              refine aC_loop (ι := { y : Nat × List (List Var) // y.1 ≤ c.parts.length ∧ y.2.length = R.length ∧ (∀ (i : Nat) (r t : List Var), R[i]? = some r → y.2[i]? = some t → (i < y.1 → Asc t ∧ t.Perm r) ∧ (y.1 ≤ i → t = r)) ∧ ∀ (i : Nat) (r : List Var), i < y.1 → R[i]? = some r → manyVars r = false }) (fun y => ⟨[(14, h68, .val h68), (177, h68, .val h68), (178, .int .i64 c.parts.length, pInt c.parts.length), (179, .int .i64 y.1.1, pInt y.1.1)], [(68, h68, .own 47 1 c.parts.length (y.1.2.map (oRow 51)))]⟩) (fun y => c.parts.length - y.1.1) ⟨(0, R), by simp, rfl, fun i r t hr ht => ⟨fun h => by simp at h, fun _ => by dsimp only at ht; rw [hr] at ht; cases ht; rfl⟩, fun i r h => by simp at h⟩ (fun a w H => H.weaken ⟨rfl, rfl, rfl, rfl, trivial⟩ ⟨rfl, trivial⟩) ?_
              rintro ⟨⟨j, T⟩, hj, hTl, hT, hmany⟩
              dsimp only at hj hTl hT hmany ⊢
              refine nav ?_
              (refine aC_region ?_
                <;> refine xL 180 q_lss ?_
                <;> refine aL_end (nav ?_) <;> try dsimp only)
              refine aC_cond rfl ?_ ?_
              · intro hb47
                have hltj : j < c.parts.length := by have := of_decide_eq_true hb47; omega
                obtain ⟨r, hr⟩ : ∃ r, R[j]? = some r := get_some (by omega)
                have hTr : T[j]? = some r := by
                  obtain ⟨t, ht⟩ : ∃ t, T[j]? = some t := get_some (by omega)
                  rw [ht, (hT j r t hr ht).2 (Nat.le_refl _)]
                have hcR : (T.map (oRow 51))[j]? = some (oRow 51 r) := by rw [List.getElem?_map, hTr]; rfl
                refine aC_ent (focusO (l := 68) (l' := 601) (j := j) rfl hcR rfl rfl) fun v => ?_
                obtain ⟨hd, hhd⟩ := v
                dsimp only
                have hc68 : ((T.map (oRow 51)).set j (.val hd))[j]? = some (.val hd) := List.getElem?_set_self (by rw [List.length_map]; omega)
                have hWr : ∀ y ∈ r, WOk y.acts := hWR r (List.mem_of_getElem? hr)
                obtain ⟨sj, hsj⟩ : ∃ s, S[j]? = some s := get_some (by have := hRS.1; omega)
                have hnd : Nodup r := ((hRS.2 j r sj hr hsj).1.nodup).perm (hRS.2 j r sj hr hsj).2.symm
                have hnext : ∀ t', Asc t' → t'.Perm r → ∀ (i : Nat) (r0 t : List Var), R[i]? = some r0 → (T.set j t')[i]? = some t → (i < j + 1 → Asc t ∧ t.Perm r0) ∧ (j + 1 ≤ i → t = r0) := fun t' h1 h2 i r0 t hr0 ht => by
                  by_cases e : i = j
                  · subst e
                    rw [List.getElem?_set_self (by omega)] at ht
                    rw [hr] at hr0
                    cases ht; cases hr0
                    exact ⟨fun _ => ⟨h1, h2⟩, fun h => by omega⟩
                  · rw [List.getElem?_set_ne (Ne.symm e)] at ht
                    have := hT i r0 t hr0 ht
                    exact ⟨fun h => this.1 (by omega), fun h => this.2 (by omega)⟩
                have hcs : ∀ t' : List Var, t'.length = r.length → ((T.map (oRow 51)).set j (.val hd)).set j (.own 51 2 r.length (t'.flatMap cVar)) = (T.set j t').map (oRow 51) := fun t' h => by
                  rw [List.set_set, ← h, List.map_set]; rfl
                unfold oRow
                refine nav ?_
                (refine aC_region ?_
                  <;> refine xL 181 (q_idxoN 68 tSl56_EwH) ?_
                  <;> (refine aL_y 182 rfl rfl (Nat.le_of_ble_eq_true rfl) (y_ld_ownI 68 j tNa47_EwH rfl rfl rfl (by first | rfl | omega) hc68 rfl) ?_; intro v182 hv182; cases hv182)
                  <;> refine xL 29 q_assign ?_
                  <;> refine aL_end (nav ?_) <;> try dsimp only)
                (refine aC_region ?_
                  <;> refine xL 183 q_move ?_
                  <;> refine xL 184 (q_leno 601 tSl47_EwH) ?_
                  <;> refine xL 185 q_gtr ?_
                  <;> refine aL_end (nav ?_) <;> try dsimp only)
                refine aC_cond rfl ?_ ?_
                · intro hb49
                  refine nav ?_
                  (refine aC_region ?_
                    <;> refine xL 4 q_assign ?_
                    <;> refine xL 5 q_assign ?_
                    <;> refine aL_end (nav ?_) <;> try dsimp only)
                  refine aR_ent (nilSl (t := 4) rfl) fun _ => ?_
                  refine ret_ss (Tryz.results32) rfl rfl (rsp_err (splitR_5 hV hF hIn hall hB ?_))
                  rw [← hRS.any manyVars fun _ _ h => many_perm h]
                  exact any_yes hr (by unfold manyVars; have := of_decide_eq_true hb49; exact decide_eq_true (by omega))
                · intro hb49
                  have hle : r.length ≤ 300 := by have := of_decide_eq_false hb49; omega
                  have hm1 : ∀ (i : Nat) (r0 : List Var), i < j + 1 → R[i]? = some r0 → manyVars r0 = false := fun i r0 hi hr0 => by
                    by_cases e : i = j
                    · subst e; rw [hr] at hr0; cases hr0; unfold manyVars; exact decide_eq_false (by omega)
                    · exact hmany i r0 (by omega) hr0
                  refine (show r = [] ∨ 0 < r.length by cases r with | nil => exact .inl rfl | cons => exact .inr (by simp)).elim (fun h0 => ?_) (fun h0 => ?_)
                  · have hl0 : r.length = 0 := by rw [h0]; rfl
                    refine nav ?_
                    (refine aC_region ?_
                      <;> refine xL 186 q_move ?_
                      <;> (refine aL_sort0 (l := 601) sortVar_none rfl rfl (Nat.le_of_ble_eq_true rfl) rfl (Tryz.call94) rfl rfl (by rw [hl0]; rfl) ?_)
                      <;> refine aL_end (nav ?_) <;> try dsimp only)
                    refine aC_ent (fold (l := 68) (l' := 601) (j := j) rfl hc68 rfl rfl) fun _ => ?_
                    (refine aC_region ?_
                      <;> refine xL 188 q_add ?_
                      <;> refine xL 179 q_move ?_
                      <;> refine aL_end (nav ?_) <;> try dsimp only)
                    exact aN_again ⟨(j + 1, T.set j r), by show j + 1 ≤ _; omega, by show (T.set j r).length = _; rw [List.length_set]; exact hTl, hnext r (by rw [h0]; exact List.Pairwise.nil) (.refl _), hm1⟩ (by show c.parts.length - (j + 1) < c.parts.length - j; omega) ⟨rfl, rfl, rfl, rfl, trivial⟩ ⟨congrArg (fun cs => some (h68, PV.own 47 1 c.parts.length cs)) (hcs r rfl), trivial⟩
                  · refine nav ?_
                    (refine aC_region ?_
                      <;> refine xL 186 q_move ?_
                      <;> (refine aL_sort (l := 601) (f := cVar) (rows := r) (cmp := fun a b : Var => cmpStrs a.acts b.acts) sortVar_c cVar_len (by decide) (fun _ => rfl) cmp_irr cmp_tr cmp_nt (fun x y M W u v hx hy hu hv => cSplit2_c x y (wok_fit (hWr x hx)) (wok_fit (hWr y hy)) M W u v hu hv) h0 (by omega) rfl rfl (Nat.le_of_ble_eq_true rfl) rfl (Tryz.call94) rfl rfl rfl ?_; intro r2 hp2 hs2)
                      <;> refine aL_end (nav ?_) <;> try dsimp only)
                    refine aC_ent (fold (l := 68) (l' := 601) (j := j) rfl hc68 rfl rfl) fun _ => ?_
                    (refine aC_region ?_
                      <;> refine xL 188 q_add ?_
                      <;> refine xL 179 q_move ?_
                      <;> refine aL_end (nav ?_) <;> try dsimp only)
                    exact aN_again ⟨(j + 1, T.set j r2), by show j + 1 ≤ _; omega, by show (T.set j r2).length = _; rw [List.length_set]; exact hTl, hnext r2 (asc_of hnd hp2 hs2) hp2, hm1⟩ (by show c.parts.length - (j + 1) < c.parts.length - j; omega) ⟨rfl, rfl, rfl, rfl, trivial⟩ ⟨congrArg (fun cs => some (h68, PV.own 47 1 c.parts.length cs)) (hcs r2 hp2.length_eq), trivial⟩
              · intro hb47
                have hgej : c.parts.length ≤ j := by have := of_decide_eq_false hb47; omega
                have hM : S.any manyVars = false := by
                  rw [← hRS.any manyVars fun _ _ h => many_perm h]
                  exact any_no fun i r hr => hmany i r (by have := lt_of_get hr; omega) hr
                have hTS : T = S := hRS.sorted hTl fun i r t hr ht => (hT i r t hr ht).1 (by have := lt_of_get hr; omega)
                refine nav ?_
                (refine aC_region ?_
                  <;> refine xL 189 q_move ?_
                  <;> refine xL 4 q_assign ?_
                  <;> refine xL 5 q_assign ?_
                  <;> refine aL_end (nav ?_) <;> try dsimp only)
                refine aR_ent (En.freeze (l := 68) (t := 4) rfl rfl) fun _ => ?_
                refine ret_ss (Tryz.results32) rfl rfl ?_
                rw [splitR_0 hV hF hIn hall hB hM, share_rows _ _ _ _ (by omega), hTS]; rfl
  · (refine aC_region ?_
      <;> (refine yL 31 (q_ldao 3 tAgg28_EwH) fun v31 hv31 => ?_; cases hv31)
      <;> (refine aL_ct (R := fun p => ∃ q, p = .tup [q, pBool false] ∧ cellOk q = true) 32 32 201 rfl rfl (Nat.le_of_ble_eq_true rfl) rfl rfl rfl (callA rfl (Tryz.call44) rfl ((cparts_e c hs).mono fun p ⟨q, e1, _, e3⟩ => ⟨q, by rw [e1, hF], by rcases e3 with rfl | ⟨es, rfl⟩ <;> rfl⟩)) ?_; rintro p' ⟨q, rfl, hq⟩; refine ⟨_, _, rfl, hq, rfl, ?_⟩; intro h32 v201 _ hv201 ho32 _; cases hv201)
      <;> refine xL 30 q_move ?_
      <;> refine xL 33 q_extract ?_
      <;> refine xL 34 q_extract ?_
      <;> refine xL 6 q_assign ?_
      <;> refine xL 7 q_assign ?_
      <;> refine aL_end (nav ?_) <;> try dsimp only)
    (refine aC_region ?_
      <;> refine xL 35 q_move ?_
      <;> refine xL 36 q_not ?_
      <;> refine xL 37 q_move ?_
      <;> refine kL 38 ?_
      <;> refine kL 39 ?_
      <;> refine kL 40 ?_
      <;> refine xL 41 q_pick ?_
      <;> refine aL_end (nav ?_) <;> try dsimp only)
    refine aC_cond rfl ?_ (fun h => by cases h)
    intro _
    refine nav ?_
    (refine aC_region ?_
      <;> refine xL 4 q_assign ?_
      <;> refine xL 5 q_assign ?_
      <;> refine aL_end (nav ?_) <;> try dsimp only)
    refine aR_ent (nilSl (t := 4) rfl) fun _ => ?_
    refine ret_ss (Tryz.results32) rfl rfl (rsp_err (splitR_1 ?_))
    rw [hF]; simp
end Go.Proofs.YtoanjgpdepaciaaGreat
